/- Contracts that the claim stands on: XApp to XLower. -/
import Derived.Deep.AppendLies
import Derived.Deep.LoopGhost
import Derived.Deep.DeepCutAuto
import Derived.Test.YtngikkggjidenabGreatM2
set_option maxRecDepth 100000
set_option maxHeartbeats 4000000
namespace Go.Proofs.YtngikkggjidenabGreat
open Go.RowKit
def NoUL (l:List Value):Prop:=∀x∈l,∀k:Int,x≠ .int .u32 k
theorem NoUL.app {a b:List Value}(h:NoUL a)(k:NoUL b):NoUL (a++b):=fun x hx=>by
  rcases List.mem_append.1 hx with hx|hx
  · exact h x hx
  exact k x hx
theorem NoUL.left {a b:List Value}(h:NoUL (a++b)):NoUL a:=fun x hx=>h x (List.mem_append_left _ hx)
theorem NoUL.right {a b:List Value}(h:NoUL (a++b)):NoUL b:=fun x hx=>h x (List.mem_append_right _ hx)
theorem NoUL.drop {a:List Value}(h:NoUL a)(n:Nat):NoUL (a.drop n):=fun x hx=>h x (List.mem_of_mem_drop hx)
theorem NoUL.arr {a:List Value}(h:NoUL a):NoU a.toArray:=noU_of _ h
theorem noUL_zero (z:Array Value)(n:Nat)(hs:0<z.size)(h:NoUL z.toList):NoUL (Builtin.zeroCells z n).toList:=by
  intro x hx k;unfold Builtin.zeroCells at hx;simp only[Array.toList_map,List.mem_map]at hx;obtain⟨i,_,rfl⟩:=hx;have hlt:i%z.size<z.size:=Nat.mod_lt _ hs;rw[getElem!_pos z _ hlt];exact h _ (by simp) k
def RowN (w:World)(base:Nat)(e:TypeId)(size:Nat)(v:Value)(n:Nat)(xs:List Value):Prop:=
  xs.length=n*size/\(v= .slice none 0 0/\n=0\/
    ∃g cap rest,v= .slice (some ⟨g,0,none⟩) n cap/\base<=g/\Blk w g e (xs++rest).toArray/\n<=cap/\cap<=maxLen/\xs.length+rest.length=cap*size/\NoUL (xs++rest))
theorem RowN.nil (w:World)(base:Nat)(e:TypeId)(size:Nat):RowN w base e size (.slice none 0 0) 0 []:=⟨by simp,.inl ⟨rfl,rfl⟩⟩
theorem RowN.ext {w w':World}{base:Nat}{e:TypeId}{size:Nat}{v:Value}{n:Nat}{xs:List Value}(h:RowN w base e size v n xs)(x:Ext w w'):RowN w' base e size v n xs:=by
  obtain⟨h1,h2|⟨g,cap,rest,a,b,c,d⟩⟩:=h
  · exact⟨h1,.inl h2⟩
  exact⟨h1,.inr ⟨g,cap,rest,a,b,c.ext x,d⟩⟩
theorem RowN.block {w:World}{base:Nat}{e:TypeId}{size:Nat}{v:Value}{n:Nat}{xs:List Value}(h:RowN w base e size v n xs):∀k,v.ownBlock=some k->base<=k:=by
  intro k hk;obtain⟨h1,⟨rfl,_⟩|⟨g,cap,rest,rfl,b,_⟩⟩:=h
  · simp[Value.ownBlock]at hk
  simp[Value.ownBlock]at hk;omega
theorem RowN.own {w w':World}{base:Nat}{e:TypeId}{size:Nat}{v:Value}{n:Nat}{xs:List Value}(h:RowN w base e size v n xs){X:Nat}(o:Own X w w')(hne:∀k,v.ownBlock=some k->k≠X):RowN w' base e size v n xs:=by
  obtain⟨h1,h2|⟨g,cap,rest,rfl,b,c,d⟩⟩:=h
  · exact⟨h1,.inl h2⟩
  exact⟨h1,.inr ⟨g,cap,rest,rfl,b,c.own o (hne g (by simp[Value.ownBlock])),d⟩⟩
theorem own_setRow (w:World)(g:Nat)(cs:Array Value):Own g w (w.setRow g cs):=
  ⟨rfl,rfl,rfl,by simp,fun k _ hk=>setRow_other w g k _ (fun e=>hk (by rw[e]))⟩
theorem run_append_rowN {P:Program}(w:World)(base:Nat)(t ty e:TypeId)(i:TypeInfo)(z:Value)(size bytes:Nat)(ht:P.underlying t=some (.slice e))(hi:P.info? e=some i)(hz:i.zero=some z)
    (hsize:i.size=size)(hby:i.bytes=bytes)(hzs:z.cells.size=size)(hsz:0<size)(hzu:NoUL z.cells.toList)
    (v:Value)(n:Nat)(xs:List Value)(hown:RowN w base e size v n xs)
    (a:Addr)(m c:Nat)(news:List Value)(hl:news.length=m*size)(hnews:∀j u,news[j]?=some u->w.cell? (a.add j)=some u)(h1:∀u∈news,u.oneCell'=true)(hnu:NoUL news)
    (hm:0<m)(h63:n+m<=maxLen)(hbytes:(n+m)*bytes<=140737488355328)(hbase:base<=w.heap.size):
    ∃ v' w',(Builtin.append_ #[t,t] ty #[v,.slice (some a) m c]).run P w= .ok v' w'/\RowN w' base e size v' (n+m) (xs++news)/\w.grownBy w' v.ownBlock/\
      (∀(r:RV) (q:Rat),r.Is w q->r.Is w' q)/\∃g cap,v'= .slice (some ⟨g,0,none⟩) (n+m) cap/\(v.ownBlock=some g\/w.heap.size<=g):=by
  subst hsize;subst hby
  have hsmall:n+m<=9223372036854775807:=by simp only[maxLen]at h63;omega
  have hlen:(xs++news).length=(n+m)*i.size:=by rw[List.length_append,hown.1,hl,Nat.add_mul]
  have hzc:∀k,NoUL (Builtin.zeroCells z.cells k).toList:=fun k=>noUL_zero _ _ (by omega) hzu
  have grown:∀(old:Nat),old<n+m->NoUL xs->∀(row:Option Nat),
      RowN (w.drew.alloc (.cells (xs.toArray++news.toArray++Builtin.zeroCells z.cells (grownCap w (n+m) old e-(n+m))) e)) base e i.size
        (.slice (some ⟨w.heap.size,0,none⟩) (n+m) (grownCap w (n+m) old e)) (n+m) (xs++news)/\
      w.grownBy (w.drew.alloc (.cells (xs.toArray++news.toArray++Builtin.zeroCells z.cells (grownCap w (n+m) old e-(n+m))) e)) row/\
      Ext w (w.drew.alloc (.cells (xs.toArray++news.toArray++Builtin.zeroCells z.cells (grownCap w (n+m) old e-(n+m))) e)):=by
    intro old ho hxu row;have hge:=grownCap_ge w (n+m) old e;have hcm:grownCap w (n+m) old e<=maxLen:=grownCap_le_maxLen w (n+m) old e h63;refine⟨⟨hlen,.inr ⟨w.heap.size,_,(Builtin.zeroCells z.cells (grownCap w (n+m) old e-(n+m))).toList,rfl,hbase,?_,hge,hcm,?_,(hxu.app hnu).app (hzc _)⟩⟩,⟨rfl,rfl,rfl,by simp,fun k hk _=>Below.heap_alloc w.drew _ k hk⟩,((Ext.refl w).drew).alloc _⟩
    · have h:=Blk.new w.drew e (xs.toArray++news.toArray++Builtin.zeroCells z.cells (grownCap w (n+m) old e-(n+m)))
      have e2:(xs++news++(Builtin.zeroCells z.cells (grownCap w (n+m) old e-(n+m))).toList).toArray=xs.toArray++news.toArray++Builtin.zeroCells z.cells (grownCap w (n+m) old e-(n+m)):=by
        apply Array.ext';simp
      rw[e2];exact h
    rw[hlen,Array.length_toList,size_zeroCells,hzs,<-Nat.add_mul];congr 1;omega
  rcases hown.2 with⟨rfl,rfl⟩|⟨g,cap,rest,rfl,hbg,hg,hnc,hcm,hcs,hnr⟩
  · have hx:xs=[]:=List.eq_nil_of_length_eq_zero (by simpa using hown.1)
    subst hx;have hr:=run_append_nil (P:=P) w t ty e i z ht hi hz a m c news hl hnews (by omega) (by omega) (by have hb:=hbytes;simp only[Nat.zero_add]at hb;omega);have hgr:=grown 0 (by omega) (by intro x hx;simp at hx) (Value.ownBlock (.slice none 0 0));simp only[Nat.zero_add,List.nil_append,Array.empty_append]at hgr⊢;exact⟨_,_,hr,hgr.1,hgr.2.1,fun r q h=>h.ext hgr.2.2,_,_,rfl,.inr (Nat.le_refl _)⟩
  by_cases hroom:n+m<=cap
  · have hcur:(xs++rest).toArray.size=cap*i.size:=by simp[hcs]
    have hfit:n*i.size+news.length<=(xs++rest).toArray.size:=by rw[hl,hcur,<-Nat.add_mul];exact Nat.mul_le_mul_right _ hroom
    have hr:=run_append_room (P:=P) w t ty e i ht hi g n cap _ hg a m c news hl hnews h1 hroom hfit;have ho:=own_setRow w g ((xs++rest).toArray.toList.take (n*i.size)++news++(xs++rest).toArray.toList.drop (n*i.size+news.length)).toArray;have e1:(xs++rest).toArray.toList.take (n*i.size)=xs:=by rw[List.toList_toArray,<-hown.1];exact List.take_left
    have e2:(xs++rest).toArray.toList.drop (n*i.size+news.length)=rest.drop news.length:=by
      rw[List.toList_toArray,<-hown.1,List.drop_append,List.drop_of_length_le (by omega),List.nil_append];congr 1;omega
    rw[e1,e2]at hr ho;refine⟨_,_,hr,⟨hlen,.inr ⟨g,cap,rest.drop news.length,rfl,hbg,setRow_heap w g _ _ e _ hg,hroom,hcm,?_,(hnr.left.app hnu).app (hnr.right.drop _)⟩⟩,?_,fun r q h=>h.own hg hnr.arr ho,_,_,rfl,.inl (by simp[Value.ownBlock])⟩
    · rw[List.length_append,List.length_drop]
      have h5:(xs++rest).toArray.size=xs.length+rest.length:=by simp
      have h6:=hown.1;omega
    exact ho
  have holds:∀j u,xs[j]?=some u->w.cell? ((⟨g,0,none⟩:Addr).add j)=some u:=by
    intro j u hj;have e3:(⟨g,0,none⟩:Addr).add j=⟨g,j,none⟩:=by unfold Addr.add;split<;>simp_all
    rw[e3,hg.cell j,List.getElem?_toArray,List.getElem?_append_left (List.getElem?_eq_some_iff.1 hj).1];exact hj
  have hr:=run_append_grow (P:=P) w t ty e i z ht hi hz ⟨g,0,none⟩ n cap xs hown.1 holds a m c news hl hnews (by omega) (by omega) (growslice_fits (by omega) hbytes);have hgr:=grown cap (by omega) hnr.left (Value.ownBlock (.slice (some ⟨g,0,none⟩) n cap));exact⟨_,_,hr,hgr.1,hgr.2.1,fun r q h=>h.ext hgr.2.2,_,_,rfl,.inr (Nat.le_refl _)⟩
theorem wp_append_rowF {P:Program}{w:World}{o:Oper}{a:Act}{K:Act->World->Prop}{Q:Exit->Act->World->Prop}(s x:Operand)(t:TypeId)
    (ho:o.op= .call {callee:= .builtin .append,args:=#[s,x],argTypes:=#[t,t]})
    (base:Nat)(e:TypeId)(i:TypeInfo)(z:Value)(size bytes:Nat)(ht:P.underlying t=some (.slice e))(hi:P.info? e=some i)(hz:i.zero=some z)
    (hsize:i.size=size)(hby:i.bytes=bytes)(hzs:z.cells.size=size)(hsz:0<size)(hzu:NoUL z.cells.toList)
    (v:Value)(n:Nat)(xs:List Value)(hs:a.eval s=v)(hown:RowN w base e size v n xs)
    (ad:Addr)(m c:Nat)(news:List Value)(hx:a.eval x= .slice (some ad) m c)(hl:news.length=m*size)(hnews:∀j u,news[j]?=some u->w.cell? (ad.add j)=some u)(h1:∀u∈news,u.oneCell'=true)(hnu:NoUL news)
    (hm:0<m)(h63:n+m<=maxLen)(hbytes:(n+m)*bytes<=140737488355328)(hbase:base<=w.heap.size)
    (h:∀g cap w',(v.ownBlock=some g\/w.heap.size<=g)->RowN w' base e size (.slice (some ⟨g,0,none⟩) (n+m) cap) (n+m) (xs++news)->w.grownBy w' v.ownBlock->(∀(r:RV) (q:Rat),r.Is w q->r.Is w' q)->K (a.put o.dst (.slice (some ⟨g,0,none⟩) (n+m) cap)) w'):o.wp P a w K Q:=by
  obtain⟨v',w',hr,h2,h3,h4,g,cap,rfl,hf⟩:=run_append_rowN (P:=P) w base t o.type e i z size bytes ht hi hz hsize hby hzs hsz hzu v n xs hown ad m c news hl hnews h1 hnu hm h63 hbytes hbase;unfold Oper.wp execOp;simp only[ho,resolve,invoke,builtin,Sem.run_bind,Sem.run_pure,Result.andThen_ok,List.map_toArray,List.map_cons,List.map_nil,hs,hx,hr];exact h g cap w' hf h2 h3 h4
theorem md_range {P:Program}{l:List Oper}{Q:Exit->Act->World->Prop}{md:Region.Mode}{S:World->Prop}{i:Nat}{oi:Oper}{fuel:Nat}{listed listed':Array Bool}{a:Act}{w:World}
    (hi:l[i]?=some oi)(hs:Region.noSelect l.toArray=true)(hf:Region.free md l.toArray listed i=true)(hr:(Region.ready md l.toArray listed).contains i=true)
    (ty:TypeId)(x:Operand)(ho:oi.op= .load ty x)(g o:Nat)(cs:List Value)(d:TypeDesc)
    (hQ:∀c a w,Q (.panic c) (a.put oi.dst (.agg cs.toArray)) w->Q (.panic c) a w)(hw:Region.wanted oi (yielded l.toArray a.tmps)=true)(hx:a.eval x= .pointer (some ⟨g,o,none⟩))(hb:∀w,S w->w.rangeAt g o cs)
    (hu:P.underlying ty=some d)(hd:d.isRow=true)(hz:(P.info? ty).map (·.size)=some cs.length)(hS:S w)
    (hl:listed.setIfInBounds i true=listed')(h:wpAnyH P md l.toArray Q S fuel listed' (a.put oi.dst (.agg cs.toArray)) w):wpAnyH P md l.toArray Q S (fuel+1) listed a w:=
  wpAnyH_take_l (v:= .agg cs.toArray) hi hs hf hr hQ (yieldsIf_load_mid (P:=P) (ops:=l.toArray) (S:=S) hw ty x ho g o hx cs d hb hu hd hz) hS (by rw[hl];exact h)
theorem md_appendF {P:Program}{l:List Oper}{Q:Exit->Act->World->Prop}{md:Region.Mode}{S:World->Prop}{j:Nat}{oi:Oper}{fuel:Nat}{listed listed':Array Bool}{a:Act}{w:World}
    (hj:l[j]?=some oi)(hr:Region.ready md l.toArray listed=[j])(hw:Region.wanted oi (yielded l.toArray a.tmps)=true)(s x:Operand)(t:TypeId)
    (ho:oi.op= .call {callee:= .builtin .append,args:=#[s,x],argTypes:=#[t,t]})
    (base:Nat)(e:TypeId)(i:TypeInfo)(z:Value)(size bytes:Nat)(ht:P.underlying t=some (.slice e))(hi:P.info? e=some i)(hz:i.zero=some z)
    (hsize:i.size=size)(hby:i.bytes=bytes)(hzs:z.cells.size=size)(hsz:0<size)(hzu:NoUL z.cells.toList)
    (v:Value)(n:Nat)(xs:List Value)(hs:a.eval s=v)(hown:RowN w base e size v n xs)
    (ad:Addr)(m c:Nat)(news:List Value)(hx:a.eval x= .slice (some ad) m c)(hl:news.length=m*size)(hnews:∀j u,news[j]?=some u->w.cell? (ad.add j)=some u)(h1:∀u∈news,u.oneCell'=true)(hnu:NoUL news)
    (hm:0<m)(h63:n+m<=maxLen)(hbytes:(n+m)*bytes<=140737488355328)(hbase:base<=w.heap.size)(hl':listed.setIfInBounds j true=listed')
    (h:∀g cap w',(v.ownBlock=some g\/w.heap.size<=g)->RowN w' base e size (.slice (some ⟨g,0,none⟩) (n+m) cap) (n+m) (xs++news)->w.grownBy w' v.ownBlock->(∀(r:RV) (q:Rat),r.Is w q->r.Is w' q)->
      S w'/\wpAnyH P md l.toArray Q S fuel listed' (a.put oi.dst (.slice (some ⟨g,0,none⟩) (n+m) cap)) w'):wpAnyH P md l.toArray Q S (fuel+1) listed a w:=
  wpAnyH_one_l hj hr (fun K hK=>by
    rw[if_pos hw];refine wp_append_rowF s x t ho base e i z size bytes ht hi hz hsize hby hzs hsz hzu v n xs hs hown ad m c news hx hl hnews h1 hnu hm h63 hbytes hbase fun g cap w' hf h2 h3 h4=> ?_
    obtain⟨k1,k2⟩:=h g cap w' hf h2 h3 h4;exact hK.out _ _ k1 (fun _=>by rw[hl'];exact k2))
theorem Blk.grown {w w':World}{b:Nat}{t:TypeId}{cs:Array Value}{row:Option Nat}(h:Blk w b t cs)(hg:w.grownBy w' row)(hne:row≠some b):Blk w' b t cs:=by
  unfold Blk;rw[hg.block b h.lt (Ne.symm hne)];exact h
section
variable {P:Program} {l:List Oper} {Q:Exit->Act->World->Prop} {md:Region.Mode} {S:World->Prop} {oi:Oper} {fuel:Nat} {listed:Array Bool} {a:Act} {w:World} {a':Act} {v:Value}
theorem mR (i:Nat)(listed':Array Bool){ty:TypeId}{x:Operand}{d:TypeDesc}(g o:Nat)(cs:List Value)(hb:∀w,S w->w.rangeAt g o cs)(hu:P.underlying ty=some d)(hS:S w)(h:wpAnyH P md l.toArray Q S fuel listed' (a.put oi.dst (.agg cs.toArray)) w)(hi:l[i]?=some oi:=by rfl)(hs:Region.noSelect l.toArray=true:=by kernel_rfl)(hf:Region.free md l.toArray listed i=true:=by kernel_rfl)(hr:(Region.ready md l.toArray listed).contains i=true:=by kernel_rfl)(ho:oi.op= .load ty x:=by rfl)(hQ:∀c a w,Q (.panic c) (a.put oi.dst (.agg cs.toArray)) w->Q (.panic c) a w:=by intro _ _ _ h;exact h)(hw:Region.wanted oi (yielded l.toArray a.tmps)=true:=by rfl)(hx:a.eval x= .pointer (some ⟨g,o,none⟩):=by rfl)(hd:d.isRow=true:=by rfl)(hz:(P.info? ty).map (·.size)=some cs.length:=by kernel_rfl)(hl:listed.setIfInBounds i true=listed':=by kernel_rfl):wpAnyH P md l.toArray Q S (fuel+1) listed a w:=md_range hi hs hf hr ty x ho g o cs d hQ hw hx hb hu hd hz hS hl h
theorem zx (i:Nat)(listed':Array Bool)(v:Value)(hS:S w)(h:wpAnyH P md l.toArray Q S fuel listed' a' w)(hi:l[i]?=some oi:=by rfl)(hs:Region.noSelect l.toArray=true:=by kernel_rfl)(hf:Region.free md l.toArray listed i=true:=by kernel_rfl)(hr:(Region.ready md l.toArray listed).contains i=true:=by kernel_rfl)(hQ:∀c a w,Q (.panic c) (a.put oi.dst v) w->Q (.panic c) a w:=by intro _ _ _ h;exact h)(hw:Region.wanted oi (yielded l.toArray a.tmps)=true:=by rfl)(hv:∀w,S w->(execOp a.eval oi).run P w= .ok (.value v) w:=by intro w hSw;go_simp<;>with_reducible rfl)(hl:listed.setIfInBounds i true=listed':=by kernel_rfl)(ha:a.put oi.dst v=a':=by simp only[Act.put,zA,zB,zC]<;>rfl):wpAnyH P md l.toArray Q S (fuel+1) listed a w:=by subst ha;exact md_val hi hs hf hr hQ hw hv hS hl h
theorem zv (i:Nat)(listed':Array Bool)(hS:S w)(h:wpAnyH P md l.toArray Q S fuel listed' a' w)(hi:l[i]?=some oi:=by rfl)(hs:Region.noSelect l.toArray=true:=by kernel_rfl)(hf:Region.free md l.toArray listed i=true:=by kernel_rfl)(hr:(Region.ready md l.toArray listed).contains i=true:=by kernel_rfl)(hQ:∀c a w,Q (.panic c) (a.put oi.dst v) w->Q (.panic c) a w:=by intro _ _ _ h;exact h)(hw:Region.wanted oi (yielded l.toArray a.tmps)=true:=by rfl)(hv:∀w,S w->(execOp a.eval oi).run P w= .ok (.value v) w:=by intro w hSw;(try dsimp only at hSw);go_simp<;>with_reducible rfl)(hl:listed.setIfInBounds i true=listed':=by kernel_rfl)(ha:a.put oi.dst v=a':=by simp only[Act.put,zA,zB,zC]<;>rfl):wpAnyH P md l.toArray Q S (fuel+1) listed a w:=by subst ha;exact md_val hi hs hf hr hQ hw hv hS hl h
theorem zs (i:Nat)(listed':Array Bool)(hS:S w)(h:wpAnyH P md l.toArray Q S fuel listed' a' w)(hi:l[i]?=some oi:=by rfl)(hs:Region.noSelect l.toArray=true:=by kernel_rfl)(hf:Region.free md l.toArray listed i=true:=by kernel_rfl)(hr:(Region.ready md l.toArray listed).contains i=true:=by kernel_rfl)(hQ:∀c a w,Q (.panic c) (a.put oi.dst undef) w->Q (.panic c) a w:=by intro _ _ _ h;exact h)(hn:Region.wanted oi (yielded l.toArray a.tmps)=false:=by rfl)(hl:listed.setIfInBounds i true=listed':=by kernel_rfl)(ha:a.put oi.dst undef=a':=by simp only[Act.put,zA,zB,zC]<;>rfl):wpAnyH P md l.toArray Q S (fuel+1) listed a w:=by subst ha;exact md_skip hi hs hf hr hQ hn hS hl h
theorem zl (i:Nat)(listed':Array Bool){ty:TypeId}{x:Operand}{t:TypeId}{d:TypeDesc}{g:Nat}{cs:Array Value}(hb:∀w,S w->Blk w g t cs)(hu:P.underlying ty=some d)(hz:(P.info? ty).map (·.size)=some cs.size)(hS:S w)(h:wpAnyH P md l.toArray Q S fuel listed' a' w)(hi:l[i]?=some oi:=by rfl)(hs:Region.noSelect l.toArray=true:=by kernel_rfl)(hf:Region.free md l.toArray listed i=true:=by kernel_rfl)(hr:(Region.ready md l.toArray listed).contains i=true:=by kernel_rfl)(ho:oi.op= .load ty x:=by rfl)(hQ:∀c a w,Q (.panic c) (a.put oi.dst (.agg cs)) w->Q (.panic c) a w:=by intro _ _ _ h;exact h)(hw:Region.wanted oi (yielded l.toArray a.tmps)=true:=by rfl)(hx:a.eval x= .pointer (some ⟨g,0,none⟩):=by rfl)(hd:d.isRow=true:=by rfl)(hl:listed.setIfInBounds i true=listed':=by kernel_rfl)(ha:a.put oi.dst (.agg cs)=a':=by simp only[Act.put,zA,zB,zC]<;>rfl):wpAnyH P md l.toArray Q S (fuel+1) listed a w:=by subst ha;exact md_load hi hs hf hr ty x ho g t cs d hQ hw hx hb hu hd hz hS hl h
theorem zr (i:Nat)(listed':Array Bool){ty:TypeId}{x:Operand}{d:TypeDesc}(g o:Nat)(cs:List Value)(hb:∀w,S w->w.rangeAt g o cs)(hu:P.underlying ty=some d)(hS:S w)(h:wpAnyH P md l.toArray Q S fuel listed' a' w)(hi:l[i]?=some oi:=by rfl)(hs:Region.noSelect l.toArray=true:=by kernel_rfl)(hf:Region.free md l.toArray listed i=true:=by kernel_rfl)(hr:(Region.ready md l.toArray listed).contains i=true:=by kernel_rfl)(ho:oi.op= .load ty x:=by rfl)(hQ:∀c a w,Q (.panic c) (a.put oi.dst (.agg cs.toArray)) w->Q (.panic c) a w:=by intro _ _ _ h;exact h)(hw:Region.wanted oi (yielded l.toArray a.tmps)=true:=by rfl)(hx:a.eval x= .pointer (some ⟨g,o,none⟩):=by rfl)(hd:d.isRow=true:=by rfl)(hz:(P.info? ty).map (·.size)=some cs.length:=by kernel_rfl)(hl:listed.setIfInBounds i true=listed':=by kernel_rfl)(ha:a.put oi.dst (.agg cs.toArray)=a':=by simp only[Act.put,zA,zB,zC]<;>rfl):wpAnyH P md l.toArray Q S (fuel+1) listed a w:=by subst ha;exact md_range hi hs hf hr ty x ho g o cs d hQ hw hx hb hu hd hz hS hl h
theorem zq {ops:Array Oper}{rest:List Oper}{op:Oper}(v:Value)(h:wpList P ops Q rest a' w)(hw:Region.wanted op (yielded ops a.tmps)=true:=by rfl)(hv:(execOp a.eval op).run P w= .ok (.value v) w:=by go_simp<;>with_reducible rfl)(ha:a.put op.dst v=a':=by simp only[Act.put,zA,zB,zC]<;>rfl):wpList P ops Q (op::rest) a w:=by subst ha;exact mv_val hw hv h
theorem zp {ops:Array Oper}{rest:List Oper}{op:Oper}{w':World}(v:Value)(hv:(execOp a.eval op).run P w= .ok (.value v) w')(h:wpList P ops Q rest a' w')(hw:Region.wanted op (yielded ops a.tmps)=true:=by rfl)(ha:a.put op.dst v=a':=by simp only[Act.put,zA,zB,zC]<;>rfl):wpList P ops Q (op::rest) a w:=by subst ha;exact mv_val hw hv h
theorem zk {ops:Array Oper}{rest:List Oper}{op:Oper}(h:wpList P ops Q rest a' w)(hn:Region.wanted op (yielded ops a.tmps)=false:=by rfl)(ha:a.put op.dst undef=a':=by simp only[Act.put,zA,zB,zC]<;>rfl):wpList P ops Q (op::rest) a w:=by subst ha;exact mv_skip hn h
theorem zu (i:Nat)(listed':Array Bool)(hS:S w)(h:wpAnyH P md l.toArray Q S fuel listed' a' w)(hi:l[i]?=some oi:=by rfl)(hs:Region.noSelect l.toArray=true:=by kernel_rfl)(hf:Region.free md l.toArray listed i=true:=by kernel_rfl)(hr:(Region.ready md l.toArray listed).contains i=true:=by kernel_rfl)(hv:∀w,S w->(execOp a.eval oi).run P w= .ok (.value v) w)(hQ:∀c a w,Q (.panic c) (a.put oi.dst v) w->Q (.panic c) a w:=by intro _ _ _ h;exact h)(hw:Region.wanted oi (yielded l.toArray a.tmps)=true:=by rfl)(hl:listed.setIfInBounds i true=listed':=by kernel_rfl)(ha:a.put oi.dst v=a':=by simp only[Act.put,zA,zB,zC]<;>rfl):wpAnyH P md l.toArray Q S (fuel+1) listed a w:=by subst ha;exact md_val hi hs hf hr hQ hw hv hS hl h
theorem zo (i:Nat)(listed':Array Bool)(hS:S w)(h:wpAnyH P md l.toArray Q S fuel listed' (a.put oi.dst v) w)(hi:l[i]?=some oi:=by rfl)(hs:Region.noSelect l.toArray=true:=by kernel_rfl)(hf:Region.free md l.toArray listed i=true:=by kernel_rfl)(hr:(Region.ready md l.toArray listed).contains i=true:=by kernel_rfl)(hv:∀w,S w->(execOp a.eval oi).run P w= .ok (.value v) w)(hQ:∀c a w,Q (.panic c) (a.put oi.dst v) w->Q (.panic c) a w:=by intro _ _ _ h;exact h)(hw:Region.wanted oi (yielded l.toArray a.tmps)=true:=by rfl)(hl:listed.setIfInBounds i true=listed':=by kernel_rfl):wpAnyH P md l.toArray Q S (fuel+1) listed a w:=md_val hi hs hf hr hQ hw hv hS hl h
end
end Go.Proofs.YtngikkggjidenabGreat
namespace Go.Proofs.YtngikkggjidenabGreat
open Go.RowKit
attribute [local go_sem ↓] Go.wp_at_zero Go.wp_at_succ run_max_ii run_min_ii
theorem Own.trans {g:Nat}{a b c:World}(h:Own g a b)(k:Own g b c):Own g a c:=
  ⟨k.os.trans h.os,k.tape.trans h.tape,k.output.trans h.output,Nat.le_trans h.size k.size,fun i hi hn=>(k.block i (Nat.lt_of_lt_of_le hi h.size) hn).trans (h.block i hi hn)⟩
theorem RV.In.own {L:Nat}{w w':World}{a:RV}{q:Rat}(h:a.In L w q){g:Nat}{t:TypeId}{cs:Array Value}(hb:Blk w g t cs)(hn:NoU cs)(o:Own g w w'):a.In L w' q:=by
  obtain⟨y,z,⟨m,⟨xs,d1,k1⟩,e1⟩,⟨n,⟨ys,d2,k2⟩,e2⟩,e⟩:=h;exact⟨y,z,⟨m,⟨xs,d1.own hb hn o,k1⟩,e1⟩,⟨n,⟨ys,d2.own hb hn o,k2⟩,e2⟩,e⟩
theorem xcmp {L:Nat}{w:World}{a b:RV}{q r:Rat}(h:a.In L w q)(h':b.In L w r)(hL:L<=70000):Calls Tryz.prog 19 #[.agg #[.bool a.n,.slice a.p a.l a.c,.bool a.m,.slice a.p2 a.l2 a.c2],.agg #[.bool b.n,.slice b.p b.l b.c,.bool b.m,.slice b.p2 b.l2 b.c2]] w fun e w'=>e= .returned (.int .i64 (rcmp q r))/\Ext w w':=rcmp_any _ _ _ _ _ _ _ _ L q r w h h' hL
def lower (q l:Rat):Rat:=if q<l then q else l
def upper (q h:Rat):Rat:=if h<q then q else h
theorem r3new_any (n m:Bool)(u v:Value)(L:Nat)(y z:Int)(w:World)(hu:IntIn L w n u y)(hv:IntIn L w m v z)(hL:L<=150000)(hz:z≠0):
    Calls Tryz.prog 40 #[.agg #[.bool n,u],.agg #[.bool m,v]] w (RetRE (Rat.divInt y z) 0 w):=by
  obtain⟨p,l,cp,rfl⟩:=hu.form;obtain⟨q,k,cq,rfl⟩:=hv.form;have hE1:Ext w ((((w.alloc (.cells #[.bool n,.slice p l cp] 31)).alloc (.cells #[.bool m,.slice q k cq] 31)).alloc (.cells #[.bool false,.slice none 0 0,.bool false,.slice none 0 0] 33))):=(((Ext.refl _).alloc _).alloc _).alloc _;have HS:=zH (r2sign_any m (.slice q k cq) L z _ (hv.ext hE1) (by omega));have hsz:z.sign≠0:=by rw[Ne,Int.sign_eq_zero_iff_zero];exact hz
  generalize z.sign=s at HS hsz
  have g0:(s==0)=false:=beq_eq_false_iff_ne.2 hsz;have HLW:=zH (fun W (h:Ext w W)=>r3reduce_any n m (.slice p l cp) (.slice q k cq) L y z W (hu.ext h) (hv.ext h) hL hz);have HG:=zH (newRat ((w.alloc (.cells #[.bool n,.slice p l cp] 31)).alloc (.cells #[.bool m,.slice q k cq] 31)));have HST:=zH (fun w1 n1 t1 n2 t2 u0 u1 u2 u3=>stored_rat (w:=((w.alloc (.cells #[.bool n,.slice p l cp] 31)).alloc (.cells #[.bool m,.slice q k cq] 31))) (w1:=w1) (n:=n1) (u:=t1) (m:=n2) (v:=t2) (q:=Rat.divInt y z) (u0:=u0) (u1:=u1) (u2:=u2) (u3:=u3));have HE1:=zH hE1;clear hE1 hu hv hz hsz;have gb:∀w',Ext ((w.alloc (.cells #[.bool n,.slice p l cp] 31)).alloc (.cells #[.bool m,.slice q k cq] 31)) w'->
      w'.cell? ⟨w.heap.size,0,none⟩=some (.bool n)/\w'.cell? ⟨w.heap.size,1,none⟩=some (.slice p l cp)/\w'.cell? ⟨w.heap.size+1,0,none⟩=some (.bool m)/\w'.cell? ⟨w.heap.size+1,1,none⟩=some (.slice q k cq):=fun w' h=>
    ⟨h.get (by simp),h.get (by simp),h.get (by simp),h.get (by simp)⟩
  have HGB:=zH gb;clear gb;go_enter Tryz.func40,Tryz.ntmps40
  go_wp2_with fail
  refine HS.out.mono ?_;rintro e w1 ⟨rfl,he⟩;have g1:=HGB.out _ (((Ext.refl _).alloc _).trans he);go_wp2_with fail
  refine(HLW.out _ (HE1.out.trans he)).mono ?_;rintro e w2 ⟨b1,t1,b2,t2,rfl,hc,he2⟩;have HC:=zH hc;obtain⟨p1,l1,k1,p2,l2,k2,rfl,rfl⟩:=hc.form;have gk:=HG.out _ (he.trans he2);simp only[World.size_alloc]at gk;clear hc g1;go_wp2_with fail
  have st:=HST.out _ _ _ _ _ (.bool b1) (.slice p1 l1 k1) (.bool b2) (.slice p2 l2 k2) (he.trans he2) HC.out;simp only[World.size_alloc]at st;refine bodyPost_ret (v:= .tuple #[.agg #[.bool b1,.slice p1 l1 k1,.bool b2,.slice p2 l2 k2],.int .i64 0]) ?_ rfl ⟨_,_,_,_,rfl,st.1,(((Ext.refl _).alloc _).alloc _).trans st.2⟩;simp[results,Tryz.results40,go_sem, *]
theorem r3fromInts_any (a b:Int)(w:World)(h1: -9223372036854775808<=a)(h2:a<=9223372036854775807)(h3: -9223372036854775808<=b)(h4:b<=9223372036854775807)(hb:b≠0):
    Calls Tryz.prog 18 #[.int .i64 a,.int .i64 b] w (RetRE (Rat.divInt a b) 0 w):=by
  have HF:=zH (fun W=>r2fromInt_any a W h1 h2);have HF1:=zH (fun W=>r2fromInt_any b W h3 h4);have hla:=nl_i64 a h1 h2;have hlb:=nl_i64 b h3 h4;have HN:=zH (fun W n u m v (x:IntC W n u a) (z:IntC W m v b)=>r3new_any n m u v 2 a b W (x.isIn hla) (z.isIn hlb) (by omega) hb);have HG:=zH (newRat w);have HST:=zH (fun w1 n1 t1 n2 t2 u0 u1 u2 u3=>stored_rat (w:=w) (w1:=w1) (n:=n1) (u:=t1) (m:=n2) (v:=t2) (q:=Rat.divInt a b) (u0:=u0) (u1:=u1) (u2:=u2) (u3:=u3));clear h1 h2 h3 h4 hla hlb hb;go_enter Tryz.func18,Tryz.ntmps18
  go_wp2_with fail
  refine(HF.out _).mono ?_;rintro e w1 ⟨b1,t1,rfl,hc1,he1⟩;have HC1:=zH hc1;clear hc1;go_wp2_with fail
  refine(HF1.out _).mono ?_;rintro e w2 ⟨b2,t2,rfl,hc2,he2⟩;have HC2:=zH hc2;clear hc2;go_wp2_with fail
  refine(HN.out _ _ _ _ _ (HC1.out.ext he2) HC2.out).mono ?_;rintro e w3 ⟨n1,u1,n2,u2,rfl,hc,he3⟩;have HC:=zH hc;obtain⟨p1,l1,k1,p2,l2,k2,rfl,rfl⟩:=hc.form;have gk:=HG.out _ ((he1.trans he2).trans he3);clear hc;go_wp2_with fail
  have st:=HST.out _ _ _ _ _ (.bool n1) (.slice p1 l1 k1) (.bool n2) (.slice p2 l2 k2) ((he1.trans he2).trans he3) HC.out;refine bodyPost_ret (v:= .tuple #[.agg #[.bool n1,.slice p1 l1 k1,.bool n2,.slice p2 l2 k2],.int .i64 0]) ?_ rfl ⟨_,_,_,_,rfl,st.1,st.2⟩;simp[results,Tryz.results18,go_sem, *]
end Go.Proofs.YtngikkggjidenabGreat
namespace Go.Proofs.YtngikkggjidenabGreat
open Go.RowKit
theorem NIs.map {w w':World}{cs:Array Value}{q:Rat}(h:NIs w cs q)(x:∀(r:RV) (q:Rat),r.Is w q->r.Is w' q):NIs w' cs q:=by obtain⟨a,e,h⟩:=h;exact⟨a,e,x _ _ h⟩
theorem NIn.one {L:Nat}{w:World}{cs:Array Value}{q:Rat}(h:NIn L w cs q):cs.all (·.oneCell')=true:=by obtain⟨a,rfl,_⟩:=h;exact all_oneCell_toArray (by simp[Value.oneCell'])
theorem pAdd {L:Nat}{w:World}{cs ct:Array Value}{q r:Rat}(hp:NIn L w cs q)(hq:NIn L w ct r)(hL:L<=70000):
    Calls Tryz.prog 49 #[.agg cs,.agg ct] w fun e w'=>∃c,e= .returned (.agg c)/\NIs w' c (q+r)/\Ext w w':=by
  obtain⟨a,rfl,h1⟩:=hp;obtain⟨b,rfl,h2⟩:=hq;refine(xadd h1 h2 hL).mono fun e w' h=> ?_
  obtain⟨c,rfl,h3,h4⟩:=h;exact⟨_,rfl,⟨c,rfl,h3⟩,h4⟩
theorem pSub {L:Nat}{w:World}{cs ct:Array Value}{q r:Rat}(hp:NIn L w cs q)(hq:NIn L w ct r)(hL:L<=70000):
    Calls Tryz.prog 51 #[.agg cs,.agg ct] w fun e w'=>∃c,e= .returned (.agg c)/\NIs w' c (q-r)/\Ext w w':=by
  obtain⟨a,rfl,h1⟩:=hp;obtain⟨b,rfl,h2⟩:=hq;refine(xsub h1 h2 hL).mono fun e w' h=> ?_
  obtain⟨c,rfl,h3,h4⟩:=h;exact⟨_,rfl,⟨c,rfl,h3⟩,h4⟩
theorem pMul {L:Nat}{w:World}{cs ct:Array Value}{q r:Rat}(hp:NIn L w cs q)(hq:NIn L w ct r)(hL:L<=70000):
    Calls Tryz.prog 50 #[.agg cs,.agg ct] w fun e w'=>∃c,e= .returned (.agg c)/\NIs w' c (q*r)/\Ext w w':=by
  obtain⟨a,rfl,h1⟩:=hp;obtain⟨b,rfl,h2⟩:=hq;refine(xmul h1 h2 hL).mono fun e w' h=> ?_
  obtain⟨c,rfl,h3,h4⟩:=h;exact⟨_,rfl,⟨c,rfl,h3⟩,h4⟩
theorem pCmp {L:Nat}{w:World}{cs ct:Array Value}{q r:Rat}(hp:NIn L w cs q)(hq:NIn L w ct r)(hL:L<=70000):
    Calls Tryz.prog 19 #[.agg cs,.agg ct] w fun e w'=>e= .returned (.int .i64 (rcmp q r))/\Ext w w':=by
  obtain⟨a,rfl,h1⟩:=hp;obtain⟨b,rfl,h2⟩:=hq;exact xcmp h1 h2 hL
theorem pCmpS {L:Nat}{w:World}{cs ct:Array Value}{q r:Rat}{s:Int}(hs:s=rcmp q r)(hp:NIn L w cs q)(hq:NIn L w ct r)(hL:L<=70000):
    Calls Tryz.prog 19 #[.agg cs,.agg ct] w fun e w'=>e= .returned (.int .i64 s)/\Ext w w':=by
  subst hs;exact pCmp hp hq hL
theorem pNorm {L:Nat}{w:World}{cs:Array Value}{q:Rat}(hp:NIn L w cs q)(hL:L<=300000):
    Calls Tryz.prog 66 #[.agg cs] w fun e w'=>∃c,e= .returned (.agg c)/\NIs w' c q/\Ext w w':=by
  obtain⟨a,rfl,h1⟩:=hp;refine(xnorm h1 hL).mono fun e w' h=> ?_
  obtain⟨c,rfl,h3,h4⟩:=h;exact⟨_,rfl,⟨c,rfl,h3⟩,h4⟩
theorem pFrom (a:Int)(w:World)(h1: -9223372036854775808<=a)(h2:a<=9223372036854775807):
    Calls Tryz.prog 20 #[.int .i64 a] w fun e w'=>∃c,e= .returned (.agg c)/\NIs w' c (a:Rat)/\Ext w w':=by
  refine(rfromInt_any a w h1 h2).mono fun e w' h=> ?_
  obtain⟨c,rfl,h3,h4⟩:=RetR.v h;exact⟨_,rfl,⟨c,rfl,h3⟩,h4⟩
theorem pQuo {L:Nat}{w:World}{cs ct:Array Value}{q r:Rat}(hp:NIn L w cs q)(hq:NIn L w ct r)(hL:L<=70000)(hr:r≠0):
    Calls Tryz.prog 56 #[.agg cs,.agg ct] w fun e w'=>∃c,e= .returned (.tuple #[.agg c,.int .i64 0])/\NIs w' c (q/r)/\Ext w w':=by
  obtain⟨a,rfl,h1⟩:=hp;obtain⟨b,rfl,h2⟩:=hq;refine(rquo_any _ _ _ _ _ _ _ _ L q r w h1 h2 hL hr).mono fun e w' h=> ?_
  obtain⟨c,rfl,h3,h4⟩:=RetRE.v h;exact⟨_,rfl,⟨c,rfl,h3⟩,h4⟩
end Go.Proofs.YtngikkggjidenabGreat
namespace Go.Proofs.YtngikkggjidenabGreat
open Go.RowKit
attribute [local go_sem ↓] Go.wp_at_zero Go.wp_at_succ run_max_ii run_min_ii
theorem noUn:NoU z4:=noU_of _ (by simp)
theorem NIs.own {w w':World}{cs:Array Value}{q:Rat}(h:NIs w cs q){g:Nat}{t:TypeId}{zs:Array Value}(hb:Blk w g t zs)(hn:NoU zs)(o:Own g w w'):NIs w' cs q:=by
  obtain⟨a,h1,h2⟩:=h;exact⟨a,h1,h2.own hb hn o⟩
theorem rlI (k:Int)(h:k.natAbs<4294967296):Nm.rl (k:Rat)<=1:=by
  unfold Nm.rl;rw[Rat.num_intCast,Rat.den_intCast];have h1:Nm.nl k.natAbs<=1:=Nm.nl_le (by omega);have h2:Nm.nl 1<=1:=Nm.nl_le (by decide);omega
theorem pFromInts (a b:Int)(w:World)(h1: -9223372036854775808<=a)(h2:a<=9223372036854775807)(h3: -9223372036854775808<=b)(h4:b<=9223372036854775807)(hb:b≠0):
    Calls Tryz.prog 160 #[.int .i64 a,.int .i64 b] w fun e w'=>∃c,e= .returned (.tuple #[.agg c,.int .i64 0])/\NIs w' c ((a:Rat)/(b:Rat))/\Ext w w':=by
  refine(rfromInts_any a b w h1 h2 h3 h4 hb).mono fun e w' h=> ?_
  obtain⟨c,rfl,h3,h4⟩:=RetRE.v h;exact⟨_,rfl,⟨c,rfl,by rw[<-Rat.divInt_eq_div];exact h3⟩,h4⟩
set_option maxHeartbeats 8000000 in
theorem by_any (n d:Int)(w:World)(h1: -9223372036854775808<=n)(h2:n<=9223372036854775807)(h3: -9223372036854775808<=d)(h4:d<=9223372036854775807)(hd:d≠0):
  Calls Tryz.prog 123 #[.int .i64 n,.int .i64 d] w fun e w'=>∃c,e= .returned (.agg c)/\NIs w' c ((n:Rat)/(d:Rat))/\Ext w w':=by
 go_enter Tryz.func123,Tryz.ntmps123
 go_upto_region 1 with fail
 have hR0:Blk (w.alloc (.cells z4 33)) (w.heap.size) 33 z4:=Blk.ext (Blk.new_at w _ (by simp) _ _) (Ext.refl _);have hE:Ext w (w.alloc (.cells z4 33)):=((Ext.refl _).alloc _);have gR0:w.heap.size<=w.heap.size:=by omega
 generalize (w.alloc (.cells z4 33))=wa at*
 have E1:Hid (Ext w wa):=hE;have FR0:=zH hR0;clear hE hR0;refine wp_region_lit ?_;refine pV (w':=wa) ?_;try simp only[Act.put,zA,zB,zC]
 refine pV (w':=wa) ?_;try simp only[Act.put,zA,zB,zC]
 refine mv_call (by rfl) (by go_simp) (pFromInts n d _ h1 h2 h3 h4 hd) ?_;rintro e w2 ⟨cf,rfl,hc,hx⟩;have E2:Hid (Ext wa w2):=hx;have Fr:=zH hc;have ZF:=hc.size;have OF:=hc.one;clear hc;clear hx;refine⟨_,rfl,?_⟩;try simp only[Act.put,zA,zB,zC]
 refine pV (w':=w2) ?_;try simp only[Act.put,zA,zB,zC]
 refine pV (w':=w2) ?_;try simp only[Act.put,zA,zB,zC]
 refine pV (w':=w2) ?_;try simp only[Act.put,zA,zB,zC]
 refine zp (w':=w2.alloc (.cells z4 33)) (.pointer (some ⟨w2.heap.size,0,none⟩)) (by go_simp) ?_;refine pO cf (Blk.new w2 _ _) (Eq.trans ZF rfl) (by rw[show(cf:Array Value).size=4 from ZF];kernel_rfl) OF ?_
 (try simp only[Act.put])
 have nV5_R0:w2.heap.size≠w.heap.size:=Nat.ne_of_gt (Blk.lt (FR0.out.ext E2.out));obtain⟨xq1,xq2⟩:=new_var w2 33 z4 cf (Eq.trans ZF rfl);generalize (w2.alloc (.cells z4 33)).setCells w2.heap.size 0 (cf:Array Value).toList=w3 at*
 generalize w2.heap.size=X3 at*
 have E3:Hid (Ext w2 w3):=xq1;have FV5:=zH xq2;clear xq1 xq2;refine pV (w':=w3) ?_;try simp only[Act.put,zA,zB,zC]
 go_upto_region 2 with fail
 refine wp_region_lit ?_;refine pL FV5.out Tryz.underlying33 (by rw[show(cf:Array Value).size=4 from ZF];kernel_rfl) ?_;try simp only[Act.put,zA,zB,zC]
 have o1:=Own.setCells w3 w.heap.size cf;have kb1:=(FR0.out.ext (tr E2 E3).out);refine pO cf kb1 (Eq.trans ZF rfl) (by rw[show(cf:Array Value).size=4 from ZF];kernel_rfl) OF ?_
 (try simp only[Act.put])
 have kc1:=kb1.setCells cf (Eq.trans ZF rfl);go_wp2_with fail
 refine bodyPost_ret (v:= .agg cf) ?_ rfl ⟨_,rfl,((Fr.out.ext E3.out).own kb1 noUn o1),(o1.ext (tr E1 (tr E2 E3)).out gR0)⟩;exact results_cell1 rfl rfl (kc1.loadVar rfl rfl (by rw[ZF];rfl))
set_option maxHeartbeats 8000000 in
theorem along_any (L:Nat)(a b:Int)(ct:Array Value)(T:Rat)(w:World)(hT:NIn L w ct T)(h1L:1<=L)(hL:L<=20000)(ha: -10000000<=a/\a<=10000000)(hb: -10000000<=b/\b<=10000000):
  Calls Tryz.prog 122 #[.int .i64 a,.int .i64 b,.agg ct] w fun e w'=>∃c,e= .returned (.agg c)/\NIs w' c ((a:Rat)+T*((b-a:Int):Rat))/\Ext w w':=by
 have wd:IntKind.i64.wrap (b-a)=b-a:=by rw[IntKind.wrap_i64];omega
 have rT:=hT.rl h1L;have q0:=rlI a (by omega);have q1:=rlI (b-a) (by omega);have q2:=Nm.rl_mul T ((b-a:Int):Rat);have ZT:=hT.size;have FT:=zH hT;clear hT;go_enter Tryz.func122,Tryz.ntmps122
 go_upto_region 1 with fail
 have hbx0:Blk ((w.alloc (.cells ct 33)).alloc (.cells z4 33)) (w.heap.size) 33 ct:=Blk.ext (Blk.new_at w _ (by simp) _ _) ((Ext.refl _).alloc _);have hR0:Blk ((w.alloc (.cells ct 33)).alloc (.cells z4 33)) (w.heap.size+1) 33 z4:=Blk.ext (Blk.new_at (w.alloc (.cells ct 33)) _ (by simp) _ _) (Ext.refl _);have hE:Ext w ((w.alloc (.cells ct 33)).alloc (.cells z4 33)):=(((Ext.refl _).alloc _).alloc _);have gR0:w.heap.size<=w.heap.size+1:=by omega
 have nbx0_R0:w.heap.size≠w.heap.size+1:=by omega
 generalize ((w.alloc (.cells ct 33)).alloc (.cells z4 33))=wa at*
 generalize w.heap.size+1=R0 at*
 have E1:Hid (Ext w wa):=hE;have Fbx0:=zH hbx0;have FR0:=zH hR0;clear hE hbx0 hR0;refine wp_region_held_drew (S:=fun x=>Own R0 wa x) (by kernel_rfl) (Own.of_ext (Ext.refl _).drew) (fun _=> ?_);have E2:=zH (show Ext wa wa.drew from(Ext.refl _).drew);refine mV 0 (bs 10 1) (Own.of_ext E2.out) ?_;refine zl 2 (bs 10 5) (fun x hx=>(Fbx0.out).own hx nbx0_R0) Tryz.underlying33 (by rw[show(ct:Array Value).size=4 from ZT];kernel_rfl) (Own.of_ext E2.out) ?_;refine zv 3 (bs 10 13) (Own.of_ext E2.out) ?_;refine zv 4 (bs 10 29) (Own.of_ext E2.out) ?_;refine zv 5 (bs 10 61) (Own.of_ext E2.out) ?_;refine mC 1 (bs 10 63) (pFrom a _ (by omega) (by omega)) ?_;rintro e w3 ⟨c1,rfl,hc,hx⟩;have E3:Hid (Ext wa.drew w3):=hx;have FFc1:=zH hc;clear hc;clear hx;refine⟨_,rfl,(Own.of_ext (tr E2 E3).out),?_⟩;try simp only[Act.put,zA,zB,zC]
 refine mC 6 (bs 10 127) (pFrom (b-a) _ (by omega) (by omega)) ?_;rintro e w4 ⟨c2,rfl,hc,hx⟩;have E4:Hid (Ext w3 w4):=hx;have FFc2:=zH hc;clear hc;clear hx;refine⟨_,rfl,(Own.of_ext (tr E2 (tr E3 E4)).out),?_⟩;try simp only[Act.put,zA,zB,zC]
 refine mC 7 (bs 10 255) (pMul (L:=L+2) ((FT.out.ext (tr E1 (tr E2 (tr E3 E4))).out).mono (by omega)) (FFc2.out.isIn (by omega)) (by omega)) ?_;rintro e w5 ⟨c3,rfl,hc,hx⟩;have E5:Hid (Ext w4 w5):=hx;have FM:=zH hc;clear hc;clear hx;refine⟨_,rfl,(Own.of_ext (tr E2 (tr E3 (tr E4 E5))).out),?_⟩;try simp only[Act.put,zA,zB,zC]
 refine mC 8 (bs 10 511) (pAdd (L:=2*L+8) ((FFc1.out.ext (tr E4 E5).out).isIn (by omega)) (FM.out.isIn (by omega)) (by omega)) ?_;rintro e w6 ⟨c4,rfl,hc,hx⟩;have E6:Hid (Ext w5 w6):=hx;have Fr:=zH hc;have Z4:=hc.size;have O4:=hc.one;clear hc;clear hx;refine⟨_,rfl,(Own.of_ext (tr E2 (tr E3 (tr E4 (tr E5 E6)))).out),?_⟩;try simp only[Act.put,zA,zB,zC]
 have o1:=Own.setCells w6 R0 c4;have kb1:=(FR0.out.ext (tr E2 (tr E3 (tr E4 (tr E5 E6)))).out);have hs1:Own R0 wa (w6.setCells R0 0 (c4:Array Value).toList):=(Own.then_ext' (tr E2 (tr E3 (tr E4 (tr E5 E6)))).out o1);refine mO 9 (bs 10 1023) c4 kb1 (Eq.trans Z4 rfl) (by rw[show(c4:Array Value).size=4 from Z4];kernel_rfl) O4 hs1 ?_
 (try simp only[Act.put])
 have kc1:=kb1.setCells c4 (Eq.trans Z4 rfl);refine wpAnyH_done (by kernel_rfl) ?_ _;go_wp2_with fail
 refine bodyPost_ret (v:= .agg c4) ?_ rfl ⟨_,rfl,(Fr.out.own kb1 noUn o1),(o1.ext (tr E1 (tr E2 (tr E3 (tr E4 (tr E5 E6))))).out gR0)⟩;exact results_cell1 rfl rfl (kc1.loadVar rfl rfl (by rw[Z4];rfl))
end Go.Proofs.YtngikkggjidenabGreat
namespace Go.Proofs.YtngikkggjidenabGreat
open Go.RowKit
attribute [local go_sem ↓] Go.wp_at_zero Go.wp_at_succ run_eql_point run_neq_point
def clampI (n lo hi:Int):Int:=if n<lo then lo else if hi<n then hi else n
theorem clamp_any (n lo hi:Int)(w:World):
    Calls Tryz.prog 130 #[.int .i64 n,.int .i64 lo,.int .i64 hi] w fun e w'=>e= .returned (.int .i64 (clampI n lo hi))/\w=w':=by
  go_enter Tryz.func130,Tryz.ntmps130
  go_wp2_with fail
  all_goals go_ret
  all_goals refine⟨ret_int ?_,rfl⟩
  all_goals unfold clampI
  · rw[if_pos ‹_›]
  · rw[if_neg (by omega),if_pos ‹_›]
  rw[if_neg (by omega),if_neg (by omega)]
theorem held_any (n:Int)(w:World):
    Calls Tryz.prog 85 #[.int .i64 n] w fun e w'=>e= .returned (.int .i64 (clampI n (-1048576) 1048576))/\w=w':=by
  go_enter Tryz.func85,Tryz.ntmps85
  go_wp2_with (go_at_call 130;refine(clamp_any _ _ _ _).mono ?_;rintro e w' ⟨rfl,rfl⟩)
  go_ret
  exact⟨rfl,rfl⟩
theorem hold_any (x y:Int)(w:World):
    Calls Tryz.prog 55 #[.agg #[.int .i64 x,.int .i64 y]] w fun e w'=>e= .returned (.agg #[.int .i64 (clampI x (-1048576) 1048576),.int .i64 (clampI y (-1048576) 1048576)])/\Ext w w':=by
  go_enter Tryz.func55,Tryz.ntmps55
  go_wp2_with fail
  go_region_held3 (fun w'=>w'.cell? ⟨w.heap.size,0,none⟩=some (.int .i64 x)/\w'.cell? ⟨w.heap.size,1,none⟩=some (.int .i64 y)) (go_keep)
    (first|(go_at_call 85;refine(held_any _ _).mono ?_;rintro e w' ⟨rfl,rfl⟩))
  go_wp2_with fail
  refine bodyPost_ret (v:= .agg #[.int .i64 (clampI x (-1048576) 1048576),.int .i64 (clampI y (-1048576) 1048576)]) (by simp[results,Tryz.results55,go_sem]) rfl ⟨rfl,?_⟩;exact((((Ext.refl _).alloc _).alloc _).drew)
theorem eq_clamp (x:Int):(clampI x (-1048576) 1048576==x)=decide (-1048576<=x/\x<=1048576):=by
  rw[Bool.eq_iff_iff];unfold clampI;simp only[beq_iff_eq,decide_eq_true_eq];split
  · omega
  split<;>omega
def okPt (x y:Int):Bool:=decide (-1048576<=x/\x<=1048576)&&decide (-1048576<=y/\y<=1048576)
theorem valid_any (x y:Int)(w:World):
    Calls Tryz.prog 26 #[.agg #[.int .i64 x,.int .i64 y]] w fun e w'=>e= .returned (.bool (okPt x y))/\Ext w w':=by
  have h0:∀w',Ext (w.alloc (.cells #[.int .i64 x,.int .i64 y] 28)) w'->w'.cell? ⟨w.heap.size,0,none⟩=some (.int .i64 x):=fun w' h=>h.get (by simp)
  have h1:∀w',Ext (w.alloc (.cells #[.int .i64 x,.int .i64 y] 28)) w'->w'.cell? ⟨w.heap.size,1,none⟩=some (.int .i64 y):=fun w' h=>h.get (by simp)
  go_enter Tryz.func26,Tryz.ntmps26
  go_wp2_with fail
  go_region_held3 (fun w'=>Ext (w.alloc (.cells #[.int .i64 x,.int .i64 y] 28)) w') (first|assumption|exact Ext.drew (Ext.refl _)|(apply Ext.via;assumption;assumption))
    (first|(go_at_call 55;refine(hold_any _ _ _).mono ?_;rintro e w' ⟨rfl,hb⟩))
  go_wp2_with fail
  go_ret
  refine⟨?_,((Ext.refl _).alloc _).trans ‹_›⟩;rw[eq_clamp,eq_clamp];rfl
theorem rvalid_any (x y:Int)(w:World):
    Calls Tryz.prog 21 #[.agg #[.int .i64 x,.int .i64 y]] w fun e w'=>e= .returned (.bool (okPt x y))/\Ext w w':=by
  have hp:∀b,okPt x y=b->(fun(e:Ending) (w':World)=>e= .returned (.bool b)/\Ext w w')=(fun(e:Ending) (w':World)=>e= .returned (.bool (okPt x y))/\Ext w w'):=fun b h=>by rw[h]
  by_cases hx: -1048576<=x
  · by_cases hx2:x<=1048576
    · by_cases hy: -1048576<=y
      · rw[<-hp (decide (y<=1048576)) (by simp[okPt,hx,hx2,hy])]
        clear hp;go_enter Tryz.func21,Tryz.ntmps21
        go_wp2_with fail
        go_ret
        exact⟨rfl,(Ext.refl _).alloc _⟩
      rw[<-hp false (by simp[okPt,hy])];clear hp;go_enter Tryz.func21,Tryz.ntmps21
      go_wp2_with fail
      go_ret
      exact⟨rfl,(Ext.refl _).alloc _⟩
    rw[<-hp false (by simp[okPt,hx2])];clear hp;go_enter Tryz.func21,Tryz.ntmps21
    go_wp2_with fail
    go_ret
    exact⟨rfl,(Ext.refl _).alloc _⟩
  rw[<-hp false (by simp[okPt,hx])];clear hp;go_enter Tryz.func21,Tryz.ntmps21
  go_wp2_with fail
  go_ret
  exact⟨rfl,(Ext.refl _).alloc _⟩
def PtsAt (w:World)(b off:Nat)(ps:List (Int×Int)):Prop:=
  ∀i,i<ps.length->w.cell? ⟨b,off+i*2,none⟩=some (.int .i64 (ps.getD i (0,0)).1)/\w.cell? ⟨b,off+i*2+1,none⟩=some (.int .i64 (ps.getD i (0,0)).2)
theorem PtsAt.ext {w w':World}{b off:Nat}{ps:List (Int×Int)}(h:PtsAt w b off ps)(e:Ext w w'):PtsAt w' b off ps:=
  fun i hi=>⟨e.get (h i hi).1,e.get (h i hi).2⟩
def okAll (ps:List (Int×Int)):Bool:=ps.all fun p=>okPt p.1 p.2
theorem okAll_take_succ (ps:List (Int×Int))(k:Nat)(hk:k<ps.length):
    okAll (ps.take (k+1))=(okAll (ps.take k)&&okPt (ps.getD k (0,0)).1 (ps.getD k (0,0)).2):=by
  unfold okAll;rw[List.take_succ_eq_append_getElem hk,List.all_append];simp[List.getD,hk]
theorem okAll_stop (ps:List (Int×Int))(k:Nat)(hk:k<ps.length)(h:okPt ps[k].1 ps[k].2=false):okAll ps=false:=by
  unfold okAll;rw[List.all_eq_false];exact⟨ps[k],List.getElem_mem hk,by simp[h]⟩
theorem okAll_step (ps:List (Int×Int))(k:Nat)(hk:k<ps.length)(h0:okAll (ps.take k)=true)(h:okPt ps[k].1 ps[k].2=true):okAll (ps.take (k+1))=true:=by
  rw[okAll_take_succ ps k hk,h0];simp[List.getD,hk,h]
theorem okAll_end (ps:List (Int×Int))(k:Nat)(hk:k<=ps.length)(hge:¬k<ps.length)(h0:okAll (ps.take k)=true):okAll ps=true:=by
  rwa[List.take_of_length_le (by omega)]at h0
end Go.Proofs.YtngikkggjidenabGreat
namespace Go.Proofs.YtngikkggjidenabGreat
open Go.RowKit
attribute [local go_sem ↓] Go.wp_at_zero Go.wp_at_succ run_eql_point run_neq_point run_max_ii run_min_ii
def PtsV (w:World)(v:Value)(ps:List (Int×Int)):Prop:=
  ∃(A:Option Addr) (cap:Nat),v= .slice A ps.length cap/\(ps≠ []->∃g off,A=some ⟨g,off,none⟩/\PtsAt w g off ps)
theorem PtsV.ext {w w':World}{v:Value}{ps:List (Int×Int)}(h:PtsV w v ps)(e:Ext w w'):PtsV w' v ps:=by
  obtain⟨A,cap,hv,ha⟩:=h;exact⟨A,cap,hv,fun hn=>by obtain⟨g,off,hA,hp⟩:=ha hn;exact⟨g,off,hA,hp.ext e⟩⟩
abbrev Ring:=List (Int×Int)
def RingsV (w:World)(v:Value)(rs:List Ring):Prop:=
  ∃(A:Option Addr) (cap:Nat),v= .slice A rs.length cap/\(0<rs.length->∃g off,A=some ⟨g,off,none⟩/\∀i r,rs[i]?=some r->∃B cb,w.cell? ⟨g,off+i,none⟩=some (.slice B r.length cb)/\PtsV w (.slice B r.length cb) r)
theorem RingsV.ext {w w':World}{v:Value}{rs:List Ring}(h:RingsV w v rs)(e:Ext w w'):RingsV w' v rs:=by
  obtain⟨A,cap,hv,ha⟩:=h;refine⟨A,cap,hv,fun hn=> ?_⟩;obtain⟨g,off,hA,hp⟩:=ha hn;refine⟨g,off,hA,fun i r hr=> ?_⟩;obtain⟨B,cb,h1,h2⟩:=hp i r hr;exact⟨B,cb,e.get h1,h2.ext e⟩
def tot (rs:List Ring):Nat:=rs.foldl (fun n r=>n+r.length) 0
theorem tot_succ {rs:List Ring}{k:Nat}{r:Ring}(h:rs[k]?=some r):tot (rs.take (k+1))=tot (rs.take k)+r.length:=by
  obtain⟨hk,rfl⟩:=List.getElem?_eq_some_iff.1 h;unfold tot;rw[List.take_succ_eq_append_getElem hk,List.foldl_append];rfl
theorem foldl_tot (rs:List Ring)(n:Nat):rs.foldl (fun n r=>n+r.length) n=n+tot rs:=by
  induction rs generalizing n with
  |nil=>rfl
  | cons r rs ih=>
    show rs.foldl (fun n r=>n+r.length) (n+r.length)=n+rs.foldl (fun n r=>n+r.length) (0+r.length);rw[ih,ih (0+r.length)];omega
theorem tot_app (a b:List Ring):tot (a++b)=tot a+tot b:=by
  have h:=foldl_tot b (tot a);rw[<-h];unfold tot;rw[List.foldl_append]
theorem tot_take (rs:List Ring)(k:Nat):tot (rs.take k)<=tot rs:=by
  have h:=tot_app (rs.take k) (rs.drop k);rw[List.take_append_drop]at h;omega
def okR (rs:List Ring):Bool:=decide (tot rs<=4096)&&rs.all okAll
theorem okR_stop {rs:List Ring}{k:Nat}{r:Ring}(h:rs[k]?=some r)(h2:4096<tot (rs.take (k+1))\/okAll r=false):okR rs=false:=by
  unfold okR;rcases h2 with h2|h2
  · have h3:decide (tot rs<=4096)=false:=by
      rw[decide_eq_false_iff_not];have:=tot_take rs (k+1);omega
    rw[h3];rfl
  have h3:rs.all okAll=false:=by
    rw[List.all_eq_false];exact⟨r,List.mem_of_getElem? h,by simp[h2]⟩
  rw[h3,Bool.and_false]
theorem okR_end {rs:List Ring}(h1:tot rs<=4096)(h2:∀i r,i<rs.length->rs[i]?=some r->okAll r=true):okR rs=true:=by
  unfold okR;rw[decide_eq_true h1,Bool.true_and,List.all_eq_true];intro r hr;obtain⟨i,hi⟩:=List.mem_iff_getElem?.1 hr;exact h2 i r (List.getElem?_eq_some_iff.1 hi).1 hi
theorem pvc_any (x y:Int)(w:World):
    Calls Tryz.prog 97 #[.agg #[.int .i64 x,.int .i64 y]] w fun e w'=>e= .returned (.bool (!okPt x y))/\Ext w w':=by
  go_enter Tryz.func97,Tryz.ntmps97
  go_wp2_with (go_at_call 26;refine(valid_any _ _ _).mono ?_;rintro e w2 ⟨rfl,hx⟩)
  go_ret
  exact⟨rfl,((Ext.refl _).alloc _).trans hx⟩
theorem mvc_any (x y:Int)(w:World):
    Calls Tryz.prog 119 #[.agg #[.int .i64 x,.int .i64 y]] w fun e w'=>e= .returned (.bool (!okPt x y))/\Ext w w':=by
  go_enter Tryz.func119,Tryz.ntmps119
  go_wp2_with (go_at_call 26;refine(valid_any _ _ _).mono ?_;rintro e w2 ⟨rfl,hx⟩)
  go_ret
  exact⟨rfl,((Ext.refl _).alloc _).trans hx⟩
theorem pvi_any (u:Value)(ps:List (Int×Int))(w:World)(hu:PtsV w u ps)(hn:ps.length<=1048576):
    Calls Tryz.prog 143 #[u,.func (.func 97) #[] #[]] w fun e w'=>∃z:Int,e= .returned (.int .i64 z)/\(decide (0<=z))=(!okAll ps)/\Ext w w':=by
  obtain⟨A,cu,rfl,hA⟩:=hu;have HA:=zH hA;clear hA;go_enter Tryz.func143,Tryz.ntmps143
  go_wp2_with fail
  go_loopg [8] ps.length (fun c i wr=>∃k:Nat,k<=ps.length/\c=ps.length-k/\i= .int .i64 k/\okAll (ps.take k)=true/\Ext w wr)
  case atStart=>exact⟨0,Nat.zero_le _,rfl,rfl,rfl,Ext.refl _⟩
  obtain⟨k,hk,rfl,rfl,ho,hx⟩:=hrel;have HO:=zH ho;have HX:=zH hx;clear ho hx;by_cases hlt:k<ps.length
  · obtain⟨g,off,rfl,hp⟩:=HA.out (by rintro rfl;simp at hlt)
    obtain⟨c0,c1⟩:=(hp.ext HX.out) k hlt;have HSU:=zH (okAll_take_succ ps k hlt);have HST:=zH (fun h=>okAll_stop ps k hlt h);have hgd:ps.getD k (0,0)=ps[k]:=by simp[List.getD,hlt]
    rw[hgd]at c0 c1 HSU;have hlt2:(k:Int)<(ps.length:Int):=by omega
    have HLT:=zH hlt;generalize ps[k]=x at*
    clear hp hgd hlt;by_cases hx:okPt x.1 x.2=true
    · have hb:(!okPt x.1 x.2)=false:=by rw[hx];rfl
      go_upto_if 16 with(go_at_call 97;refine(pvc_any _ _ _).mono ?_;rintro e w2 ⟨rfl,hx2⟩)
      go_wp2_with fail
      go_roundg (ps.length-(k+1))
      case measure=>have:=HLT.out;omega
      case rel=>exact⟨k+1,HLT.out,rfl,by go_num,by rw[HSU.out,HO.out,hx];rfl,HX.out.trans hx2⟩
    have hb:(!okPt x.1 x.2)=true:=by rw[eq_false_of_ne_true hx];rfl
    go_upto_if 16 with(go_at_call 97;refine(pvc_any _ _ _).mono ?_;rintro e w2 ⟨rfl,hx2⟩)
    go_wp2_with fail
    go_ret
    exact⟨_,rfl,by rw[HST.out (eq_false_of_ne_true hx)];simp,HX.out.trans hx2⟩
  have HE:=zH (okAll_end ps k hk hlt HO.out);have hge:¬(k:Int)<(ps.length:Int):=by omega
  go_wp2_with fail
  go_ret
  exact⟨_,rfl,by rw[HE.out];simp,HX.out⟩
theorem pviC_any (u:Value)(ps:List (Int×Int))(w:World)(hu:PtsV w u ps)(hn:ps.length<=1048576):
    Calls Tryz.prog 96 #[u,.func (.func 97) #[] #[]] w fun e w'=>e= .returned (.bool (!okAll ps))/\Ext w w':=by
  have HC:=zH (pvi_any u ps w hu hn);clear hu;go_enter Tryz.func96,Tryz.ntmps96
  go_wp2_with (go_at_call 143;refine HC.out.mono ?_;rintro e w2 ⟨z,rfl,hz,hx2⟩)
  go_ret
  exact⟨by rw[<-hz];rfl,hx2⟩
theorem mvi_any (u:Value)(ps:List (Int×Int))(w:World)(hu:PtsV w u ps)(hn:ps.length<=1048576):
    Calls Tryz.prog 143 #[u,.func (.func 119) #[] #[]] w fun e w'=>∃z:Int,e= .returned (.int .i64 z)/\(decide (0<=z))=(!okAll ps)/\Ext w w':=by
  obtain⟨A,cu,rfl,hA⟩:=hu;have HA:=zH hA;clear hA;go_enter Tryz.func143,Tryz.ntmps143
  go_wp2_with fail
  go_loopg [8] ps.length (fun c i wr=>∃k:Nat,k<=ps.length/\c=ps.length-k/\i= .int .i64 k/\okAll (ps.take k)=true/\Ext w wr)
  case atStart=>exact⟨0,Nat.zero_le _,rfl,rfl,rfl,Ext.refl _⟩
  obtain⟨k,hk,rfl,rfl,ho,hx⟩:=hrel;have HO:=zH ho;have HX:=zH hx;clear ho hx;by_cases hlt:k<ps.length
  · obtain⟨g,off,rfl,hp⟩:=HA.out (by rintro rfl;simp at hlt)
    obtain⟨c0,c1⟩:=(hp.ext HX.out) k hlt;have HSU:=zH (okAll_take_succ ps k hlt);have HST:=zH (fun h=>okAll_stop ps k hlt h);have hgd:ps.getD k (0,0)=ps[k]:=by simp[List.getD,hlt]
    rw[hgd]at c0 c1 HSU;have hlt2:(k:Int)<(ps.length:Int):=by omega
    have HLT:=zH hlt;generalize ps[k]=x at*
    clear hp hgd hlt;by_cases hx:okPt x.1 x.2=true
    · have hb:(!okPt x.1 x.2)=false:=by rw[hx];rfl
      go_upto_if 16 with(go_at_call 119;refine(mvc_any _ _ _).mono ?_;rintro e w2 ⟨rfl,hx2⟩)
      go_wp2_with fail
      go_roundg (ps.length-(k+1))
      case measure=>have:=HLT.out;omega
      case rel=>exact⟨k+1,HLT.out,rfl,by go_num,by rw[HSU.out,HO.out,hx];rfl,HX.out.trans hx2⟩
    have hb:(!okPt x.1 x.2)=true:=by rw[eq_false_of_ne_true hx];rfl
    go_upto_if 16 with(go_at_call 119;refine(mvc_any _ _ _).mono ?_;rintro e w2 ⟨rfl,hx2⟩)
    go_wp2_with fail
    go_ret
    exact⟨_,rfl,by rw[HST.out (eq_false_of_ne_true hx)];simp,HX.out.trans hx2⟩
  have HE:=zH (okAll_end ps k hk hlt HO.out);have hge:¬(k:Int)<(ps.length:Int):=by omega
  go_wp2_with fail
  go_ret
  exact⟨_,rfl,by rw[HE.out];simp,HX.out⟩
theorem mviC_any (u:Value)(ps:List (Int×Int))(w:World)(hu:PtsV w u ps)(hn:ps.length<=1048576):
    Calls Tryz.prog 96 #[u,.func (.func 119) #[] #[]] w fun e w'=>e= .returned (.bool (!okAll ps))/\Ext w w':=by
  have HC:=zH (mvi_any u ps w hu hn);clear hu;go_enter Tryz.func96,Tryz.ntmps96
  go_wp2_with (go_at_call 143;refine HC.out.mono ?_;rintro e w2 ⟨z,rfl,hz,hx2⟩)
  go_ret
  exact⟨by rw[<-hz];rfl,hx2⟩
theorem polyValid_any (u:Value)(rs:List Ring)(w:World)(hu:RingsV w u rs)(hn:rs.length<=1048576)(hr:∀r,r∈rs->r.length<=1048576):
    Calls Tryz.prog 60 #[u] w fun e w'=>e= .returned (.bool (okR rs))/\Ext w w':=by
  obtain⟨A,cu,rfl,hA⟩:=hu;have HA:=zH hA;have HR:=zH hr;clear hA hr;go_enter Tryz.func60,Tryz.ntmps60
  go_wp2_with fail
  go_loopg [3,8] rs.length (fun c n i wr=>∃k m:Nat,k<=rs.length/\c=rs.length-k/\i= .int .i64 k/\n= .int .i64 m/\m=tot (rs.take k)/\m<=4096/\(∀i r,i<k->rs[i]?=some r->okAll r=true)/\Ext w wr)
  case atStart=>exact⟨0,0,Nat.zero_le _,rfl,rfl,rfl,rfl,Nat.zero_le _,fun i r h=>absurd h (Nat.not_lt_zero _),Ext.refl _⟩
  obtain⟨k,m,hk,rfl,rfl,rfl,hm,hm2,ho,hx⟩:=hrel;have HO:=zH ho;have HX:=zH hx;have HM:=zH hm;clear ho hx hm;by_cases hlt:k<rs.length
  · obtain⟨r,hr⟩:∃r,rs[k]?=some r:=⟨_,List.getElem?_eq_getElem hlt⟩
    obtain⟨g,off,rfl,hp⟩:=HA.out (by omega);obtain⟨B,cb,h1,h2⟩:=hp k r hr;have c1:=HX.out.get h1;have HP:=zH (h2.ext HX.out);have HRL:=zH (HR.out r (List.mem_of_getElem? hr));have HRK:=zH hr;have HTS:=zH (tot_succ hr);have hlt2:(k:Int)<(rs.length:Int):=by omega
    have HLT:=zH hlt;have hrl:=HRL.out;obtain⟨m2,hm3⟩:∃m2,m2=m+r.length:=⟨_,rfl⟩;have e1:(m:Int)+(r.length:Int)=(m2:Int):=by omega
    have wm:IntKind.i64.wrap (m2:Int)=(m2:Int):=by rw[IntKind.wrap_i64];omega
    have HM2:=zH (show m2=tot (rs.take (k+1))by rw[HTS.out,<-HM.out];exact hm3);clear hp h1 h2 hr hlt hm3;by_cases hbig:4096<m2
    · have hbz:(4096:Int)<(m2:Int):=by omega
      have HF:=zH (okR_stop HRK.out (Or.inl (by rw[<-HM2.out];exact hbig)));go_wp2_with fail
      go_ret
      exact⟨by rw[HF.out];rfl,HX.out⟩
    have hbz:¬(4096:Int)<(m2:Int):=by omega
    by_cases hok:okAll r=true
    · have hb:(!okAll r)=false:=by rw[hok];rfl
      go_upto_region 6 with fail
      go_upto_if 21 with(go_at_call 96;refine(pviC_any _ r _ HP.out hrl).mono ?_;rintro e w2 ⟨rfl,hx2⟩)
      go_wp2_with fail
      go_roundg (rs.length-(k+1))
      case measure=>have:=HLT.out;omega
      case rel=>exact⟨k+1,m2,HLT.out,rfl,by go_num,rfl,HM2.out,by omega,fun i r2 hi hr2=>by
        rcases Nat.lt_or_ge i k with h|h
        · exact HO.out i r2 h hr2
        obtain rfl:i=k:=by omega
        rw[HRK.out]at hr2;injection hr2 with hr2
        rw[<-hr2];exact hok,HX.out.trans hx2⟩
    have hb:(!okAll r)=true:=by rw[eq_false_of_ne_true hok];rfl
    have HF:=zH (okR_stop HRK.out (Or.inr (eq_false_of_ne_true hok)));go_upto_region 6 with fail
    go_upto_if 21 with(go_at_call 96;refine(pviC_any _ r _ HP.out hrl).mono ?_;rintro e w2 ⟨rfl,hx2⟩)
    go_wp2_with fail
    go_ret
    exact⟨by rw[HF.out];rfl,HX.out.trans hx2⟩
  obtain rfl:k=rs.length:=by omega
  have HF:=zH (okR_end (rs:=rs) (by have h:=HM.out;rw[List.take_of_length_le (Nat.le_refl _)]at h;omega) HO.out);have hge:¬(rs.length:Int)<(rs.length:Int):=by omega
  go_wp2_with fail
  go_ret
  exact⟨by rw[HF.out];rfl,HX.out⟩
theorem may_any (u:Value)(ps:List (Int×Int))(w:World)(hu:PtsV w u ps)(hn:ps.length<=1048576):
    Calls Tryz.prog 78 #[u] w fun e w'=>e= .returned (.bool (okAll ps))/\Ext w w':=by
  have HC:=zH (mviC_any u ps w hu hn);clear hu;go_enter Tryz.func78,Tryz.ntmps78
  go_wp2_with (go_at_call 96;refine HC.out.mono ?_;rintro e w2 ⟨rfl,hx2⟩)
  go_ret
  exact⟨by simp,hx2⟩
theorem add0_any (x y:Int)(w:World)(hv:okPt x y=true):
  Calls Tryz.prog 159 #[.agg #[.int .i64 x,.int .i64 y],.agg #[.int .i64 0,.int .i64 0]] w fun e w'=>e= .returned (.agg #[.int .i64 x,.int .i64 y])/\Ext w w':=by
 have hv2:(-1048576<=x/\x<=1048576)/\(-1048576<=y/\y<=1048576):=by simpa[okPt]using hv
 have c1:clampI x (-1048576) 1048576=x:=by have h:=eq_clamp x;rw[decide_eq_true hv2.1]at h;simpa using h
 have c2:clampI y (-1048576) 1048576=y:=by have h:=eq_clamp y;rw[decide_eq_true hv2.2]at h;simpa using h
 have c3:clampI 0 (-1048576) 1048576=0:=by decide
 have wx:IntKind.i64.wrap x=x:=by rw[IntKind.wrap_i64];omega
 have wy:IntKind.i64.wrap y=y:=by rw[IntKind.wrap_i64];omega
 clear hv hv2;go_enter Tryz.func159,Tryz.ntmps159
 go_upto_region 1 with fail
 have hE:Ext w (((w.alloc (.cells #[.int .i64 x,.int .i64 y] 28)).alloc (.cells #[.int .i64 0,.int .i64 0] 28)).alloc (.cells #[.int .i64 0,.int .i64 0] 28)):=(((Ext.refl _).alloc _).alloc _).alloc _;have hB2:Blk (((w.alloc (.cells #[.int .i64 x,.int .i64 y] 28)).alloc (.cells #[.int .i64 0,.int .i64 0] 28)).alloc (.cells #[.int .i64 0,.int .i64 0] 28)) w.heap.size 28 #[.int .i64 x,.int .i64 y]:=((Blk.new w _ _).alloc _).alloc _;have hB3:Blk (((w.alloc (.cells #[.int .i64 x,.int .i64 y] 28)).alloc (.cells #[.int .i64 0,.int .i64 0] 28)).alloc (.cells #[.int .i64 0,.int .i64 0] 28)) (w.heap.size+1) 28 #[.int .i64 0,.int .i64 0]:=Blk.alloc (by have h:=Blk.new (w.alloc (.cells #[.int .i64 x,.int .i64 y] 28)) 28 #[.int .i64 0,.int .i64 0];simpa using h) _;have hB4:Blk (((w.alloc (.cells #[.int .i64 x,.int .i64 y] 28)).alloc (.cells #[.int .i64 0,.int .i64 0] 28)).alloc (.cells #[.int .i64 0,.int .i64 0] 28)) (w.heap.size+1+1) 28 #[.int .i64 0,.int .i64 0]:=by have h:=Blk.new ((w.alloc (.cells #[.int .i64 x,.int .i64 y] 28)).alloc (.cells #[.int .i64 0,.int .i64 0] 28)) 28 #[.int .i64 0,.int .i64 0];simpa using h
 have n23:w.heap.size≠w.heap.size+1:=by omega
 have n24:w.heap.size≠w.heap.size+1+1:=by omega
 have n34:w.heap.size+1≠w.heap.size+1+1:=by omega
 have z3:w.heap.size<=w.heap.size+1:=by omega
 have z4:w.heap.size<=w.heap.size+1+1:=by omega
 generalize ((w.alloc (.cells #[.int .i64 x,.int .i64 y] 28)).alloc (.cells #[.int .i64 0,.int .i64 0] 28)).alloc (.cells #[.int .i64 0,.int .i64 0] 28)=wa at*
 generalize w.heap.size+1+1=X4 at*
 generalize w.heap.size+1=X3 at*
 have z2:w.heap.size<=w.heap.size:=Nat.le_refl _;generalize hX2:w.heap.size=X2 at hB2 n23 n24⊢
 have z22:w.heap.size<=X2:=by omega
 clear hX2 z2;refine wp_region_held_drew (S:=fun q=>Ext w q/\Blk q X2 28 #[.int .i64 x,.int .i64 y]/\Blk q X3 28 #[.int .i64 0,.int .i64 0]/\Blk q X4 28 #[.int .i64 0,.int .i64 0]) (by kernel_rfl) ⟨hE.drew,hB2,hB3,hB4⟩ (fun _=> ?_);refine mL 0 (bs 6 1) (fun q hq=>hq.2.1) Tryz.underlying28 (by kernel_rfl) ⟨hE.drew,hB2,hB3,hB4⟩ ?_;refine zl 2 (bs 6 5) (fun q hq=>hq.2.2.1) Tryz.underlying28 (by kernel_rfl) ⟨hE.drew,hB2,hB3,hB4⟩ ?_;refine mC 1 (bs 6 7) (hold_any x y _) ?_;rintro e w1 ⟨rfl,h1⟩;rw[c1,c2];have k1:Ext w w1/\Blk w1 X2 28 #[.int .i64 x,.int .i64 y]/\Blk w1 X3 28 #[.int .i64 0,.int .i64 0]/\Blk w1 X4 28 #[.int .i64 0,.int .i64 0]:=⟨hE.drew.trans h1,(show Blk wa.drew X2 _ _ from hB2).ext h1,(show Blk wa.drew X3 _ _ from hB3).ext h1,(show Blk wa.drew X4 _ _ from hB4).ext h1⟩;refine⟨_,rfl,k1,?_⟩;try simp only[Act.put,zA,zB,zC]
 refine mC 3 (bs 6 15) (hold_any 0 0 _) ?_;rintro e w2 ⟨rfl,h2⟩;rw[c3];have k2:Ext w w2/\Blk w2 X2 28 #[.int .i64 x,.int .i64 y]/\Blk w2 X3 28 #[.int .i64 0,.int .i64 0]/\Blk w2 X4 28 #[.int .i64 0,.int .i64 0]:=⟨k1.1.trans h2,k1.2.1.ext h2,k1.2.2.1.ext h2,k1.2.2.2.ext h2⟩;refine⟨_,rfl,k2,?_⟩;try simp only[Act.put,zA,zB,zC]
 have o1:=Own.setCells w2 X2 #[.int .i64 x,.int .i64 y];have k3:Ext w (w2.setCells X2 0 (#[.int .i64 x,.int .i64 y]:Array Value).toList)/\Blk (w2.setCells X2 0 (#[.int .i64 x,.int .i64 y]:Array Value).toList) X2 28 #[.int .i64 x,.int .i64 y]/\Blk (w2.setCells X2 0 (#[.int .i64 x,.int .i64 y]:Array Value).toList) X3 28 #[.int .i64 0,.int .i64 0]/\Blk (w2.setCells X2 0 (#[.int .i64 x,.int .i64 y]:Array Value).toList) X4 28 #[.int .i64 0,.int .i64 0]:=⟨o1.ext k2.1 z22,k2.2.1.setCells #[.int .i64 x,.int .i64 y] rfl,k2.2.2.1.own o1 (Ne.symm n23),k2.2.2.2.own o1 (Ne.symm n24)⟩;refine mO 4 (bs 6 31) #[.int .i64 x,.int .i64 y] k2.2.1 rfl (by kernel_rfl) (all_oneCell_toArray (by simp[Value.oneCell'])) k3 ?_
 (try simp only[Act.put])
 generalize w2.setCells X2 0 (#[.int .i64 x,.int .i64 y]:Array Value).toList=w3 at*
 have o2:=Own.setCells w3 X3 #[.int .i64 0,.int .i64 0];have k4:Ext w (w3.setCells X3 0 (#[.int .i64 0,.int .i64 0]:Array Value).toList)/\Blk (w3.setCells X3 0 (#[.int .i64 0,.int .i64 0]:Array Value).toList) X2 28 #[.int .i64 x,.int .i64 y]/\Blk (w3.setCells X3 0 (#[.int .i64 0,.int .i64 0]:Array Value).toList) X3 28 #[.int .i64 0,.int .i64 0]/\Blk (w3.setCells X3 0 (#[.int .i64 0,.int .i64 0]:Array Value).toList) X4 28 #[.int .i64 0,.int .i64 0]:=⟨o2.ext k3.1 z3,k3.2.1.own o2 n23,k3.2.2.1.setCells #[.int .i64 0,.int .i64 0] rfl,k3.2.2.2.own o2 (Ne.symm n34)⟩;refine mO 5 (bs 6 63) #[.int .i64 0,.int .i64 0] k3.2.2.1 rfl (by kernel_rfl) (all_oneCell_toArray (by simp[Value.oneCell'])) k4 ?_
 (try simp only[Act.put])
 generalize w3.setCells X3 0 (#[.int .i64 0,.int .i64 0]:Array Value).toList=w4 at*
 refine wpAnyH_done (by kernel_rfl) ?_ _;have d0:=k4.2.1.cell 0;have d1:=k4.2.1.cell 1;have d2:=k4.2.2.1.cell 0;have d3:=k4.2.2.1.cell 1;simp at d0 d1 d2 d3;have K4:=zH k4;clear k1 k2 k3 k4 h1 h2 hB2 hB3 hB4 hE o1 o2;go_upto_region 2 with fail
 refine wp_region_lit ?_;refine qV (.pointer (some ⟨X2,0,none⟩)) ?_;refine zq (.int .i64 x) ?_;refine qV (.pointer (some ⟨X3,0,none⟩)) ?_;refine zq (.int .i64 0) ?_;refine qV (.int .i64 x) ?_;refine zq (.pointer (some ⟨X2,1,none⟩)) ?_;refine qV (.int .i64 y) ?_;refine zq (.pointer (some ⟨X3,1,none⟩)) ?_;refine qV (.int .i64 0) ?_;refine zq (.int .i64 y) ?_;refine zq (.agg #[.int .i64 x,.int .i64 y]) ?_;refine pO #[.int .i64 x,.int .i64 y] K4.out.2.2.2 rfl (by kernel_rfl) (all_oneCell_toArray (by simp[Value.oneCell'])) ?_
 (try simp only[Act.put])
 have o3:=Own.setCells w4 X4 #[.int .i64 x,.int .i64 y];have hx4:=o3.ext K4.out.1 z4;have hb4:=K4.out.2.2.2.setCells #[.int .i64 x,.int .i64 y] rfl;generalize w4.setCells X4 0 (#[.int .i64 x,.int .i64 y]:Array Value).toList=w5 at*
 clear o3;go_wp2_with fail
 refine bodyPost_ret (v:= .agg #[.int .i64 x,.int .i64 y]) ?_ rfl ⟨rfl,hx4⟩;exact results_cell1 rfl rfl (hb4.loadVar rfl rfl (by rfl))
end Go.Proofs.YtngikkggjidenabGreat
namespace Go.Proofs.YtngikkggjidenabGreat
open Go.RowKit
theorem infoPt:(Tryz.prog.info? 28).map (fun i=>(i.zero,i.size,i.bytes))=some (some (.agg #[.int .i64 0,.int .i64 0]),2,16):=by kernel_rfl
theorem infoSl:(Tryz.prog.info? 44).map (fun i=>(i.zero,i.size,i.bytes))=some (some (.slice none 0 0),1,24):=by kernel_rfl
def ptCells (xs:List (Int×Int)):List Value:=xs.flatMap fun x=>[Value.int .i64 x.1,Value.int .i64 x.2]
theorem ptCells_snoc (xs:List (Int×Int))(x:Int×Int):ptCells (xs++[x])=ptCells xs++[Value.int .i64 x.1,Value.int .i64 x.2]:=by simp[ptCells]
theorem ptCells_get (ps:List (Int×Int))(i:Nat)(hi:i<ps.length):(ptCells ps)[i*2]?=some (.int .i64 (ps.getD i (0,0)).1)/\(ptCells ps)[i*2+1]?=some (.int .i64 (ps.getD i (0,0)).2):=by
 induction ps generalizing i with
 |nil=>simp at hi
 |cons x xs ih=>
  cases i with
  |zero=>simp[ptCells]
  |succ i=>
   have:=ih i (by simpa using hi);have e:ptCells (x::xs)=Value.int .i64 x.1::Value.int .i64 x.2::ptCells xs:=by simp[ptCells]
   rw[e,show(i+1)*2=i*2+1+1 by omega,show i*2+1+1+1=(i*2+1)+1+1 by omega];simpa using this
theorem one_pt (x:Int×Int):∀u∈([.int .i64 x.1,.int .i64 x.2]:List Value),u.oneCell'=true:=by simp[Value.oneCell']
theorem noUL_pt (x:Int×Int):NoUL [.int .i64 x.1,.int .i64 x.2]:=by intro y hy k;simp at hy;rcases hy with rfl|rfl<;>simp
theorem noUL_zpt:NoUL (Value.agg #[.int .i64 0,.int .i64 0]).cells.toList:=by intro x hx k;simp[Value.cells]at hx;rcases hx with rfl|rfl<;>simp
theorem noUL_zsl:NoUL (Value.slice none 0 0).cells.toList:=by intro x hx k;simp[Value.cells]at hx;rw[hx];simp
theorem two_new (w:World)(a b:Value)(t:TypeId):∀(j:Nat) (u:Value),[a,b][j]?=some u->(w.alloc (.cells #[a,b] t)).cell? ((⟨w.heap.size,0,none⟩:Addr).add j)=some u:=by
  intro j u hj;match j,hj with
  |0,hj=>simp at hj;subst hj;simp[Addr.add]
  |1,hj=>simp at hj;subst hj;simp[Addr.add]
theorem RowN.pts {w:World}{base:Nat}{v:Value}{ps:List (Int×Int)}(h:RowN w base 28 2 v ps.length (ptCells ps)):∃B cb,v= .slice B ps.length cb/\PtsV w v ps/\∀A,B=some A->base<=A.block:=by
 obtain⟨_,⟨rfl,hz⟩|⟨g,cap,rest,rfl,hb,hB,_⟩⟩:=h
 ·have:ps=[]:=List.eq_nil_of_length_eq_zero hz
  subst this;exact⟨none,0,rfl,⟨none,0,rfl,fun h=>absurd rfl h⟩,fun A h=>by cases h⟩
 refine⟨_,cap,rfl,⟨_,cap,rfl,fun _=>⟨g,0,rfl,fun i hi=> ?_⟩⟩,fun A h=>by injection h with h;rw[<-h];exact hb⟩;obtain⟨h1,h2⟩:=ptCells_get ps i hi;rw[Nat.zero_add];exact⟨by rw[hB.cell,List.getElem?_toArray,List.getElem?_append_left (List.getElem?_eq_some_iff.1 h1).1];exact h1,by rw[hB.cell,List.getElem?_toArray,List.getElem?_append_left (List.getElem?_eq_some_iff.1 h2).1];exact h2⟩
theorem PtsV.grown {w w':World}{B:Option Addr}{n cb:Nat}{ps:List (Int×Int)}{row:Option Nat}(h:PtsV w (.slice B n cb) ps)(hg:w.grownBy w' row)(hne:∀A,B=some A->row≠some A.block):PtsV w' (.slice B n cb) ps:=by
 obtain⟨A,cap,hv,ha⟩:=h;refine⟨A,cap,hv,fun hn=> ?_⟩;obtain⟨g,off,rfl,hp⟩:=ha hn;injection hv with e1 _ _
 have hn2:=hne _ e1;have hc:∀o v,w.cell? ⟨g,o,none⟩=some v->w'.cell? ⟨g,o,none⟩=some v:=fun o v hc=>
  (World.cell?_of_block (w:=w) (a:=⟨g,o,none⟩) (hg.block g (World.block_lt_of_cell? w _ hc) (Ne.symm hn2))).trans hc
 exact⟨g,off,rfl,fun i hi=>⟨hc _ _ (hp i hi).1,hc _ _ (hp i hi).2⟩⟩
def Tr (b0:Nat)(w:World)(v:Value)(done:List Ring):Prop:=∃vs:List Value,RowN w b0 44 1 v done.length vs/\vs.length=done.length/\
  ∀(i:Nat) (r:Ring),done[i]?=some r->∃(B:Option Addr) (cb:Nat),vs[i]?=some (Value.slice B r.length cb)/\PtsV w (Value.slice B r.length cb) r/\(∀A,B=some A->v.ownBlock≠some A.block/\A.block<w.heap.size)/\∀A,B=some A->b0<=A.block
theorem Tr.ext {b0:Nat}{w w':World}{v:Value}{done:List Ring}(h:Tr b0 w v done)(x:Ext w w'):Tr b0 w' v done:=by
  obtain⟨vs,h1,h2,h3⟩:=h;refine⟨vs,h1.ext x,h2,fun i r hr=> ?_⟩;obtain⟨B,cb,h4,h5,h6,h7⟩:=h3 i r hr;exact⟨B,cb,h4,h5.ext x,fun A hA=>⟨(h6 A hA).1,Nat.lt_of_lt_of_le (h6 A hA).2 x.size⟩,h7⟩
theorem Tr.snoc {b0 gx cap n:Nat}{w w':World}{v s:Value}{done:List Ring}{r:Ring}(_h:Tr b0 w v done)(hn:done.length=n){B:Option Addr}{cb:Nat}(hs:s= .slice B r.length cb)(hp:PtsV w (.slice B r.length cb) r)(hB:∀A,B=some A->v.ownBlock≠some A.block/\A.block<w.heap.size)(hB0:∀A,B=some A->b0<=A.block)
  (vs:List Value)(hvs:∃xs,RowN w b0 44 1 v done.length xs/\xs.length=done.length/\xs=vs/\∀(i:Nat) (r:Ring),done[i]?=some r->∃(B:Option Addr) (cb:Nat),xs[i]?=some (Value.slice B r.length cb)/\PtsV w (Value.slice B r.length cb) r/\(∀A,B=some A->v.ownBlock≠some A.block/\A.block<w.heap.size)/\∀A,B=some A->b0<=A.block)
  (h2:RowN w' b0 44 1 (.slice (some ⟨gx,0,none⟩) (n+1) cap) (n+1) (vs++[s]))(h3:w.grownBy w' v.ownBlock)(hf:v.ownBlock=some gx\/w.heap.size<=gx):
  Tr b0 w' (.slice (some ⟨gx,0,none⟩) (n+1) cap) (done++[r]):=by
 subst hn;obtain⟨xs,k1,k2,rfl,k3⟩:=hvs;have key:∀A:Addr,v.ownBlock≠some A.block/\A.block<w.heap.size->(Value.slice (some ⟨gx,0,none⟩) (done.length+1) cap).ownBlock≠some A.block/\A.block<w'.heap.size:=by
  intro A ⟨q1,q2⟩;refine⟨fun e=> ?_,Nat.lt_of_lt_of_le q2 h3.size⟩;simp[Value.ownBlock]at e;rcases hf with hf|hf
  ·exact q1 (by rw[hf,e])
  omega
 refine⟨xs++[s],by rw[List.length_append];exact h2,by simp[k2],fun i r2 hr=> ?_⟩;by_cases hi:i<done.length
 ·rw[List.getElem?_append_left hi]at hr
  obtain⟨B2,cb2,q1,q2,q3,q4⟩:=k3 i r2 hr;exact⟨B2,cb2,by rw[List.getElem?_append_left (by omega)];exact q1,q2.grown h3 (fun A hA=>(q3 A hA).1),fun A hA=>key A (q3 A hA),q4⟩
 rw[List.getElem?_append_right (by omega)]at hr;have hi0:i-done.length=0:=by
  have:=(List.getElem?_eq_some_iff.1 hr).1;simp at this;omega
 rw[hi0]at hr;simp at hr;subst hr;refine⟨B,cb,?_,hp.grown h3 (fun A hA=>(hB A hA).1),fun A hA=>key A (hB A hA),hB0⟩;rw[List.getElem?_append_right (by omega),k2,hi0,hs];rfl
theorem Tr.reads {b0:Nat}{w:World}{v:Value}{rs:List Ring}(h:Tr b0 w v rs):RingsV w v rs:=by
  obtain⟨vs,h1,h2,h3⟩:=h;obtain⟨_,⟨rfl,hz⟩|⟨g,cap,rest,rfl,hb,hB,_⟩⟩:=h1
  · exact⟨none,0,by rw[hz],fun h=>by omega⟩
  refine⟨_,cap,rfl,fun _=>⟨g,0,rfl,fun i r hr=> ?_⟩⟩;obtain⟨B,cb,h4,h5,_⟩:=h3 i r hr;refine⟨B,cb,?_,h5⟩;rw[Nat.zero_add,hB.cell,List.getElem?_toArray,List.getElem?_append_left (by have:=(List.getElem?_eq_some_iff.1 h4).1;exact this)];exact h4
theorem okR_pt {rs:List Ring}{k j:Nat}{r:Ring}{p:Int×Int}(h:okR rs=true)(hr:rs[k]?=some r)(hp:r[j]?=some p):okPt p.1 p.2=true:=by
  unfold okR at h;rw[Bool.and_eq_true,List.all_eq_true]at h;have h2:=h.2 r (List.mem_of_getElem? hr);unfold okAll at h2;rw[List.all_eq_true]at h2;exact h2 p (List.mem_of_getElem? hp)
theorem okR_tot {rs:List Ring}(h:okR rs=true):tot rs<=4096:=by
  unfold okR at h;rw[Bool.and_eq_true,decide_eq_true_iff]at h;exact h.1
end Go.Proofs.YtngikkggjidenabGreat
namespace Go.Proofs.YtngikkggjidenabGreat
open Go.RowKit
attribute [local go_sem ↓] Go.wp_at_zero Go.wp_at_succ run_max_ii run_min_ii
theorem results_c1t1 {P:Program}{fn:Func}{i j:Tmp}{t:TypeId}(h:fn.results=#[.cell i t,.tmp j]){tmps:Array Value}{w:World}{p:Addr}{v v2:Value}
    (hi:tmps.getD i undef= .pointer (some p))(h1:(Go.loadVar t p).run P w= .ok v w)(hj:tmps.getD j undef=v2):(results fn tmps).run P w= .ok (.tuple #[v,v2]) w:=by
  simp only[Array.getD_eq_getD_getElem?]at hi hj;simp[results,h,hi,hj,h1,asAddr]
theorem rcmp_neg (q r:Rat):rcmp r q= -rcmp q r:=by
  unfold rcmp;rw[<-Int.sign_neg];congr 1;omega
theorem PtsV.two {w:World}{X:Nat}{t:TypeId}{ax ay bx bY:Int}(h:Blk w X t #[.int .i64 ax,.int .i64 ay,.int .i64 bx,.int .i64 bY]):PtsV w (.slice (some ⟨X,0,none⟩) 2 2) [(ax,ay),(bx,bY)]:=by
  refine⟨_,2,rfl,fun _=>⟨X,0,rfl,fun i hi=> ?_⟩⟩;match i,hi with
  |0,_=>exact⟨by rw[h.cell];rfl,by rw[h.cell];rfl⟩
  |1,_=>exact⟨by rw[h.cell];rfl,by rw[h.cell];rfl⟩
theorem may_t (u:Value)(ps:List (Int×Int))(w:World)(hu:PtsV w u ps)(hn:ps.length<=1048576)(hok:okAll ps=true):
    Calls Tryz.prog 78 #[u] w fun e w'=>e= .returned (.bool true)/\Ext w w':=by
  have h:=may_any u ps w hu hn;rw[hok]at h;exact h
def xatV (ax ay bx bY:Int)(y:Rat):Rat:=(ax:Rat)+(y-(ay:Rat))*(((1:Int):Rat)/((bY-ay:Int):Rat))*((bx-ax:Int):Rat)
set_option maxHeartbeats 8000000 in
theorem xat_any (L:Nat)(ax ay bx bY:Int)(cy:Array Value)(y:Rat)(w:World)(hy:NIn L w cy y)(h1L:1<=L)(hL:L<=2000)(ha:okPt ax ay=true)(hb:okPt bx bY=true)(hne:ay≠bY)(hlo:((min ay bY:Int):Rat)<=y)(hhi:y<=((max ay bY:Int):Rat)):
  Calls Tryz.prog 109 #[.agg #[.int .i64 ax,.int .i64 ay],.agg #[.int .i64 bx,.int .i64 bY],.agg cy] w fun e w'=>∃c,e= .returned (.tuple #[.agg c,.bool true])/\NIs w' c (xatV ax ay bx bY y)/\Ext w w':=by
 have ha2:(-1048576<=ax/\ax<=1048576)/\(-1048576<=ay/\ay<=1048576):=by simpa[okPt]using ha
 have hb2:(-1048576<=bx/\bx<=1048576)/\(-1048576<=bY/\bY<=1048576):=by simpa[okPt]using hb
 have HOK:=zH (show okAll [(ax,ay),(bx,bY)]=true by simp[okAll,ha,hb]);have ZY:=hy.size;have ry:=hy.rl h1L;have k1:¬rcmp y ((min ay bY:Int):Rat)<0:=fun h=>Rat.not_lt.2 hlo (rcmp_lt.1 h)
 have k2:¬rcmp ((max ay bY:Int):Rat) y<0:=fun h=>Rat.not_lt.2 hhi (rcmp_lt.1 h)
 have HK1:=zH k1;have HK2:=zH k2;have hm1: -1048576<=min ay bY/\min ay bY<=1048576:=by omega
 have hm2: -1048576<=max ay bY/\max ay bY<=1048576:=by omega
 clear ha hb hlo hhi k1 k2;have Fy:=zH hy;clear hy;go_enter Tryz.func109,Tryz.ntmps109
 go_upto_region 1 with fail
 have hbx0:Blk ((((w.alloc (.cells #[.int .i64 ax,.int .i64 ay] 28)).alloc (.cells #[.int .i64 bx,.int .i64 bY] 28)).alloc (.cells cy 33)).alloc (.cells z4 33)) (w.heap.size) 28 #[.int .i64 ax,.int .i64 ay]:=Blk.ext (Blk.new_at w _ (by simp) _ _) ((((Ext.refl _).alloc _).alloc _).alloc _);have hbx1:Blk ((((w.alloc (.cells #[.int .i64 ax,.int .i64 ay] 28)).alloc (.cells #[.int .i64 bx,.int .i64 bY] 28)).alloc (.cells cy 33)).alloc (.cells z4 33)) (w.heap.size+1) 28 #[.int .i64 bx,.int .i64 bY]:=Blk.ext (Blk.new_at (w.alloc (.cells #[.int .i64 ax,.int .i64 ay] 28)) _ (by simp) _ _) (((Ext.refl _).alloc _).alloc _);have hbx2:Blk ((((w.alloc (.cells #[.int .i64 ax,.int .i64 ay] 28)).alloc (.cells #[.int .i64 bx,.int .i64 bY] 28)).alloc (.cells cy 33)).alloc (.cells z4 33)) (w.heap.size+1+1) 33 cy:=Blk.ext (Blk.new_at ((w.alloc (.cells #[.int .i64 ax,.int .i64 ay] 28)).alloc (.cells #[.int .i64 bx,.int .i64 bY] 28)) _ (by simp) _ _) ((Ext.refl _).alloc _);have hR0:Blk ((((w.alloc (.cells #[.int .i64 ax,.int .i64 ay] 28)).alloc (.cells #[.int .i64 bx,.int .i64 bY] 28)).alloc (.cells cy 33)).alloc (.cells z4 33)) (w.heap.size+1+1+1) 33 z4:=Blk.ext (Blk.new_at (((w.alloc (.cells #[.int .i64 ax,.int .i64 ay] 28)).alloc (.cells #[.int .i64 bx,.int .i64 bY] 28)).alloc (.cells cy 33)) _ (by simp) _ _) (Ext.refl _);have hE:Ext w ((((w.alloc (.cells #[.int .i64 ax,.int .i64 ay] 28)).alloc (.cells #[.int .i64 bx,.int .i64 bY] 28)).alloc (.cells cy 33)).alloc (.cells z4 33)):=(((((Ext.refl _).alloc _).alloc _).alloc _).alloc _);have gR0:w.heap.size<=w.heap.size+1+1+1:=by omega
 have nbx0_R0:w.heap.size≠w.heap.size+1+1+1:=by omega
 have nbx1_R0:w.heap.size+1≠w.heap.size+1+1+1:=by omega
 have nbx2_R0:w.heap.size+1+1≠w.heap.size+1+1+1:=by omega
 generalize ((((w.alloc (.cells #[.int .i64 ax,.int .i64 ay] 28)).alloc (.cells #[.int .i64 bx,.int .i64 bY] 28)).alloc (.cells cy 33)).alloc (.cells z4 33))=wa at*
 generalize w.heap.size+1+1+1=R0 at*
 generalize w.heap.size+1+1=bx2 at*
 generalize w.heap.size+1=bx1 at*
 have E1:Hid (Ext w wa):=hE;have Fbx0:=zH hbx0;have Fbx1:=zH hbx1;have Fbx2:=zH hbx2;have FR0:=zH hR0;clear hE hbx0 hbx1 hbx2 hR0;refine wp_region_held_drew (S:=fun x=>Ext wa x) (by kernel_rfl) (Ext.refl _).drew (fun _=> ?_);have E2:=zH (show Ext wa wa.drew from(Ext.refl _).drew);refine zv 0 (bs 16 1) E2.out ?_;refine zu 1 (bs 16 3) (v:= .int .i64 ay) E2.out ?_ (hv:=by intro w hSw;(try dsimp only at hSw);have hq_:=(Fbx0.out.ext hSw).cell 1;simp only[List.getElem?_toArray,List.getElem?_cons_zero,List.getElem?_cons_succ]at hq_;go_simp<;>with_reducible rfl);refine zv 2 (bs 16 7) E2.out ?_;refine zu 3 (bs 16 15) (v:= .int .i64 bY) E2.out ?_ (hv:=by intro w hSw;(try dsimp only at hSw);have hq_:=(Fbx1.out.ext hSw).cell 1;simp only[List.getElem?_toArray,List.getElem?_cons_zero,List.getElem?_cons_succ]at hq_;go_simp<;>with_reducible rfl);refine zv 4 (bs 16 31) E2.out ?_;refine zv 6 (bs 16 95) E2.out ?_;refine zu 7 (bs 16 223) (v:= .int .i64 ay) E2.out ?_ (hv:=by intro w hSw;(try dsimp only at hSw);have hq_:=(Fbx0.out.ext hSw).cell 1;simp only[List.getElem?_toArray,List.getElem?_cons_zero,List.getElem?_cons_succ]at hq_;go_simp<;>with_reducible rfl);refine zv 8 (bs 16 479) E2.out ?_;refine zu 9 (bs 16 991) (v:= .int .i64 bY) E2.out ?_ (hv:=by intro w hSw;(try dsimp only at hSw);have hq_:=(Fbx1.out.ext hSw).cell 1;simp only[List.getElem?_toArray,List.getElem?_cons_zero,List.getElem?_cons_succ]at hq_;go_simp<;>with_reducible rfl);refine zv 10 (bs 16 2015) E2.out ?_;refine tuple2 (f:=2) 5 11 12 13 16 22 8 9 33 z4 (fun v w=>∃c,v= .agg c/\NIs w c ((min ay bY:Int):Rat)) (fun v w=>∃c,v= .agg c/\NIs w c ((max ay bY:Int):Rat)) rfl rfl rfl rfl (by decide) (by decide) (by kernel_rfl) (fun _ hx=>E2.out.trans hx) (fun _ _ _ h e=>by obtain⟨c,h1,h2⟩:=h;exact⟨c,h1,h2.ext e⟩) (fun _ _ _ h e=>by obtain⟨c,h1,h2⟩:=h;exact⟨c,h1,h2.ext e⟩) ?hm11c1 ?hm11c2 ?hm11c3 ?hm11c4 ?hm11e undef undef undef undef (by kernel_rfl) rfl;case hm11c1=>
  intro v1 v2 v3 v4 w1 K hx hSw hK;try simp only[Act.put,zA,zB,zC]
  rw[if_pos (by rfl)];refine wp_call_op (by go_simp) (pFrom (min ay bY) _ (by omega) (by omega)) ?_;rintro e w' ⟨c,rfl,hc,he⟩;refine⟨_,rfl,?_⟩;have hk:=hK.out _ _ ⟨_,rfl,hc⟩ he;try simp only[Act.put,zA,zB,zC]
  simp only[Act.put,zA,zB,zC]at hk;exact hk
 case hm11c2=>
  intro v1 v2 v3 v4 w1 K hx hSw hK;try simp only[Act.put,zA,zB,zC]
  rw[if_pos (by rfl)];refine wp_call_op (by go_simp) (pFrom (max ay bY) _ (by omega) (by omega)) ?_;rintro e w' ⟨c,rfl,hc,he⟩;refine⟨_,rfl,?_⟩;have hk:=hK.out _ _ ⟨_,rfl,hc⟩ he;try simp only[Act.put,zA,zB,zC]
  simp only[Act.put,zA,zB,zC]at hk;exact hk
 case hm11c3=>
  intro v1 v2 v3 v4 w1 K hx hSw hK;try simp only[Act.put,zA,zB,zC]
  go_simp
  have hk:=hK.out;simp only[Act.put,zA,zB,zC]at hk;exact hk
 case hm11c4=>
  intro v1 v2 v3 v4 w1 K hx hSw hK;try simp only[Act.put,zA,zB,zC]
  go_simp
  have hk:=hK.out;simp only[Act.put,zA,zB,zC]at hk;exact hk
 intro v1 v2 Xm111 Xm112 wqm11 hx hSw xp1 xp2 xb1 xb2 xz1 xz2 n12;obtain⟨_,rfl,lo,rfl,ilo⟩:=xp1;obtain⟨_,rfl,hi,rfl,ihi⟩:=xp2
 (try simp only[zA,zB,zC])
 have hy:Ext wa wqm11:=hSw;obtain⟨xk2,xex,xr1,xr2,xe1,xfm⟩:=stored_two (zs:=z4) (c1:=#[.bool lo.n,.slice lo.p lo.l lo.c,.bool lo.m,.slice lo.p2 lo.l2 lo.c2]) (c2:=#[.bool hi.n,.slice hi.p hi.l hi.c,.bool hi.m,.slice hi.p2 hi.l2 hi.c2]) (noU_of _ (by simp)) hy xb1 xb2 xz1 xz2 n12 rfl rfl;refine mO 14 (bs 16 32767) #[.bool lo.n,.slice lo.p lo.l lo.c,.bool lo.m,.slice lo.p2 lo.l2 lo.c2] xb1 rfl (by kernel_rfl) (all_oneCell_toArray (by simp[Value.oneCell'])) xe1 ?_
 (try simp only[Act.put])
 refine mO 15 (bs 16 65535) #[.bool hi.n,.slice hi.p hi.l hi.c,.bool hi.m,.slice hi.p2 hi.l2 hi.c2] xk2 rfl (by kernel_rfl) (all_oneCell_toArray (by simp[Value.oneCell'])) xex ?_
 (try simp only[Act.put])
 refine wpAnyH_done (by kernel_rfl) ?_ _;have jlo:=xfm _ _ ilo;have nV8_R0:Xm111≠R0:=by have h9:=Blk.lt FR0.out;have h8:wa.heap.size<=Xm111:=xz1;omega
 have jhi:=xfm _ _ ihi;have nV9_R0:Xm112≠R0:=by have h9:=Blk.lt FR0.out;have h8:wa.heap.size<=Xm112:=xz2;omega
 clear xb1 xb2 xfm hx hy hSw xk2 xe1 ilo ihi;generalize ((wqm11.setCells Xm111 0 (#[.bool lo.n,.slice lo.p lo.l lo.c,.bool lo.m,.slice lo.p2 lo.l2 lo.c2]:Array Value).toList).setCells Xm112 0 (#[.bool hi.n,.slice hi.p hi.l hi.c,.bool hi.m,.slice hi.p2 hi.l2 hi.c2]:Array Value).toList)=wsm11 at*
 have E2:Hid (Ext wa wsm11):=xex;have FV8:=zH xr1;have Flo:=zH jlo;have FV9:=zH xr2;have Fhi:=zH jhi;clear xex xr1 jlo xr2 jhi;obtain⟨z1,hz1⟩:∃z,z=rcmp y ((min ay bY:Int):Rat):=⟨_,rfl⟩;obtain⟨z2,hz2⟩:∃z,z=rcmp y ((max ay bY:Int):Rat):=⟨_,rfl⟩;have hz1n:¬z1<0:=by rw[hz1];exact HK1.out
 have hz2n:¬0<z2:=by rw[hz2,rcmp_neg ((max ay bY:Int):Rat) y];have:=HK2.out;omega
 have HZ1:=zH hz1;have HZ2:=zH hz2;clear hz1 hz2;have hneb:(ay==bY)=false:=by simpa using hne
 have rl1:=rlI (min ay bY) (by omega);have rl2:=rlI (max ay bY) (by omega);have rl3:=rlI ay (by omega);have rl4:=rlI 1 (by decide);have rl5:=rlI (bY-ay) (by omega);go_upto_region 2 with fail
 refine wp_region_lit ?_;refine pL (Fbx0.out.ext E2.out) Tryz.underlying28 (by rw[show(#[.int .i64 ax,.int .i64 ay]:Array Value).size=2 from rfl];kernel_rfl) ?_;try simp only[Act.put,zA,zB,zC]
 refine pL (Fbx1.out.ext E2.out) Tryz.underlying28 (by rw[show(#[.int .i64 bx,.int .i64 bY]:Array Value).size=2 from rfl];kernel_rfl) ?_;try simp only[Act.put,zA,zB,zC]
 refine zp (w':=(wsm11.alloc (.cells #[.int .i64 ax,.int .i64 ay,.int .i64 bx,.int .i64 bY] 28))) (.slice (some ⟨wsm11.heap.size,0,none⟩) 2 2) (by go_simp) ?_;have hbS:=Blk.new wsm11 28 #[.int .i64 ax,.int .i64 ay,.int .i64 bx,.int .i64 bY];have hxS:Ext wsm11 (wsm11.alloc (.cells #[.int .i64 ax,.int .i64 ay,.int .i64 bx,.int .i64 bY] 28)):=(Ext.refl _).alloc _;generalize (wsm11.alloc (.cells #[.int .i64 ax,.int .i64 ay,.int .i64 bx,.int .i64 bY] 28))=wS at*
 generalize wsm11.heap.size=XS at*
 have E3:Hid (Ext wsm11 wS):=hxS;refine mv_call (by rfl) (by go_simp) (may_t _ [(ax,ay),(bx,bY)] _ (PtsV.two hbS) (by simp) HOK.out) ?_;rintro e w4 ⟨rfl,hx⟩;have E4:Hid (Ext wS w4):=hx;clear hx;refine⟨_,rfl,?_⟩;try simp only[Act.put,zA,zB,zC]
 clear hbS;refine pV (w':=w4) ?_;try simp only[Act.put,zA,zB,zC]
 refine pV (w':=w4) ?_;try simp only[Act.put,zA,zB,zC]
 refine pV (w':=w4) ?_;try simp only[Act.put,zA,zB,zC]
 have hq_:=((Fbx0.out.ext (tr E2 (tr E3 E4)).out)).cell 1;simp only[List.getElem?_toArray,List.getElem?_cons_zero,List.getElem?_cons_succ]at hq_;refine zq (.int .i64 ay) ?_;clear hq_;refine pV (w':=w4) ?_;try simp only[Act.put,zA,zB,zC]
 have hq_:=((Fbx1.out.ext (tr E2 (tr E3 E4)).out)).cell 1;simp only[List.getElem?_toArray,List.getElem?_cons_zero,List.getElem?_cons_succ]at hq_;refine zq (.int .i64 bY) ?_;clear hq_;refine pV (w':=w4) ?_;try simp only[Act.put,zA,zB,zC]
 refine pV (w':=w4) ?_;try simp only[Act.put,zA,zB,zC]
 refine pV (w':=w4) ?_;try simp only[Act.put,zA,zB,zC]
 refine pL (Fbx2.out.ext (tr E2 (tr E3 E4)).out) Tryz.underlying33 (by rw[show(cy:Array Value).size=4 from ZY];kernel_rfl) ?_;try simp only[Act.put,zA,zB,zC]
 refine pL (FV8.out.ext (tr E3 E4).out) Tryz.underlying33 (by rw[show(#[.bool lo.n,.slice lo.p lo.l lo.c,.bool lo.m,.slice lo.p2 lo.l2 lo.c2]:Array Value).size=4 from rfl];kernel_rfl) ?_;try simp only[Act.put,zA,zB,zC]
 refine mv_call (by rfl) (by go_simp) (pCmpS (L:=L) HZ1.out (Fy.out.ext (tr E1 (tr E2 (tr E3 E4))).out) (NIs.isIn ⟨lo,rfl,(Flo.out.ext (tr E3 E4).out)⟩ (by omega)) (by omega)) ?_;rintro e w5 ⟨rfl,hx⟩;have E5:Hid (Ext w4 w5):=hx;clear hx;refine⟨_,rfl,?_⟩;try simp only[Act.put,zA,zB,zC]
 refine pV (w':=w5) ?_;try simp only[Act.put,zA,zB,zC]
 refine pV (w':=w5) ?_;try simp only[Act.put,zA,zB,zC]
 refine pV (w':=w5) ?_;try simp only[Act.put,zA,zB,zC]
 refine pL (Fbx2.out.ext (tr E2 (tr E3 (tr E4 E5))).out) Tryz.underlying33 (by rw[show(cy:Array Value).size=4 from ZY];kernel_rfl) ?_;try simp only[Act.put,zA,zB,zC]
 refine pL (FV9.out.ext (tr E3 (tr E4 E5)).out) Tryz.underlying33 (by rw[show(#[.bool hi.n,.slice hi.p hi.l hi.c,.bool hi.m,.slice hi.p2 hi.l2 hi.c2]:Array Value).size=4 from rfl];kernel_rfl) ?_;try simp only[Act.put,zA,zB,zC]
 refine mv_call (by rfl) (by go_simp) (pCmpS (L:=L) HZ2.out (Fy.out.ext (tr E1 (tr E2 (tr E3 (tr E4 E5)))).out) (NIs.isIn ⟨hi,rfl,(Fhi.out.ext (tr E3 (tr E4 E5)).out)⟩ (by omega)) (by omega)) ?_;rintro e w6 ⟨rfl,hx⟩;have E6:Hid (Ext w5 w6):=hx;clear hx;refine⟨_,rfl,?_⟩;try simp only[Act.put,zA,zB,zC]
 refine pV (w':=w6) ?_;try simp only[Act.put,zA,zB,zC]
 refine pV (w':=w6) ?_;try simp only[Act.put,zA,zB,zC]
 clear hz1n hz2n HZ1 HZ2 HK1 HK2;go_upto_region 4 with fail
 have wd:IntKind.i64.wrap (bY-ay)=bY-ay:=by rw[IntKind.wrap_i64];omega
 have q1:=Nm.rl_sub y (ay:Rat);have q2:=Nm.rl_div ((1:Int):Rat) ((bY-ay:Int):Rat);have q3:=Nm.rl_mul (y-(ay:Rat)) (((1:Int):Rat)/((bY-ay:Int):Rat));go_cut [10] (fun s wx=>∃(X8:Nat) (c8:Array Value),s= .pointer (some ⟨X8,0,none⟩)/\NIs wx c8 ((y-(ay:Rat))*(((1:Int):Rat)/((bY-ay:Int):Rat)))/\Blk wx X8 33 c8/\Ext w6 wx)
 case first=>
  refine wp_region_held_drew (S:=fun x=>Ext w6 x) (by kernel_rfl) (Ext.refl _).drew (fun _=> ?_);have E7:=zH (show Ext w6 w6.drew from(Ext.refl _).drew);refine zl 0 (bs 14 1) (fun x hx=>((Fbx2.out.ext (tr E2 (tr E3 (tr E4 (tr E5 E6)))).out)).ext hx) Tryz.underlying33 (by rw[show(cy:Array Value).size=4 from ZY];kernel_rfl) E7.out ?_;refine zv 1 (bs 14 3) E7.out ?_;refine zu 2 (bs 14 7) (v:= .int .i64 ay) E7.out ?_ (hv:=by intro w hSw;(try dsimp only at hSw);have hq_:=((Fbx0.out.ext (tr E2 (tr E3 (tr E4 (tr E5 E6)))).out).ext hSw).cell 1;simp only[List.getElem?_toArray,List.getElem?_cons_zero,List.getElem?_cons_succ]at hq_;go_simp<;>with_reducible rfl);refine zv 5 (bs 14 39) E7.out ?_;refine zu 6 (bs 14 103) (v:= .int .i64 bY) E7.out ?_ (hv:=by intro w hSw;(try dsimp only at hSw);have hq_:=((Fbx1.out.ext (tr E2 (tr E3 (tr E4 (tr E5 E6)))).out).ext hSw).cell 1;simp only[List.getElem?_toArray,List.getElem?_cons_zero,List.getElem?_cons_succ]at hq_;go_simp<;>with_reducible rfl);refine zv 7 (bs 14 231) E7.out ?_;refine zu 8 (bs 14 487) (v:= .int .i64 ay) E7.out ?_ (hv:=by intro w hSw;(try dsimp only at hSw);have hq_:=((Fbx0.out.ext (tr E2 (tr E3 (tr E4 (tr E5 E6)))).out).ext hSw).cell 1;simp only[List.getElem?_toArray,List.getElem?_cons_zero,List.getElem?_cons_succ]at hq_;go_simp<;>with_reducible rfl);refine zv 9 (bs 14 999) E7.out ?_;refine mB 3 12 (bs 14 1007) (bs 14 5095) (u:= .pointer (some ⟨w6.drew.heap.size,0,none⟩)) (wj:=(w6.drew.alloc (.cells z4 33))) (pFrom ay _ (by omega) (by omega)) (E7.out.alloc _) ?_ ?_
  ·rintro e w8 ⟨c1,rfl,hc,hx⟩
   have E8:Hid (Ext w6.drew w8):=hx;have FA1:=zH hc;clear hc;clear hx;refine⟨_,rfl,(tr E7 E8).out,?_⟩;try simp only[Act.put,zA,zB,zC]
   refine mB 4 12 (bs 14 1023) (bs 14 5103) (u:= .pointer (some ⟨w8.heap.size,0,none⟩)) (wj:=(w8.alloc (.cells z4 33))) (pSub (L:=L+1) ((Fy.out.ext (tr E1 (tr E2 (tr E3 (tr E4 (tr E5 (tr E6 (tr E7 E8))))))).out).mono (by omega)) (FA1.out.isIn (by omega)) (by omega)) ((tr E7 E8).out.alloc _) ?_ ?_
   ·rintro e w9 ⟨c2,rfl,hc,hx⟩
    have E9:Hid (Ext w8 w9):=hx;have FA2:=zH hc;clear hc;clear hx;refine⟨_,rfl,(tr E7 (tr E8 E9)).out,?_⟩;try simp only[Act.put,zA,zB,zC]
    refine mB 10 12 (bs 14 2047) (bs 14 5119) (u:= .pointer (some ⟨w9.heap.size,0,none⟩)) (wj:=(w9.alloc (.cells z4 33))) (by_any 1 (bY-ay) _ (by omega) (by omega) (by omega) (by omega) (by omega)) ((tr E7 (tr E8 E9)).out.alloc _) ?_ ?_
    ·rintro e w10 ⟨c3,rfl,hc,hx⟩
     have E10:Hid (Ext w9 w10):=hx;have FA3:=zH hc;clear hc;clear hx;refine⟨_,rfl,(tr E7 (tr E8 (tr E9 E10))).out,?_⟩;try simp only[Act.put,zA,zB,zC]
     refine mB 11 12 (bs 14 4095) (bs 14 6143) (u:= .pointer (some ⟨w10.heap.size,0,none⟩)) (wj:=(w10.alloc (.cells z4 33))) (pMul (L:=L+4) ((FA2.out.ext E10.out).isIn (by omega)) (FA3.out.isIn (by omega)) (by omega)) ((tr E7 (tr E8 (tr E9 E10))).out.alloc _) ?_ ?_
     ·rintro e w11 ⟨c4,rfl,hc,hx⟩
      have E11:Hid (Ext w10 w11):=hx;have FA4:=zH hc;have Z4:=hc.size;have O4:=hc.one;clear hc;clear hx;refine⟨_,rfl,(tr E7 (tr E8 (tr E9 (tr E10 E11)))).out,?_⟩;try simp only[Act.put,zA,zB,zC]
      refine mU 12 (bs 14 8191) (v:= .pointer (some ⟨w11.heap.size,0,none⟩)) (w':=(w11.alloc (.cells z4 33))) ((tr E7 (tr E8 (tr E9 (tr E10 E11)))).out.alloc _) ?_;try simp only[Act.put,zA,zB,zC]
      have E12:=zH (show Ext w11 (w11.alloc (.cells z4 33))from(Ext.refl _).alloc _);have Fnb12:=zH (Blk.new w11 33 z4);have hbx:=Fnb12.out;have ob:=Own.setCells (w11.alloc (.cells z4 33)) w11.heap.size c4;have hgb:w6.heap.size<=w11.heap.size:=(tr E7 (tr E8 (tr E9 (tr E10 E11)))).out.size;have hS8:Ext w6 ((w11.alloc (.cells z4 33)).setCells w11.heap.size 0 (c4:Array Value).toList):=ob.ext (tr E7 (tr E8 (tr E9 (tr E10 (tr E11 E12))))).out hgb;refine mO 13 (bs 14 16383) c4 hbx (Eq.trans Z4 rfl) (by rw[show(c4:Array Value).size=4 from Z4];kernel_rfl) O4 hS8 ?_
      (try simp only[Act.put])
      refine wpAnyH_done (by kernel_rfl) ?_ _;go_wp2_with fail
      go_meet
      exact⟨_,_,rfl,((FA4.out.ext E12.out)).own hbx noUn ob,hbx.setCells c4 (Eq.trans Z4 rfl),hS8⟩
     (try simp only[Act.put,zA,zB,zC])
     have E11:=zH (show Ext w10 (w10.alloc (.cells z4 33))from(Ext.refl _).alloc _);have Fnb12:=zH (Blk.new w10 33 z4);refine mC 11 (bs 14 8191) (pMul (L:=L+4) ((FA2.out.ext (tr E10 E11).out).isIn (by omega)) ((FA3.out.ext E11.out).isIn (by omega)) (by omega)) ?_;rintro e w12 ⟨c4,rfl,hc,hx⟩;have E12:=zH (show Ext (w10.alloc (.cells z4 33)) w12 from hx);have FA4:=zH hc;have Z4:=hc.size;have O4:=hc.one;clear hc;clear hx;refine⟨_,rfl,(tr E7 (tr E8 (tr E9 (tr E10 (tr E11 E12))))).out,?_⟩;try simp only[Act.put,zA,zB,zC]
     have hbx:=(Fnb12.out.ext E12.out);have ob:=Own.setCells w12 w10.heap.size c4;have hgb:w6.heap.size<=w10.heap.size:=(tr E7 (tr E8 (tr E9 E10))).out.size;have hS8:Ext w6 (w12.setCells w10.heap.size 0 (c4:Array Value).toList):=ob.ext (tr E7 (tr E8 (tr E9 (tr E10 (tr E11 E12))))).out hgb;refine mO 13 (bs 14 16383) c4 hbx (Eq.trans Z4 rfl) (by rw[show(c4:Array Value).size=4 from Z4];kernel_rfl) O4 hS8 ?_
     (try simp only[Act.put])
     refine wpAnyH_done (by kernel_rfl) ?_ _;go_wp2_with fail
     go_meet
     exact⟨_,_,rfl,(FA4.out).own hbx noUn ob,hbx.setCells c4 (Eq.trans Z4 rfl),hS8⟩
    (try simp only[Act.put,zA,zB,zC])
    have E10:=zH (show Ext w9 (w9.alloc (.cells z4 33))from(Ext.refl _).alloc _);have Fnb12:=zH (Blk.new w9 33 z4);refine mC 10 (bs 14 6143) (by_any 1 (bY-ay) _ (by omega) (by omega) (by omega) (by omega) (by omega)) ?_;rintro e w11 ⟨c3,rfl,hc,hx⟩;have E11:=zH (show Ext (w9.alloc (.cells z4 33)) w11 from hx);have FA3:=zH hc;clear hc;clear hx;refine⟨_,rfl,(tr E7 (tr E8 (tr E9 (tr E10 E11)))).out,?_⟩;try simp only[Act.put,zA,zB,zC]
    refine mC 11 (bs 14 8191) (pMul (L:=L+4) ((FA2.out.ext (tr E10 E11).out).isIn (by omega)) (FA3.out.isIn (by omega)) (by omega)) ?_;rintro e w12 ⟨c4,rfl,hc,hx⟩;have E12:Hid (Ext w11 w12):=hx;have FA4:=zH hc;have Z4:=hc.size;have O4:=hc.one;clear hc;clear hx;refine⟨_,rfl,(tr E7 (tr E8 (tr E9 (tr E10 (tr E11 E12))))).out,?_⟩;try simp only[Act.put,zA,zB,zC]
    have hbx:=(Fnb12.out.ext (tr E11 E12).out);have ob:=Own.setCells w12 w9.heap.size c4;have hgb:w6.heap.size<=w9.heap.size:=(tr E7 (tr E8 E9)).out.size;have hS8:Ext w6 (w12.setCells w9.heap.size 0 (c4:Array Value).toList):=ob.ext (tr E7 (tr E8 (tr E9 (tr E10 (tr E11 E12))))).out hgb;refine mO 13 (bs 14 16383) c4 hbx (Eq.trans Z4 rfl) (by rw[show(c4:Array Value).size=4 from Z4];kernel_rfl) O4 hS8 ?_
    (try simp only[Act.put])
    refine wpAnyH_done (by kernel_rfl) ?_ _;go_wp2_with fail
    go_meet
    exact⟨_,_,rfl,(FA4.out).own hbx noUn ob,hbx.setCells c4 (Eq.trans Z4 rfl),hS8⟩
   (try simp only[Act.put,zA,zB,zC])
   have E9:=zH (show Ext w8 (w8.alloc (.cells z4 33))from(Ext.refl _).alloc _);have Fnb12:=zH (Blk.new w8 33 z4);refine mC 4 (bs 14 5119) (pSub (L:=L+1) ((Fy.out.ext (tr E1 (tr E2 (tr E3 (tr E4 (tr E5 (tr E6 (tr E7 (tr E8 E9)))))))).out).mono (by omega)) ((FA1.out.ext E9.out).isIn (by omega)) (by omega)) ?_;rintro e w10 ⟨c2,rfl,hc,hx⟩;have E10:=zH (show Ext (w8.alloc (.cells z4 33)) w10 from hx);have FA2:=zH hc;clear hc;clear hx;refine⟨_,rfl,(tr E7 (tr E8 (tr E9 E10))).out,?_⟩;try simp only[Act.put,zA,zB,zC]
   refine mC 10 (bs 14 6143) (by_any 1 (bY-ay) _ (by omega) (by omega) (by omega) (by omega) (by omega)) ?_;rintro e w11 ⟨c3,rfl,hc,hx⟩;have E11:Hid (Ext w10 w11):=hx;have FA3:=zH hc;clear hc;clear hx;refine⟨_,rfl,(tr E7 (tr E8 (tr E9 (tr E10 E11)))).out,?_⟩;try simp only[Act.put,zA,zB,zC]
   refine mC 11 (bs 14 8191) (pMul (L:=L+4) ((FA2.out.ext E11.out).isIn (by omega)) (FA3.out.isIn (by omega)) (by omega)) ?_;rintro e w12 ⟨c4,rfl,hc,hx⟩;have E12:Hid (Ext w11 w12):=hx;have FA4:=zH hc;have Z4:=hc.size;have O4:=hc.one;clear hc;clear hx;refine⟨_,rfl,(tr E7 (tr E8 (tr E9 (tr E10 (tr E11 E12))))).out,?_⟩;try simp only[Act.put,zA,zB,zC]
   have hbx:=(Fnb12.out.ext (tr E10 (tr E11 E12)).out);have ob:=Own.setCells w12 w8.heap.size c4;have hgb:w6.heap.size<=w8.heap.size:=(tr E7 E8).out.size;have hS8:Ext w6 (w12.setCells w8.heap.size 0 (c4:Array Value).toList):=ob.ext (tr E7 (tr E8 (tr E9 (tr E10 (tr E11 E12))))).out hgb;refine mO 13 (bs 14 16383) c4 hbx (Eq.trans Z4 rfl) (by rw[show(c4:Array Value).size=4 from Z4];kernel_rfl) O4 hS8 ?_
   (try simp only[Act.put])
   refine wpAnyH_done (by kernel_rfl) ?_ _;go_wp2_with fail
   go_meet
   exact⟨_,_,rfl,(FA4.out).own hbx noUn ob,hbx.setCells c4 (Eq.trans Z4 rfl),hS8⟩
  (try simp only[Act.put,zA,zB,zC])
  have E8:=zH (show Ext w6.drew (w6.drew.alloc (.cells z4 33))from(Ext.refl _).alloc _);have Fnb12:=zH (Blk.new w6.drew 33 z4);refine mC 3 (bs 14 5103) (pFrom ay _ (by omega) (by omega)) ?_;rintro e w9 ⟨c1,rfl,hc,hx⟩;have E9:=zH (show Ext (w6.drew.alloc (.cells z4 33)) w9 from hx);have FA1:=zH hc;clear hc;clear hx;refine⟨_,rfl,(tr E7 (tr E8 E9)).out,?_⟩;try simp only[Act.put,zA,zB,zC]
  refine mC 4 (bs 14 5119) (pSub (L:=L+1) ((Fy.out.ext (tr E1 (tr E2 (tr E3 (tr E4 (tr E5 (tr E6 (tr E7 (tr E8 E9)))))))).out).mono (by omega)) (FA1.out.isIn (by omega)) (by omega)) ?_;rintro e w10 ⟨c2,rfl,hc,hx⟩;have E10:Hid (Ext w9 w10):=hx;have FA2:=zH hc;clear hc;clear hx;refine⟨_,rfl,(tr E7 (tr E8 (tr E9 E10))).out,?_⟩;try simp only[Act.put,zA,zB,zC]
  refine mC 10 (bs 14 6143) (by_any 1 (bY-ay) _ (by omega) (by omega) (by omega) (by omega) (by omega)) ?_;rintro e w11 ⟨c3,rfl,hc,hx⟩;have E11:Hid (Ext w10 w11):=hx;have FA3:=zH hc;clear hc;clear hx;refine⟨_,rfl,(tr E7 (tr E8 (tr E9 (tr E10 E11)))).out,?_⟩;try simp only[Act.put,zA,zB,zC]
  refine mC 11 (bs 14 8191) (pMul (L:=L+4) ((FA2.out.ext E11.out).isIn (by omega)) (FA3.out.isIn (by omega)) (by omega)) ?_;rintro e w12 ⟨c4,rfl,hc,hx⟩;have E12:Hid (Ext w11 w12):=hx;have FA4:=zH hc;have Z4:=hc.size;have O4:=hc.one;clear hc;clear hx;refine⟨_,rfl,(tr E7 (tr E8 (tr E9 (tr E10 (tr E11 E12))))).out,?_⟩;try simp only[Act.put,zA,zB,zC]
  have hbx:=(Fnb12.out.ext (tr E9 (tr E10 (tr E11 E12))).out);have ob:=Own.setCells w12 w6.drew.heap.size c4;have hgb:w6.heap.size<=w6.drew.heap.size:=E7.out.size;have hS8:Ext w6 (w12.setCells w6.drew.heap.size 0 (c4:Array Value).toList):=ob.ext (tr E7 (tr E8 (tr E9 (tr E10 (tr E11 E12))))).out hgb;refine mO 13 (bs 14 16383) c4 hbx (Eq.trans Z4 rfl) (by rw[show(c4:Array Value).size=4 from Z4];kernel_rfl) O4 hS8 ?_
  (try simp only[Act.put])
  refine wpAnyH_done (by kernel_rfl) ?_ _;go_wp2_with fail
  go_meet
  exact⟨_,_,rfl,(FA4.out).own hbx noUn ob,hbx.setCells c4 (Eq.trans Z4 rfl),hS8⟩
 obtain⟨X10,c10,rfl,hfa,hb10,hx⟩:=hcut;generalize wc=wv at*
 have E7:Hid (Ext w6 wv):=hx;have Z10:=hfa.size;have O10:=hfa.one;have FT10:=zH hfa;have Fb10:=zH hb10;clear hfa hb10 hx;go_upto_region 5 with fail
 refine wp_region_lit ?_;refine pV (w':=wv) ?_;try simp only[Act.put,zA,zB,zC]
 have hq_:=((Fbx0.out.ext (tr E2 (tr E3 (tr E4 (tr E5 (tr E6 E7))))).out)).cell 0;simp only[List.getElem?_toArray,List.getElem?_cons_zero]at hq_;refine zq (.int .i64 ax) ?_;clear hq_;refine pV (w':=wv) ?_;try simp only[Act.put,zA,zB,zC]
 have hq_:=((Fbx1.out.ext (tr E2 (tr E3 (tr E4 (tr E5 (tr E6 E7))))).out)).cell 0;simp only[List.getElem?_toArray,List.getElem?_cons_zero]at hq_;refine zq (.int .i64 bx) ?_;clear hq_;refine pL Fb10.out Tryz.underlying33 (by rw[show(c10:Array Value).size=4 from Z10];kernel_rfl) ?_;try simp only[Act.put,zA,zB,zC]
 refine mv_call (by rfl) (by go_simp) (along_any (2*L+10) ax bx _ _ _ (FT10.out.isIn (by omega)) (by omega) (by omega) (by omega) (by omega)) ?_;rintro e w8 ⟨cr,rfl,hc,hx⟩;have E8:Hid (Ext wv w8):=hx;have Fr:=zH hc;have ZR:=hc.size;have OR:=hc.one;clear hc;clear hx;refine⟨_,rfl,?_⟩;try simp only[Act.put,zA,zB,zC]
 have o1:=Own.setCells w8 R0 cr;have kb1:=(FR0.out.ext (tr E2 (tr E3 (tr E4 (tr E5 (tr E6 (tr E7 E8)))))).out);refine pO cr kb1 (Eq.trans ZR rfl) (by rw[show(cr:Array Value).size=4 from ZR];kernel_rfl) OR ?_
 (try simp only[Act.put])
 have kc1:=kb1.setCells cr (Eq.trans ZR rfl);refine mv_val (v:= .bool true) (w':=(w8.setCells R0 0 (cr:Array Value).toList)) (by rfl) (by go_simp<;>with_reducible rfl) ?_
 (try simp only[Act.put])
 go_wp2_with fail
 refine bodyPost_ret (v:= .tuple #[.agg cr,.bool true]) ?_ rfl ⟨_,rfl,Fr.out.own kb1 noUn o1,o1.ext (tr E1 (tr E2 (tr E3 (tr E4 (tr E5 (tr E6 (tr E7 E8))))))).out gR0⟩;exact results_c1t1 rfl rfl (kc1.loadVar rfl rfl (by rw[ZR];rfl)) rfl
theorem range_ext {w w':World}{g o:Nat}{cs:List Value}(h:w.rangeAt g o cs)(x:Ext w w'):w'.rangeAt g o cs:=fun j v hv=>x.get (h j v hv)
end Go.Proofs.YtngikkggjidenabGreat
namespace Go.Proofs.YtngikkggjidenabGreat
open Go.RowKit
def Dig (w w':World):Prop:=∀(v:Value) (xs:List Nat),DigS w v xs->DigS w' v xs
theorem Dig.refl (w:World):Dig w w:=fun _ _ h=>h
theorem Dig.trans {a b c:World}(h:Dig a b)(k:Dig b c):Dig a c:=fun v xs x=>k v xs (h v xs x)
theorem Dig.of_ext {w w':World}(x:Ext w w'):Dig w w':=fun _ _ h=>h.ext x
theorem Dig.of_own {w w':World}{g:Nat}{t:TypeId}{cs:Array Value}(hb:Blk w g t cs)(hn:NoU cs)(o:Own g w w'):Dig w w':=fun _ _ h=>h.own hb hn o
theorem RV.Is.dig {w w':World}{a:RV}{q:Rat}(h:a.Is w q)(d:Dig w w'):a.Is w' q:=⟨⟨h.1.1,d _ _ h.1.2⟩,⟨h.2.1,d _ _ h.2.2⟩⟩
theorem RV.In.dig {L:Nat}{w w':World}{a:RV}{q:Rat}(h:a.In L w q)(d:Dig w w'):a.In L w' q:=by
  obtain⟨y,z,⟨a1,⟨x1,h1,h2⟩,h3⟩,⟨a2,⟨x2,h4,h5⟩,h6⟩,h7⟩:=h;exact⟨y,z,⟨a1,⟨x1,d _ _ h1,h2⟩,h3⟩,⟨a2,⟨x2,d _ _ h4,h5⟩,h6⟩,h7⟩
theorem NIn.dig {L:Nat}{w w':World}{cs:Array Value}{q:Rat}(h:NIn L w cs q)(d:Dig w w'):NIn L w' cs q:=by obtain⟨a,h1,h2⟩:=h;exact⟨a,h1,h2.dig d⟩
theorem NIs.dig {w w':World}{cs:Array Value}{q:Rat}(h:NIs w cs q)(d:Dig w w'):NIs w' cs q:=by obtain⟨a,h1,h2⟩:=h;exact⟨a,h1,h2.dig d⟩
theorem RV.In.nin {L:Nat}{w:World}{a:RV}{q:Rat}(h:a.In L w q):NIn L w #[.bool a.n,.slice a.p a.l a.c,.bool a.m,.slice a.p2 a.l2 a.c2] q:=⟨a,rfl,h⟩
theorem RV.Is.nin {L:Nat}{w:World}{a:RV}{q:Rat}(h:a.Is w q)(hl:Nm.rl q<=L):NIn L w #[.bool a.n,.slice a.p a.l a.c,.bool a.m,.slice a.p2 a.l2 a.c2] q:=⟨a,rfl,h.isIn hl⟩
theorem own_setCells (w:World)(g o:Nat)(vs:List Value):Own g w (w.setCells g o vs):=Own.setCells_l _ _ (Own.refl g w)
inductive Ent where
  |blk (g:Nat) (t:TypeId) (cs:List Value)
  |row (t:TypeId) (size:Nat) (v:Value) (n:Nat) (xs:List Value)
def Ent.own:Ent->Option Nat
  | .blk g _ _=>some g
  | .row _ _ v _ _=>v.ownBlock
def Ent.Holds (b:Nat)(w:World):Ent->Prop
  | .blk g t cs=>b<=g/\Blk w g t cs.toArray/\NoUL cs
  | .row t size v n xs=>RowN w b t size v n xs
theorem Ent.Holds.ext {b:Nat}{w w':World}{e:Ent}(h:e.Holds b w)(x:Ext w w'):e.Holds b w':=by
  cases e with
  |blk g t cs=>exact⟨h.1,h.2.1.ext x,h.2.2⟩
  |row t size v n xs=>exact RowN.ext h x
theorem RowN.lt {w:World}{base:Nat}{e:TypeId}{size:Nat}{v:Value}{n:Nat}{xs:List Value}(h:RowN w base e size v n xs):∀k,v.ownBlock=some k->k<w.heap.size:=by
  intro k hk;obtain⟨h1,⟨rfl,_⟩|⟨g,cap,rest,rfl,b,hg,_⟩⟩:=h
  · simp[Value.ownBlock]at hk
  have:=hg.lt;simp[Value.ownBlock]at hk;omega
theorem Ent.Holds.ge {b:Nat}{w:World}{e:Ent}(h:e.Holds b w):∀k,e.own=some k->b<=k:=by
  cases e with
  |blk g t cs=>intro k hk;injection hk with hk;exact hk▸h.1
  |row t size v n xs=>exact RowN.block h
theorem Ent.Holds.lt {b:Nat}{w:World}{e:Ent}(h:e.Holds b w):∀k,e.own=some k->k<w.heap.size:=by
  cases e with
  |blk g t cs=>intro k hk;injection hk with hk;exact hk▸h.2.1.lt
  |row t size v n xs=>exact RowN.lt h
theorem Ent.Holds.kept {b:Nat}{w w':World}{e:Ent}{r:Option Nat}(h:e.Holds b w)(hg:w.grownBy w' r)(hne:∀k,e.own=some k->r≠some k):e.Holds b w':=by
  cases e with
  |blk g t cs=>exact⟨h.1,h.2.1.grown hg (hne g rfl),h.2.2⟩
  | row t size v n xs=>
    obtain⟨h1,h2|⟨g,cap,rest,rfl,a,hb,c⟩⟩:=h
    · exact⟨h1,.inl h2⟩
    exact⟨h1,.inr ⟨g,cap,rest,rfl,a,hb.grown hg (hne g rfl),c⟩⟩
structure Hp (w0 w:World) (m:List Ent):Prop where
  ext:Ext w0 w
  all:∀(i:Nat) (e:Ent),m[i]?=some e->e.Holds w0.heap.size w
  apart:∀(i j:Nat) (e f:Ent),m[i]?=some e->m[j]?=some f->i≠j->∀k,e.own=some k->f.own≠some k
section
variable {w0 w w':World} {m:List Ent}
theorem Hp.start (w:World):Hp w w []:=⟨Ext.refl w,fun i e h=>by simp at h,fun i j e f h=>by simp at h⟩
theorem Hp.step (h:Hp w0 w m)(x:Ext w w'):Hp w0 w' m:=⟨h.ext.trans x,fun i e he=>(h.all i e he).ext x,h.apart⟩
theorem Hp.dig0 (h:Hp w0 w m):Dig w0 w:=Dig.of_ext h.ext
theorem Hp.add {e:Ent}(h:Hp w0 w m)(he:e.Holds w0.heap.size w)(hf:∀(i:Nat) (f:Ent),m[i]?=some f->∀k,f.own=some k->e.own≠some k):Hp w0 w (m++[e]):=by
 have hget:∀(i:Nat) (f:Ent),(m++[e])[i]?=some f->m[i]?=some f\/(i=m.length/\f=e):=by
  intro i f hf;rcases Nat.lt_trichotomy i m.length with hl|hl|hl
  ·rw[List.getElem?_append_left hl]at hf;exact .inl hf
  ·subst hl;rw[List.getElem?_append_right (Nat.le_refl _)]at hf;simp at hf;exact .inr ⟨rfl,hf.symm⟩
  rw[List.getElem?_append_right (Nat.le_of_lt hl),List.getElem?_eq_none (by simp;omega)]at hf;cases hf
 refine⟨h.ext,fun i f hf=> ?_,fun i j f g hi hj hij k hk=> ?_⟩
 ·rcases hget i f hf with h1|⟨_,rfl⟩
  ·exact h.all i f h1
  exact he
 rcases hget i f hi with h1|⟨e1,rfl⟩<;>rcases hget j g hj with h2|⟨e2,rfl⟩
 ·exact h.apart i j f g h1 h2 hij k hk
 ·exact hf i f h1 k hk
 ·exact fun h3=>hf j g h2 k h3 hk
 exact absurd (e1.trans e2.symm) hij
theorem Hp.alloc (h:Hp w0 w m)(t:TypeId)(cs:List Value)(hn:NoUL cs):Hp w0 (w.alloc (.cells cs.toArray t)) (m++[.blk w.heap.size t cs]):=
  (h.step ((Ext.refl w).alloc _)).add ⟨h.ext.size,Blk.new w t cs.toArray,hn⟩ (fun i f hf k hk e=>by
    injection e with e
    have:=(h.all i f hf).lt k hk;omega)
theorem Hp.addRow {t:TypeId}{size:Nat}{v:Value}{n:Nat}{xs:List Value}(h:Hp w0 w m)(x:Ext w w')(r:RowN w' w.heap.size t size v n xs):Hp w0 w' (m++[.row t size v n xs]):=
  (h.step x).add (by
    obtain⟨h1,h2|⟨g,cap,rest,a,b,c⟩⟩:=r
    · exact⟨h1,.inl h2⟩
    · exact⟨h1,.inr ⟨g,cap,rest,a,Nat.le_trans h.ext.size b,c⟩⟩) (fun i f hf k hk e=>by
    have h1:=(h.all i f hf).lt k hk;have h2:=RowN.block r k e;omega)
theorem Hp.addNil (h:Hp w0 w m)(t:TypeId)(size:Nat):Hp w0 w (m++[.row t size (.slice none 0 0) 0 []]):=
  h.add (RowN.nil _ _ _ _) (fun _ _ _ _ _ e=>by simp[Ent.own,Value.ownBlock]at e)
theorem Hp.take (h:Hp w0 w m)(n:Nat):Hp w0 w (m.take n):=by
  have hget:∀(i:Nat) (f:Ent),(m.take n)[i]?=some f->m[i]?=some f:=by
    intro i f hf;rw[List.getElem?_take]at hf;split at hf
    · exact hf
    cases hf
  exact⟨h.ext,fun i e he=>h.all i e (hget i e he),fun i j e f hi hj=>h.apart i j e f (hget i e hi) (hget j f hj)⟩
theorem Hp.blk {i g:Nat}{t:TypeId}{cs:List Value}(h:Hp w0 w m)(hi:m[i]?=some (.blk g t cs)):Blk w g t cs.toArray:=(h.all i _ hi).2.1
theorem Hp.noU {i g:Nat}{t:TypeId}{cs:List Value}(h:Hp w0 w m)(hi:m[i]?=some (.blk g t cs)):NoUL cs:=(h.all i _ hi).2.2
theorem Hp.row {i:Nat}{t:TypeId}{size:Nat}{v:Value}{n:Nat}{xs:List Value}(h:Hp w0 w m)(hi:m[i]?=some (.row t size v n xs)):RowN w w0.heap.size t size v n xs:=h.all i _ hi
theorem Hp.range {i g:Nat}{t:TypeId}{cs:List Value}(h:Hp w0 w m)(hi:m[i]?=some (.blk g t cs))(o n:Nat):w.rangeAt g o ((cs.drop o).take n):=by
  have hr:=World.rangeAt_of_block (h.blk hi) o n;have e:(cs.toArray.extract o (o+n)).toList=(cs.drop o).take n:=by simp[List.extract_eq_take_drop]
  rw[<-e];exact hr
theorem Hp.cell {i g:Nat}{t:TypeId}{cs:List Value}(h:Hp w0 w m)(hi:m[i]?=some (.blk g t cs))(o:Nat){v:Value}(hv:cs[o]?=some v):w.cell? ⟨g,o,none⟩=some v:=by
  rw[(h.blk hi).cell o,List.getElem?_toArray,hv]
theorem Hp.frozen {i g:Nat}{t:TypeId}{cs:List Value}(h:Hp w0 w m)(hi:m[i]?=some (.blk g t cs))(o:Nat):w.frozen? ⟨g,o,none⟩=false:=(h.blk hi).frozen o
theorem Hp.ge {i k:Nat}{e:Ent}(h:Hp w0 w m)(hi:m[i]?=some e)(hk:e.own=some k):w0.heap.size<=k:=(h.all i e hi).ge k hk
theorem Hp.lt {i k:Nat}{e:Ent}(h:Hp w0 w m)(hi:m[i]?=some e)(hk:e.own=some k):k<w.heap.size:=(h.all i e hi).lt k hk
theorem Hp.turn {i:Nat}{e e':Ent}{r:Option Nat}(h:Hp w0 w m)(hi:m[i]?=some e)(hr:∀k,r=some k->e.own=some k)(hg:w.grownBy w' r)(he:e'.Holds w0.heap.size w')
  (hf:∀k,e'.own=some k->e.own=some k\/w.heap.size<=k):Hp w0 w' (m.set i e'):=by
 have hx:Ext w0 w':=h.ext.grown hg (fun k hk=>h.ge hi (hr k hk));have hil:i<m.length:=(List.getElem?_eq_some_iff.1 hi).1;have hget:∀(j:Nat) (f:Ent),(m.set i e')[j]?=some f->(j=i/\f=e')\/(j≠i/\m[j]?=some f):=by
  intro j f hj;rw[List.getElem?_set]at hj;by_cases hij:i=j
  ·rw[if_pos hij,if_pos (by omega)]at hj
   injection hj with hj
   exact .inl ⟨hij.symm,hj.symm⟩
  rw[if_neg hij]at hj;exact .inr ⟨fun x=>hij x.symm,hj⟩
 have off:∀(j:Nat) (f:Ent),j≠i->m[j]?=some f->∀k,f.own=some k->e'.own≠some k:=by
  intro j f hj hf2 k hk hk2;rcases hf k hk2 with h1|h1
  ·exact h.apart j i f e hf2 hi hj k hk h1
  have:=h.lt hf2 hk;omega
 refine⟨hx,fun j f hj=> ?_,fun j k f g hj hk hjk b hb=> ?_⟩
 ·rcases hget j f hj with⟨_,rfl⟩|⟨hj,hf2⟩
  ·exact he
  exact(h.all j f hf2).kept hg (fun k hk h3=>h.apart j i f e hf2 hi hj k hk (hr k h3))
 rcases hget j f hj with⟨e1,rfl⟩|⟨h1,h2⟩<;>rcases hget k g hk with⟨e2,rfl⟩|⟨h3,h4⟩
 ·omega
 ·exact fun h5=>off k g h3 h4 b h5 hb
 ·exact off j f h1 h2 b hb
 exact h.apart j k f g h2 h4 hjk b hb
theorem Hp.store {i g:Nat}{t:TypeId}{cs:List Value}(h:Hp w0 w m)(hi:m[i]?=some (.blk g t cs))(o:Nat)(vs:List Value)(hl:o+vs.length<=cs.length)(hn:NoUL vs):
  Hp w0 (w.setCells g o vs) (m.set i (.blk g t (cs.take o++vs++cs.drop (o+vs.length)))):=by
 have hb:=(h.blk hi).setPart o vs hl;have hnu:=h.noU hi;refine h.turn (r:=some g) hi (fun k hk=>hk) ?_ ⟨h.ge hi rfl,hb,?_⟩ (fun k hk=> .inl hk)
 ·exact(own_setCells w g o vs)
 intro x hx;rcases List.mem_append.1 hx with hx|hx
 ·rcases List.mem_append.1 hx with hx|hx
  ·exact hnu x (List.mem_of_mem_take hx)
  exact hn x hx
 exact hnu x (List.mem_of_mem_drop hx)
theorem Hp.storeDig {i g:Nat}{t:TypeId}{cs:List Value}(h:Hp w0 w m)(hi:m[i]?=some (.blk g t cs))(o:Nat)(vs:List Value):Dig w (w.setCells g o vs):=
  Dig.of_own (h.blk hi) (h.noU hi).arr (own_setCells w g o vs)
theorem Hp.there {i g:Nat}{t:TypeId}{cs:List Value}(h:Hp w0 w m)(hi:m[i]?=some (.blk g t cs))(o n:Nat)(hl:o+n<=cs.length):w.there g o n:=(h.blk hi).therePart o n hl
theorem Dig.grown {base:Nat}{e:TypeId}{size:Nat}{v:Value}{n:Nat}{xs:List Value}(h:RowN w base e size v n xs)(hg:w.grownBy w' v.ownBlock):Dig w w':=by
  obtain⟨h1,⟨rfl,_⟩|⟨g,cap,rest,rfl,a,hb,_,_,_,hn⟩⟩:=h
  · exact Dig.of_ext ⟨hg.os,hg.tape,hg.output,hg.size,fun k hk=>hg.block k hk (by simp[Value.ownBlock])⟩
  exact Dig.of_own hb hn.arr hg
theorem Hp.grow {i gx cx:Nat}{t:TypeId}{size n n':Nat}{v:Value}{xs xs':List Value}(h:Hp w0 w m)(hi:m[i]?=some (.row t size v n xs))(hf:v.ownBlock=some gx\/w.heap.size<=gx)
    (h2:RowN w' w0.heap.size t size (.slice (some ⟨gx,0,none⟩) n' cx) n' xs')(h3:w.grownBy w' v.ownBlock):Hp w0 w' (m.set i (.row t size (.slice (some ⟨gx,0,none⟩) n' cx) n' xs')):=
  h.turn hi (fun k hk=>hk) h3 h2 (fun k hk=>by
    have hk:gx=k:=by simpa[Ent.own,Value.ownBlock]using hk
    subst hk;exact hf)
theorem Hp.growDig {i:Nat}{t:TypeId}{size n:Nat}{v:Value}{xs:List Value}(h:Hp w0 w m)(hi:m[i]?=some (.row t size v n xs))(h3:w.grownBy w' v.ownBlock):Dig w w':=Dig.grown (h.row hi) h3
end
section
variable {w0 w w':World} {m:List Ent}
theorem RowN.setPart {base:Nat}{t:TypeId}{size g n cap:Nat}{xs:List Value}(h:RowN w base t size (.slice (some ⟨g,0,none⟩) n cap) n xs)(o:Nat)(vs:List Value)(hl:o+vs.length<=xs.length)(hn:NoUL vs):
  RowN (w.setCells g o vs) base t size (.slice (some ⟨g,0,none⟩) n cap) n (xs.take o++vs++xs.drop (o+vs.length)):=by
 have hlen:(xs.take o++vs++xs.drop (o+vs.length)).length=xs.length:=by simp;omega
 obtain⟨h1,⟨hv,_⟩|⟨g',cap',rest,hv,a,hb,h3,h4,h5,h6⟩⟩:=h
 ·cases hv
 injection hv with e1 e2 e3
 injection e1 with e1
 injection e1 with e1
 subst e1;subst e3;refine⟨by rw[hlen];exact h1,.inr ⟨g,cap,rest,rfl,a,?_,h3,h4,by rw[hlen];exact h5,?_⟩⟩
 ·have:=hb.setPart o vs (by rw[List.length_append];omega)
  rw[List.take_append_of_le_length (by omega),List.drop_append_of_le_length (by omega),<-List.append_assoc]at this;exact this
 intro x hx;have hx1:=h6;rcases List.mem_append.1 hx with hx|hx
 ·rcases List.mem_append.1 hx with hx|hx
  ·rcases List.mem_append.1 hx with hx|hx
   ·exact h6 x (List.mem_append_left _ (List.mem_of_mem_take hx))
   exact hn x hx
  exact h6 x (List.mem_append_left _ (List.mem_of_mem_drop hx))
 exact h6 x (List.mem_append_right _ hx)
theorem RowN.there {base:Nat}{t:TypeId}{size g n cap:Nat}{xs:List Value}(h:RowN w base t size (.slice (some ⟨g,0,none⟩) n cap) n xs)(o k:Nat)(hl:o+k<=xs.length):w.there g o k:=by
  obtain⟨h1,⟨hv,_⟩|⟨g',cap',rest,hv,a,hb,h3,h4,h5,h6⟩⟩:=h
  · cases hv
  injection hv with e1 e2 e3
  injection e1 with e1
  injection e1 with e1
  subst e1;exact hb.therePart o k (by rw[List.length_append];omega)
theorem RowN.rangeAt {base:Nat}{t:TypeId}{size g n cap:Nat}{xs:List Value}(h:RowN w base t size (.slice (some ⟨g,0,none⟩) n cap) n xs)(o:Nat)(ys:List Value)(hy:∀j v,ys[j]?=some v->xs[o+j]?=some v):w.rangeAt g o ys:=by
  obtain⟨h1,⟨hv,_⟩|⟨g',cap',rest,hv,a,hb,h3,h4,h5,h6⟩⟩:=h
  · cases hv
  injection hv with e1 e2 e3
  injection e1 with e1
  injection e1 with e1
  subst e1;intro j v hj;have:=hy j v hj;rw[hb.cell,List.getElem?_toArray,List.getElem?_append_left (List.getElem?_eq_some_iff.1 this).1];exact this
theorem flat_get {α:Type}{f:α->List Value}{c:Nat}(hc:∀x,(f x).length=c):∀(es:List α) (k:Nat) (e:α),es[k]?=some e->∀j v,(f e)[j]?=some v->(es.flatMap f)[k*c+j]?=some v
  | [],k,e,h,_,_,_=>by simp at h
  | x::xs,0,e,h,j,v,hv=>by
    simp at h;subst h;rw[List.flatMap_cons,List.getElem?_append_left (by have:=(List.getElem?_eq_some_iff.1 hv).1;omega)];simpa using hv
  | x::xs,k+1,e,h,j,v,hv=>by
    rw[List.flatMap_cons,List.getElem?_append_right (by rw[hc,Nat.add_mul];omega),hc];have:=flat_get hc xs k e (by simpa using h) j v hv;rw[show(k+1)*c+j-c=k*c+j by rw[Nat.add_mul];omega];exact this
theorem flat_length {α:Type}{f:α->List Value}{c:Nat}(hc:∀x,(f x).length=c):∀(es:List α),(es.flatMap f).length=es.length*c
  | []=>by simp
  |x::xs=>by rw[List.flatMap_cons,List.length_append,hc,flat_length hc xs,List.length_cons,Nat.add_mul];omega
theorem flat_take {α:Type}{f:α->List Value}{c:Nat}(hc:∀x,(f x).length=c):∀(es:List α) (k:Nat),(es.flatMap f).take (k*c)=(es.take k).flatMap f
  | [],k=>by simp
  |x::xs,0=>by simp
  |x::xs,k+1=>by rw[List.flatMap_cons,List.take_append,hc,List.take_of_length_le (by rw[hc,Nat.add_mul];omega),List.take_succ_cons,List.flatMap_cons,<-flat_take hc xs k,show(k+1)*c-c=k*c by rw[Nat.add_mul];omega]
theorem flat_drop {α:Type}{f:α->List Value}{c:Nat}(hc:∀x,(f x).length=c):∀(es:List α) (k:Nat),(es.flatMap f).drop (k*c)=(es.drop k).flatMap f
  | [],k=>by simp
  |x::xs,0=>by simp
  |x::xs,k+1=>by rw[List.flatMap_cons,List.drop_append,hc,List.drop_of_length_le (by rw[hc,Nat.add_mul];omega),List.drop_succ_cons,<-flat_drop hc xs k,show(k+1)*c-c=k*c by rw[Nat.add_mul];omega,List.nil_append]
theorem flat_set {α:Type}{f:α->List Value}{c:Nat}(hc:∀x,(f x).length=c)(es:List α)(k:Nat)(hk:k<es.length)(e:α):(es.flatMap f).take (k*c)++f e++(es.flatMap f).drop (k*c+(f e).length)=(es.set k e).flatMap f:=by
  rw[flat_take hc,hc,show k*c+c=(k+1)*c by rw[Nat.add_mul];omega,flat_drop hc,List.set_eq_take_append_cons_drop,if_pos hk];simp
theorem Hp.elem {α:Type}{f:α->List Value}{i:Nat}{t:TypeId}{size g n cap:Nat}{es:List α}(h:Hp w0 w m)(hi:m[i]?=some (.row t size (.slice (some ⟨g,0,none⟩) n cap) n (es.flatMap f)))(hc:∀x,(f x).length=size){k:Nat}{e:α}(he:es[k]?=some e):w.rangeAt g (k*size) (f e):=
  (h.row hi).rangeAt _ _ (fun j v hj=>flat_get hc es k e he j v hj)
theorem RowN.form {base:Nat}{t:TypeId}{size n:Nat}{v:Value}{xs:List Value}(h:RowN w base t size v n xs):∃A c,v= .slice A n c/\(0<n->∃g,A=some ⟨g,0,none⟩):=by
  obtain⟨h1,⟨rfl,rfl⟩|⟨g,cap,rest,rfl,_⟩⟩:=h
  · exact⟨none,0,rfl,fun h=>absurd h (by omega)⟩
  exact⟨_,_,rfl,fun _=>⟨g,rfl⟩⟩
theorem Hp.storeRow {i:Nat}{t:TypeId}{size g n cap:Nat}{xs:List Value}(h:Hp w0 w m)(hi:m[i]?=some (.row t size (.slice (some ⟨g,0,none⟩) n cap) n xs))(o:Nat)(vs:List Value)(hl:o+vs.length<=xs.length)(hn:NoUL vs):
    Hp w0 (w.setCells g o vs) (m.set i (.row t size (.slice (some ⟨g,0,none⟩) n cap) n (xs.take o++vs++xs.drop (o+vs.length)))):=
  h.turn (r:=some g) hi (fun k hk=>by simpa[Ent.own,Value.ownBlock]using hk) (own_setCells w g o vs) ((h.row hi).setPart o vs hl hn) (fun k hk=> .inl hk)
theorem Hp.storeRowDig {i:Nat}{t:TypeId}{size g n cap:Nat}{xs:List Value}(h:Hp w0 w m)(hi:m[i]?=some (.row t size (.slice (some ⟨g,0,none⟩) n cap) n xs))(o:Nat)(vs:List Value):Dig w (w.setCells g o vs):=by
  refine Dig.grown (h.row hi) ?_;exact own_setCells w g o vs
structure Fr (G:Nat->Prop) (w w':World):Prop where
  os:w'.os=w.os
  tape:w'.tape=w.tape
  output:w'.output=w.output
  size:w.heap.size<=w'.heap.size
  block:∀k,k<w.heap.size->¬G k->w'.heap[k]?=w.heap[k]?
theorem Fr.of_ext {G:Nat->Prop}(x:Ext w w'):Fr G w w':=⟨x.os,x.tape,x.output,x.size,fun k hk _=>x.block k hk⟩
theorem Fr.trans {G:Nat->Prop}{a b c:World}(h:Fr G a b)(k:Fr G b c):Fr G a c:=⟨k.os.trans h.os,k.tape.trans h.tape,k.output.trans h.output,Nat.le_trans h.size k.size,fun i hi hG=>(k.block i (Nat.lt_of_lt_of_le hi h.size) hG).trans (h.block i hi hG)⟩
theorem Fr.trans_new {G:Nat->Prop}{a b c:World}{r:Option Nat}(h:Fr G a b)(k:b.grownBy c r)(hr:∀j,r=some j->G j\/a.heap.size<=j):Fr G a c:=
  ⟨k.os.trans h.os,k.tape.trans h.tape,k.output.trans h.output,Nat.le_trans h.size k.size,fun i hi hG=>(k.block i (Nat.lt_of_lt_of_le hi h.size) (fun e=>by
    rcases hr i e.symm with h1|h1
    · exact hG h1
    omega)).trans (h.block i hi hG)⟩
theorem Fr.cell {G:Nat->Prop}{g o:Nat}{s:Option Nat}{v:Value}(f:Fr G w w')(h:w.cell? ⟨g,o,s⟩=some v)(hn:¬G g):w'.cell? ⟨g,o,s⟩=some v:=
  (World.cell?_of_block (f.block g (World.block_lt_of_cell? w ⟨g,o,s⟩ h) hn)).trans h
theorem Fr.range {G:Nat->Prop}{g o:Nat}{cs:List Value}(f:Fr G w w')(h:w.rangeAt g o cs)(hn:¬G g):w'.rangeAt g o cs:=fun j v hv=>f.cell (h j v hv) hn
theorem Fr.base {G:Nat->Prop}(f:Fr G w w')(h:Hp w0 w m)(hG:∀k,G k->w0.heap.size<=k):Ext w0 w':=
  ⟨f.os.trans h.ext.os,f.tape.trans h.ext.tape,f.output.trans h.ext.output,Nat.le_trans h.ext.size f.size,fun k hk=>(f.block k (Nat.lt_of_lt_of_le hk h.ext.size) (fun hk2=>by have:=hG k hk2;omega)).trans (h.ext.block k hk)⟩
theorem Hp.offBlk {i j g g':Nat}{e:Ent}{t:TypeId}{cs:List Value}(h:Hp w0 w m)(hi:m[i]?=some e)(hj:m[j]?=some (.blk g' t cs))(hij:i≠j)(hg:e.own=some g):¬g=g':=fun e2=>h.apart i j _ _ hi hj hij g hg (congrArg some e2.symm)
theorem Hp.offRow {i j g size n:Nat}{e:Ent}{t:TypeId}{v:Value}{xs:List Value}(h:Hp w0 w m)(hi:m[i]?=some e)(hj:m[j]?=some (.row t size v n xs))(hij:i≠j)(hg:e.own=some g):¬Value.ownBlock v=some g:=fun e2=>h.apart i j _ _ hi hj hij g hg e2
theorem Hp.off {i j g:Nat}{e f:Ent}(h:Hp w0 w m)(hi:m[i]?=some e)(hj:m[j]?=some f)(hij:i≠j)(hg:e.own=some g):f.own≠some g:=h.apart i j e f hi hj hij g hg
end
end Go.Proofs.YtngikkggjidenabGreat
namespace Go.Proofs.YtngikkggjidenabGreat
open Go.RowKit
section
variable {P:Program} {ρ:Operand->Value} {o:Oper} {w:World}
theorem ev_add {A B E:Int}{t t':TypeId}{x y:Operand}(ho:o.op= .binOp .add t x y t')(hx:ρ x= .int .i64 A)(hy:ρ y= .int .i64 B)(hE:A+B=E)(h1: -9223372036854775808<=E)(h2:E<=9223372036854775807):(execOp ρ o).run P w= .ok (.value (.int .i64 E)) w:=by
  have hw:IntKind.i64.wrap (A+B)=E:=by rw[IntKind.wrap_i64,hE];omega
  unfold execOp;simp only[ho,hx,hy];simp[go_sem,hw]
theorem ev_sub {A B E:Int}{t t':TypeId}{x y:Operand}(ho:o.op= .binOp .sub t x y t')(hx:ρ x= .int .i64 A)(hy:ρ y= .int .i64 B)(hE:A-B=E)(h1: -9223372036854775808<=E)(h2:E<=9223372036854775807):(execOp ρ o).run P w= .ok (.value (.int .i64 E)) w:=by
  have hw:IntKind.i64.wrap (A-B)=E:=by rw[IntKind.wrap_i64,hE];omega
  unfold execOp;simp only[ho,hx,hy];simp[go_sem,hw]
theorem ev_mul {A B E:Int}{t t':TypeId}{x y:Operand}(ho:o.op= .binOp .mul t x y t')(hx:ρ x= .int .i64 A)(hy:ρ y= .int .i64 B)(hE:A*B=E)(h1: -9223372036854775808<=E)(h2:E<=9223372036854775807):(execOp ρ o).run P w= .ok (.value (.int .i64 E)) w:=by
  have hw:IntKind.i64.wrap (A*B)=E:=by rw[IntKind.wrap_i64,hE];omega
  unfold execOp;simp only[ho,hx,hy];simp[go_sem,hw]
theorem ev_lss {A B:Int}{b:Bool}{t t':TypeId}{x y:Operand}(ho:o.op= .binOp .lss t x y t')(hx:ρ x= .int .i64 A)(hy:ρ y= .int .i64 B)(hE:decide (A<B)=b):(execOp ρ o).run P w= .ok (.value (.bool b)) w:=by
  subst hE;unfold execOp;simp only[ho,hx,hy];simp[go_sem]
theorem ev_leq {A B:Int}{b:Bool}{t t':TypeId}{x y:Operand}(ho:o.op= .binOp .leq t x y t')(hx:ρ x= .int .i64 A)(hy:ρ y= .int .i64 B)(hE:decide (A<=B)=b):(execOp ρ o).run P w= .ok (.value (.bool b)) w:=by
  subst hE;unfold execOp;simp only[ho,hx,hy];simp[go_sem]
theorem ev_gtr {A B:Int}{b:Bool}{t t':TypeId}{x y:Operand}(ho:o.op= .binOp .gtr t x y t')(hx:ρ x= .int .i64 A)(hy:ρ y= .int .i64 B)(hE:decide (B<A)=b):(execOp ρ o).run P w= .ok (.value (.bool b)) w:=by
  subst hE;unfold execOp;simp only[ho,hx,hy];simp[go_sem]
theorem ev_geq {A B:Int}{b:Bool}{t t':TypeId}{x y:Operand}(ho:o.op= .binOp .geq t x y t')(hx:ρ x= .int .i64 A)(hy:ρ y= .int .i64 B)(hE:decide (B<=A)=b):(execOp ρ o).run P w= .ok (.value (.bool b)) w:=by
  subst hE;unfold execOp;simp only[ho,hx,hy];simp[go_sem]
theorem ev_eql {A B:Int}{b:Bool}{t t':TypeId}{x y:Operand}(ho:o.op= .binOp .eql t x y t')(hx:ρ x= .int .i64 A)(hy:ρ y= .int .i64 B)(hE:decide (A=B)=b):(execOp ρ o).run P w= .ok (.value (.bool b)) w:=by
  subst hE;unfold execOp;simp only[ho,hx,hy];simp[go_sem];by_cases h:A=B<;>simp[h]
theorem ev_neq {A B:Int}{b:Bool}{t t':TypeId}{x y:Operand}(ho:o.op= .binOp .neq t x y t')(hx:ρ x= .int .i64 A)(hy:ρ y= .int .i64 B)(hE:decide (A≠B)=b):(execOp ρ o).run P w= .ok (.value (.bool b)) w:=by
  subst hE;unfold execOp;simp only[ho,hx,hy];simp[go_sem];by_cases h:A=B<;>simp[h]
theorem dec_t {p:Prop}[Decidable p](h:p):decide p=true:=by simpa using h
theorem dec_f {p:Prop}[Decidable p](h:¬p):decide p=false:=by simpa using h
theorem ev_index {g off n c k size off':Nat}{z:Int}{t e:TypeId}{x y:Operand}(ho:o.op= .indexAddr t x y)(ht:P.underlying t=some (.slice e))(hs:(P.info? e).map (·.size)=some size)(hx:ρ x= .slice (some ⟨g,off,none⟩) n c)(hy:ρ y= .int .i64 z)(hz:z=(k:Int))
  (hn:k<n)(hoff:off'=off+k*size):(execOp ρ o).run P w= .ok (.value (.pointer (some ⟨g,off',none⟩))) w:=by
 subst hz;subst hoff;have hel:P.elem t=e:=by simp[Program.elem,ht]
 have h1:P.underlying t=some (.slice (P.elem t)):=by rw[hel];exact ht
 have hk:(0:Int)<=(k:Int)/\(k:Int)<(n:Int):=by omega
 unfold execOp;simp only[ho,hx,hy,Sem.run_bind,run_indexAt_slice _ _ _ _ _ _ _ h1,if_pos hk,hel];cases hq:P.info? e with
 |none=>simp[hq]at hs
 |some i=>
  have h2:i.size=size:=by simpa[hq]using hs
  simp[sizeOf,typeInfo,hq,h2,Addr.add]
end
def ElT (P:Program)(t e:TypeId)(size bytes:Nat):Prop:=P.underlying t=some (.slice e)/\∃i z,P.info? e=some i/\i.zero=some z/\i.size=size/\i.bytes=bytes/\z.cells.size=size/\NoUL z.cells.toList/\0<size
theorem ElT.of {P:Program}{t e:TypeId}{size bytes:Nat}{z:Value}(h1:P.underlying t=some (.slice e))(h2:(P.info? e).map (fun i=>(i.zero,i.size,i.bytes))=some (some z,size,bytes))(h3:z.cells.size=size)(h4:NoUL z.cells.toList)(h5:0<size):ElT P t e size bytes:=by
  obtain⟨i0,hi,hz0,hz1,hz2⟩:=info_parts h2;exact⟨h1,i0,z,hi,hz0,hz1,hz2,h3,h4,h5⟩
theorem news_cells (w:World)(t:TypeId)(news:List Value):∀(j:Nat) (u:Value),news[j]?=some u->(w.alloc (.cells news.toArray t)).cell? ((⟨w.heap.size,0,none⟩:Addr).add j)=some u:=by
  intro j u hj;have h:=(Blk.new w t news.toArray).cell j;have e:(⟨w.heap.size,0,none⟩:Addr).add j=⟨w.heap.size,j,none⟩:=by unfold Addr.add;split<;>simp_all
  rw[e,h,List.getElem?_toArray];exact hj
section
variable {P:Program} {l:List Oper} {Q:Exit->Act->World->Prop} {md:Region.Mode} {S:World->Prop} {i j ix:Nat} {oi oj:Oper} {fuel:Nat} {listed listed':Array Bool} {a:Act} {w w0:World} {m:List Ent}
theorem md_app (hj:l[j]?=some oj)(hr:Region.ready md l.toArray listed=[j])(hw:Region.wanted oj (yielded l.toArray a.tmps)=true)(s x:Operand)(t:TypeId)
  (ho:oj.op= .call {callee:= .builtin .append,args:=#[s,x],argTypes:=#[t,t]}){e:TypeId}{size bytes:Nat}(el:ElT P t e size bytes){v:Value}{n:Nat}{xs:List Value}(hs:a.eval s=v)
  (hH:Hp w0 w m)(hi:m[ix]?=some (.row e size v n xs))(k c:Nat)(news:List Value)(hx:a.eval x= .slice (some ⟨w.heap.size,0,none⟩) k c)(hl:news.length=k*size)(h1:∀u∈news,u.oneCell'=true)(hnu:NoUL news)
  (hm:0<k)(h63:n+k<=maxLen)(hbytes:(n+k)*bytes<=140737488355328)(hl':listed.setIfInBounds j true=listed')
  (h:∀g cap w',(v.ownBlock=some g\/w.heap.size<=g)->Hp w0 w' (m.set ix (.row e size (.slice (some ⟨g,0,none⟩) (n+k) cap) (n+k) (xs++news)))->Dig w w'->(w.alloc (.cells news.toArray e)).grownBy w' v.ownBlock->
   S w'/\wpAnyH P md l.toArray Q S fuel listed' (a.put oj.dst (.slice (some ⟨g,0,none⟩) (n+k) cap)) w'):wpAnyH P md l.toArray Q S (fuel+1) listed a (w.alloc (.cells news.toArray e)):=by
 obtain⟨ht,i,z,e1,e2,e3,e4,e5,e6,e7⟩:=el;have hx0:Ext w (w.alloc (.cells news.toArray e)):=(Ext.refl w).alloc _;have hH1:=hH.step hx0;refine md_appendF hj hr hw s x t ho w0.heap.size e i z size bytes ht e1 e2 e3 e4 e5 e7 e6 v n xs hs (hH1.row hi) ⟨w.heap.size,0,none⟩ k c news hx hl (news_cells w e news) h1 hnu hm h63 hbytes (Nat.le_trans hH.ext.size hx0.size) hl' ?_;intro g cap w' hf h2 h3 _;exact h g cap w' (hf.imp id (fun q=>Nat.le_trans hx0.size q)) (hH1.grow hi hf h2 h3) ((Dig.of_ext hx0).trans (hH1.growDig hi h3)) h3
theorem mv_app {rest:List Oper}{o:Oper}{ops:Array Oper}(hw:Region.wanted o (yielded ops a.tmps)=true)(s x:Operand)(t:TypeId)
  (ho:o.op= .call {callee:= .builtin .append,args:=#[s,x],argTypes:=#[t,t]}){e:TypeId}{size bytes:Nat}(el:ElT P t e size bytes){v:Value}{n:Nat}{xs:List Value}(hs:a.eval s=v)
  (hH:Hp w0 w m)(hi:m[ix]?=some (.row e size v n xs))(k c:Nat)(news:List Value)(hx:a.eval x= .slice (some ⟨w.heap.size,0,none⟩) k c)(hl:news.length=k*size)(h1:∀u∈news,u.oneCell'=true)(hnu:NoUL news)
  (hm:0<k)(h63:n+k<=maxLen)(hbytes:(n+k)*bytes<=140737488355328)
  (h:∀g cap w',(v.ownBlock=some g\/w.heap.size<=g)->Hp w0 w' (m.set ix (.row e size (.slice (some ⟨g,0,none⟩) (n+k) cap) (n+k) (xs++news)))->Dig w w'->(w.alloc (.cells news.toArray e)).grownBy w' v.ownBlock->
   wpList P ops Q rest (a.put o.dst (.slice (some ⟨g,0,none⟩) (n+k) cap)) w'):wpList P ops Q (o::rest) a (w.alloc (.cells news.toArray e)):=by
 obtain⟨ht,i,z,e1,e2,e3,e4,e5,e6,e7⟩:=el;have hx0:Ext w (w.alloc (.cells news.toArray e)):=(Ext.refl w).alloc _;have hH1:=hH.step hx0;refine wpList_if hw (wp_append_rowF s x t ho w0.heap.size e i z size bytes ht e1 e2 e3 e4 e5 e7 e6 v n xs hs (hH1.row hi) ⟨w.heap.size,0,none⟩ k c news hx hl (news_cells w e news) h1 hnu hm h63 hbytes (Nat.le_trans hH.ext.size hx0.size) ?_);intro g cap w' hf h2 h3 _;exact h g cap w' (hf.imp id (fun q=>Nat.le_trans hx0.size q)) (hH1.grow hi hf h2 h3) ((Dig.of_ext hx0).trans (hH1.growDig hi h3)) h3
theorem Hp.addBlk {w':World}{g:Nat}{t:TypeId}{cs:List Value}(h:Hp w0 w m)(x:Ext w w')(hb:Blk w' g t cs.toArray)(hg:w.heap.size<=g)(hn:NoUL cs):Hp w0 w' (m++[.blk g t cs]):=
  (h.step x).add ⟨Nat.le_trans h.ext.size hg,hb,hn⟩ (fun i f hf k hk e=>by
    injection e with e
    have:=h.lt hf hk;omega)
theorem Hp.var (h:Hp w0 w m)(T:TypeId)(zs cs:List Value)(hl:cs.length=zs.length)(hn:NoUL cs):
    Hp w0 ((w.alloc (.cells zs.toArray T)).setCells w.heap.size 0 cs) (m++[.blk w.heap.size T cs])/\Ext w ((w.alloc (.cells zs.toArray T)).setCells w.heap.size 0 cs):=by
  obtain⟨h1,h2⟩:=new_var w T zs.toArray cs.toArray (by simpa using hl);exact⟨h.addBlk h1 h2 (Nat.le_refl _) hn,h1⟩
end
section
variable {P:Program} {l:List Oper} {Q:Exit->Act->World->Prop} {md:Region.Mode} {S:World->Prop} {i ix:Nat} {oi op:Oper} {fuel:Nat} {listed listed':Array Bool} {a:Act} {w w0:World} {m:List Ent} {ops:Array Oper} {rest:List Oper}
theorem mv_alloc {T:TypeId}{zs:List Value}(hw:Region.wanted op (yielded ops a.tmps)=true)(hv:(execOp a.eval op).run P w= .ok (.value (.pointer (some ⟨w.heap.size,0,none⟩))) (w.alloc (.cells zs.toArray T)))
    (hH:Hp w0 w m)(hn:NoUL zs)(h:∀X w',Hp w0 w' (m++[.blk X T zs])->Ext w w'->w.heap.size<=X->wpList P ops Q rest (a.put op.dst (.pointer (some ⟨X,0,none⟩))) w'):wpList P ops Q (op::rest) a w:=
  mv_val hw hv (h _ _ (hH.alloc T zs hn) ((Ext.refl w).alloc _) (Nat.le_refl _))
theorem mv_lit {T:TypeId}{zs:List Value}{n:Nat}(hw:Region.wanted op (yielded ops a.tmps)=true)(hv:(execOp a.eval op).run P w= .ok (.value (.slice (some ⟨w.heap.size,0,none⟩) n n)) (w.alloc (.cells zs.toArray T)))
    (hH:Hp w0 w m)(hn:NoUL zs)(h:∀X w',Hp w0 w' (m++[.blk X T zs])->Ext w w'->w.heap.size<=X->wpList P ops Q rest (a.put op.dst (.slice (some ⟨X,0,none⟩) n n)) w'):wpList P ops Q (op::rest) a w:=
  mv_val hw hv (h _ _ (hH.alloc T zs hn) ((Ext.refl w).alloc _) (Nat.le_refl _))
theorem md_lit {T:TypeId}{zs:List Value}{n:Nat}(hi:l[i]?=some oi)(hr:Region.ready md l.toArray listed=[i])(hw:Region.wanted oi (yielded l.toArray a.tmps)=true)
  (hv:(execOp a.eval oi).run P w= .ok (.value (.slice (some ⟨w.heap.size,0,none⟩) n n)) (w.alloc (.cells zs.toArray T)))(hl:listed.setIfInBounds i true=listed')(hH:Hp w0 w m)(hn:NoUL zs)
  (h:∀X w',Hp w0 w' (m++[.blk X T zs])->Ext w w'->w.heap.size<=X->S w'/\wpAnyH P md l.toArray Q S fuel listed' (a.put oi.dst (.slice (some ⟨X,0,none⟩) n n)) w'):wpAnyH P md l.toArray Q S (fuel+1) listed a w:=by
 obtain⟨h1,h2⟩:=h _ _ (hH.alloc T zs hn) ((Ext.refl w).alloc _) (Nat.le_refl _);exact md_one hi hr hw hv h1 hl h2
theorem mv_st (hw:Region.wanted op (yielded ops a.tmps)=true)(ty:TypeId)(x y:Operand)(ho:op.op= .store ty x y){g:Nat}{t:TypeId}{cs:List Value}(hH:Hp w0 w m)(hi:m[ix]?=some (.blk g t cs))(o:Nat)(vs:List Value)
    (hx:a.eval x= .pointer (some ⟨g,o,none⟩))(hy:a.eval y= .agg vs.toArray)(hl:o+vs.length<=cs.length)(hz:(P.info? ty).map (·.size)=some vs.length)(h1:∀v,v∈vs->v.oneCell'=true)(hn:NoUL vs)
    (h:∀w',Hp w0 w' (m.set ix (.blk g t (cs.take o++vs++cs.drop (o+vs.length))))->Dig w w'->Own g w w'->wpList P ops Q rest (a.put op.dst undef) w'):wpList P ops Q (op::rest) a w:=
  wpList_if hw (wp_store_mid ty x y ho g o vs.toArray hx hy (by simpa using hH.there hi o vs.length hl) (by simpa using hz) (all_oneCell_toArray h1) (by
    rw[List.toList_toArray];exact h _ (hH.store hi o vs hl hn) (hH.storeDig hi o vs) (own_setCells w g o vs)))
theorem md_st (hli:l[i]?=some oi)(hr:Region.ready md l.toArray listed=[i])(hw:Region.wanted oi (yielded l.toArray a.tmps)=true)(hlt:listed.setIfInBounds i true=listed')(ty:TypeId)(x y:Operand)(ho:oi.op= .store ty x y){g:Nat}{t:TypeId}{cs:List Value}(hH:Hp w0 w m)(hi:m[ix]?=some (.blk g t cs))(o:Nat)(vs:List Value)
    (hx:a.eval x= .pointer (some ⟨g,o,none⟩))(hy:a.eval y= .agg vs.toArray)(hl:o+vs.length<=cs.length)(hz:(P.info? ty).map (·.size)=some vs.length)(h1:∀v,v∈vs->v.oneCell'=true)(hn:NoUL vs)
    (h:∀w',Hp w0 w' (m.set ix (.blk g t (cs.take o++vs++cs.drop (o+vs.length))))->Dig w w'->Own g w w'->S w'/\wpAnyH P md l.toArray Q S fuel listed' (a.put oi.dst undef) w'):wpAnyH P md l.toArray Q S (fuel+1) listed a w:=
  wpAnyH_one_l hli hr (fun K hK=>by
    rw[if_pos hw];refine wp_store_mid ty x y ho g o vs.toArray hx hy (by simpa using hH.there hi o vs.length hl) (by simpa using hz) (all_oneCell_toArray h1) ?_;rw[List.toList_toArray];obtain⟨k1,k2⟩:=h _ (hH.store hi o vs hl hn) (hH.storeDig hi o vs) (own_setCells w g o vs);exact hK.out _ _ k1 (fun _=>by rw[hlt];exact k2))
theorem wp_store_cell (ty:TypeId)(x y:Operand)(ho:op.op= .store ty x y)(g o:Nat)(v:Value)(hx:a.eval x= .pointer (some ⟨g,o,none⟩))(hy:a.eval y=v)(ht:w.there g o 1)
    (hz:(P.info? ty).map (·.size)=some 1)(hc:v.cells=#[v])(h1:v.oneCell'=true){K:Act->World->Prop}(h:K (a.put op.dst undef) (w.setCells g o [v])):op.wp P a w K Q:=by
  unfold Oper.wp execOp;simp only[ho,hx,hy,Instr.storeAt,Instr.sureAddr,Sem.run_bind,Sem.run_pure,Result.andThen_ok,run_storeVar_cell w g o ty v ht hz hc h1];exact h
theorem mv_st1 (hw:Region.wanted op (yielded ops a.tmps)=true)(ty:TypeId)(x y:Operand)(ho:op.op= .store ty x y){g:Nat}{t:TypeId}{cs:List Value}(hH:Hp w0 w m)(hi:m[ix]?=some (.blk g t cs))(o:Nat)(v:Value)
    (hx:a.eval x= .pointer (some ⟨g,o,none⟩))(hy:a.eval y=v)(hl:o+1<=cs.length)(hz:(P.info? ty).map (·.size)=some 1)(hc:v.cells=#[v])(h1:v.oneCell'=true)(hn:NoUL [v])
    (h:∀w',Hp w0 w' (m.set ix (.blk g t (cs.take o++[v]++cs.drop (o+1))))->Dig w w'->Own g w w'->wpList P ops Q rest (a.put op.dst undef) w'):wpList P ops Q (op::rest) a w:=
  wpList_if hw (wp_store_cell ty x y ho g o v hx hy (hH.there hi o 1 hl) hz hc h1 (h _ (hH.store hi o [v] hl hn) (hH.storeDig hi o [v]) (own_setCells w g o [v])))
theorem mv_stRow (hw:Region.wanted op (yielded ops a.tmps)=true)(ty:TypeId)(x y:Operand)(ho:op.op= .store ty x y){g n cap size:Nat}{t:TypeId}{xs:List Value}(hH:Hp w0 w m)(hi:m[ix]?=some (.row t size (.slice (some ⟨g,0,none⟩) n cap) n xs))(o:Nat)(vs:List Value)
    (hx:a.eval x= .pointer (some ⟨g,o,none⟩))(hy:a.eval y= .agg vs.toArray)(hl:o+vs.length<=xs.length)(hz:(P.info? ty).map (·.size)=some vs.length)(h1:∀v,v∈vs->v.oneCell'=true)(hn:NoUL vs)
    (h:∀w',Hp w0 w' (m.set ix (.row t size (.slice (some ⟨g,0,none⟩) n cap) n (xs.take o++vs++xs.drop (o+vs.length))))->Dig w w'->Own g w w'->wpList P ops Q rest (a.put op.dst undef) w'):wpList P ops Q (op::rest) a w:=
  wpList_if hw (wp_store_mid ty x y ho g o vs.toArray hx hy (by simpa using(hH.row hi).there o vs.length hl) (by simpa using hz) (all_oneCell_toArray h1) (by
    rw[List.toList_toArray];exact h _ (hH.storeRow hi o vs hl hn) (hH.storeRowDig hi o vs) (own_setCells w g o vs)))
theorem mv_ld (hw:Region.wanted op (yielded ops a.tmps)=true)(ty:TypeId)(x:Operand)(ho:op.op= .load ty x)(g o:Nat)(cs:List Value){d:TypeDesc}(hx:a.eval x= .pointer (some ⟨g,o,none⟩))(hb:w.rangeAt g o cs)
    (hu:P.underlying ty=some d)(hd:d.isRow=true)(hz:(P.info? ty).map (·.size)=some cs.length)(h:wpList P ops Q rest (a.put op.dst (.agg cs.toArray)) w):wpList P ops Q (op::rest) a w:=
  wpList_if hw (wp_load_mid ty x ho g o hx cs d hb hu hd hz h)
theorem mv_ld1 {g o:Nat}{v:Value}(hw:Region.wanted op (yielded ops a.tmps)=true)(hc:w.cell? ⟨g,o,none⟩=some v)(hv:∀x:World,x.cell? ⟨g,o,none⟩=some v->(execOp a.eval op).run P x= .ok (.value v) x)
    (h:wpList P ops Q rest (a.put op.dst v) w):wpList P ops Q (op::rest) a w:=mv_val hw (hv w hc) h
theorem md_ld1 {g o:Nat}{v:Value}(hi:l[i]?=some oi)(hs:Region.noSelect l.toArray=true)(hf:Region.free md l.toArray listed i=true)(hr:(Region.ready md l.toArray listed).contains i=true)
    (hQ:∀c a w,Q (.panic c) (a.put oi.dst v) w->Q (.panic c) a w)(hw:Region.wanted oi (yielded l.toArray a.tmps)=true)(hc:∀x,S x->x.cell? ⟨g,o,none⟩=some v)(hv:∀x:World,x.cell? ⟨g,o,none⟩=some v->(execOp a.eval oi).run P x= .ok (.value v) x)(hS:S w)
    (hl:listed.setIfInBounds i true=listed')(h:wpAnyH P md l.toArray Q S fuel listed' (a.put oi.dst v) w):wpAnyH P md l.toArray Q S (fuel+1) listed a w:=
  md_val hi hs hf hr hQ hw (fun x hx=>hv x (hc x hx)) hS hl h
end
end Go.Proofs.YtngikkggjidenabGreat
namespace Go.Proofs.YtngikkggjidenabGreat
open Go.RowKit
/-! Plain laws: insertion, merging, the stable sort. -/
namespace Stb
variable {α:Type}
theorem rev_rec {motive:List α->Prop}(nil:motive [])(snoc:∀l y,motive l->motive (l++[y]))(l:List α):motive l:=by
  have h:∀m:List α,motive m.reverse:=by
    intro m;induction m with
    |nil=>exact nil
    |cons x m ih=>rw[List.reverse_cons];exact snoc _ _ ih
  have:=h l.reverse;rwa[List.reverse_reverse]at this
def ins (lt:α->α->Bool):List α->α->List α
  | [],y=>[y]
  |x::l,y=>if lt y x then y::x::l else x::ins lt l y
def mrg (lt:α->α->Bool):List α->List α->List α
  | [],l=>l
  |x::a,[]=>x::a
  |x::a,y::b=>if lt y x then y::mrg lt (x::a) b else x::mrg lt a (y::b)
termination_by a b=>a.length+b.length
def stab (lt:α->α->Bool)(l:List α):List α:=l.foldl (ins lt) []
structure Wk (lt:α->α->Bool):Prop where
  asym:∀x y,lt x y=true->lt y x=false
  trans:∀x y z,lt y x=false->lt z y=false->lt z x=false
variable {lt:α->α->Bool}
theorem Wk.irr (h:Wk lt)(x:α):lt x x=false:=by
  cases e:lt x x with
  |false=>rfl
  |true=>have:=h.asym x x e;rw[e]at this;exact this
theorem Wk.tr (h:Wk lt){x y z:α}(a:lt x y=true)(b:lt y z=true):lt x z=true:=by
  cases e:lt x z with
  |true=>rfl
  | false=>
    have:=h.trans y z x (h.asym y z b) e;rw[a]at this;cases this
theorem mrg_nil (a:List α):mrg lt a []=a:=by cases a<;>simp[mrg]
theorem nil_mrg (a:List α):mrg lt [] a=a:=by simp[mrg]
theorem mrg_cons (x y:α)(a b:List α):mrg lt (x::a) (y::b)=if lt y x then y::mrg lt (x::a) b else x::mrg lt a (y::b):=by rw[mrg]
theorem mrg_len (a b:List α):(mrg lt a b).length=a.length+b.length:=by
  induction a,b using mrg.induct (lt:=lt)with
  |case1 l=>simp[mrg]
  |case2 x a=>simp[mrg]
  |case3 x a y b h ih=>rw[mrg,if_pos h];simp[ih];omega
  |case4 x a y b h ih=>rw[mrg,if_neg h];simp[ih];omega
theorem ins_len (l:List α)(y:α):(ins lt l y).length=l.length+1:=by
  induction l with
  |nil=>rfl
  |cons x l ih=>unfold ins;split<;>simp[ih]
theorem stab_snoc (l:List α)(y:α):stab lt (l++[y])=ins lt (stab lt l) y:=by simp[stab]
theorem stab_nil:stab lt ([]:List α)=[]:=rfl
theorem stab_len (l:List α):(stab lt l).length=l.length:=by
  induction l using rev_rec with
  |nil=>rfl
  |snoc l y ih=>rw[stab_snoc,ins_len,ih];simp
theorem mem_ins {l:List α}{y z:α}:z∈ins lt l y↔z=y\/z∈l:=by
  induction l with
  |nil=>simp[ins]
  | cons x l ih=>
    unfold ins;split
    · simp
    simp only[List.mem_cons,ih];constructor
    · rintro(h|h|h)<;>simp[h]
    rintro(h|h|h)<;>simp[h]
theorem mem_stab {l:List α}{z:α}:z∈stab lt l↔z∈l:=by
  induction l using rev_rec with
  |nil=>simp[stab]
  |snoc l y ih=>rw[stab_snoc,mem_ins,ih];simp;exact or_comm
def Srt (lt:α->α->Bool)(l:List α):Prop:=l.Pairwise fun x y=>lt y x=false
theorem ins_srt (W:Wk lt){l:List α}{y:α}(h:Srt lt l):Srt lt (ins lt l y):=by
 induction l with
 |nil=>exact List.pairwise_singleton _ _
 |cons x l ih=>
  have hx:=List.pairwise_cons.1 h;unfold ins;split
  ·rename_i hl
   refine List.pairwise_cons.2 ⟨fun z hz=> ?_,h⟩;rcases List.mem_cons.1 hz with rfl|hz
   ·exact W.asym _ _ hl
   exact W.trans y x z (W.asym _ _ hl) (hx.1 z hz)
  rename_i hl;refine List.pairwise_cons.2 ⟨fun z hz=> ?_,ih hx.2⟩;rcases mem_ins.1 hz with rfl|hz
  ·exact eq_false_of_ne_true hl
  exact hx.1 z hz
theorem stab_srt (W:Wk lt)(l:List α):Srt lt (stab lt l):=by
  induction l using rev_rec with
  |nil=>exact List.Pairwise.nil
  |snoc l y ih=>rw[stab_snoc];exact ins_srt W ih
theorem mrg_ins (W:Wk lt)(a b:List α)(y:α):mrg lt a (ins lt b y)=ins lt (mrg lt a b) y:=by
 induction a,b using mrg.induct (lt:=lt)with
 |case1 l=>simp[mrg]
 |case2 x a=>
  show mrg lt (x::a) [y]=ins lt (mrg lt (x::a) []) y;rw[mrg_nil];induction a generalizing x with
  |nil=>rw[mrg_cons,ins];split<;>simp[mrg,ins]
  |cons z a ih=>
   rw[mrg_cons,ins];split
   ·rw[mrg_nil]
   rw[ih]
 |case3 x a z b h ih=>
  rw[mrg_cons,if_pos h];by_cases hz:lt y z=true
  ·have e:ins lt (z::b) y=y::z::b:=by rw[ins,if_pos hz]
   rw[e,mrg_cons,if_pos (W.tr hz h),mrg_cons,if_pos h,ins,if_pos hz]
  have e:ins lt (z::b) y=z::ins lt b y:=by rw[ins,if_neg hz]
  rw[e,mrg_cons,if_pos h,ih,ins,if_neg hz]
 |case4 x a z b h ih=>
  rw[mrg_cons x z a b,if_neg h];by_cases hz:lt y z=true
  ·have e:ins lt (z::b) y=y::z::b:=by rw[ins,if_pos hz]
   rw[e]at ih⊢;rw[mrg_cons,ins];by_cases hx:lt y x=true
   ·rw[if_pos hx,if_pos hx,mrg_cons,if_neg h]
   rw[if_neg hx,if_neg hx,ih]
  have e:ins lt (z::b) y=z::ins lt b y:=by rw[ins,if_neg hz]
  have hx:¬lt y x=true:=by
   have:=W.trans x z y (eq_false_of_ne_true h) (eq_false_of_ne_true hz);rw[this];simp
  rw[e]at ih⊢;rw[mrg_cons,if_neg h,ih,ins,if_neg hx]
theorem mrg_stab (W:Wk lt)(l m:List α):mrg lt (stab lt l) (stab lt m)=stab lt (l++m):=by
  induction m using rev_rec with
  |nil=>rw[stab_nil,mrg_nil,List.append_nil]
  |snoc m y ih=>rw[stab_snoc,mrg_ins W,ih,<-List.append_assoc,stab_snoc]
theorem mrg_app (a1 a2 b1 b2:List α)(h1:∀x,x∈a1->∀y,y∈b2->lt y x=false)(h2:∀y,y∈b1->∀x,x∈a2->lt y x=true):
  mrg lt (a1++a2) (b1++b2)=mrg lt a1 b1++mrg lt a2 b2:=by
 induction a1,b1 using mrg.induct (lt:=lt)with
 |case1 l=>
  rw[nil_mrg,List.nil_append];clear h1;induction l with
  |nil=>rfl
  |cons y l ih=>
   cases a2 with
   |nil=>simp[nil_mrg]
   |cons x a2=>
    rw[List.cons_append,mrg_cons,if_pos (h2 y (by simp) x (by simp)),ih (fun y hy=>h2 y (by simp[hy]))];rfl
 |case2 x a=>
  rw[mrg_nil,List.nil_append];clear h2;generalize hl:x::a=l at h1⊢
  clear hl x a;induction l with
  |nil=>rfl
  |cons x l ih=>
   cases b2 with
   |nil=>simp[mrg_nil]
   |cons y b2=>
    have e:¬lt y x=true:=by rw[h1 x (by simp) y (by simp)];simp
    rw[List.cons_append,mrg_cons,if_neg e,ih (fun x hx=>h1 x (by simp[hx]))];rfl
 |case3 x a y b h ih=>
  rw[mrg_cons,if_pos h,List.cons_append,List.cons_append,mrg_cons,if_pos h,List.cons_append];have:=ih h1 (fun y hy=>h2 y (by simp[hy]));rw[List.cons_append]at this;rw[this]
 |case4 x a y b h ih=>
  rw[mrg_cons,if_neg h,List.cons_append,List.cons_append,mrg_cons,if_neg h,List.cons_append];have:=ih (fun x hx=>h1 x (by simp[hx])) h2;rw[List.cons_append]at this;rw[this]
theorem ins_split (l r:List α)(y:α)(h1:∀z,z∈l->lt y z=false)(h2:∀z,z∈r->lt y z=true):ins lt (l++r) y=l++y::r:=by
  induction l with
  | nil=>
    cases r with
    |nil=>rfl
    |cons z r=>rw[List.nil_append,ins,if_pos (h2 z (by simp))];rfl
  | cons z l ih=>
    have e:¬lt y z=true:=by rw[h1 z (by simp)];simp
    rw[List.cons_append,ins,if_neg e,ih (fun z hz=>h1 z (by simp[hz]))];rfl
theorem stab_take1 (l:List α):stab lt (l.take 1)=l.take 1:=by cases l<;>rfl
theorem ins_stop (W:Wk lt){l:List α}{y:α}{u:Nat}(hs:Srt lt l)(ha:∀z,z∈l.drop u->lt y z=true)(hu:u<=l.length)(h:u=0\/∃q,q+1=u/\∃hq:q<l.length,lt y l[q]=false):
  ins lt l y=l.take u++y::l.drop u:=by
 have h0:∀z,z∈l.take u->lt y z=false:=by
  intro z hz;rcases h with rfl|⟨q,rfl,hq,hy⟩
  ·simp at hz
  rw[List.take_succ_eq_append_getElem hq]at hz;rcases List.mem_append.1 hz with hz|hz
  ·refine W.trans z l[q] y ?_ hy
   have e:l=l.take q++l[q]::l.drop (q+1):=by rw[<-List.drop_eq_getElem_cons hq,List.take_append_drop]
   have hs2:=hs;rw[e]at hs2;exact(List.pairwise_append.1 hs2).2.2 z hz l[q] (List.mem_cons.2 (Or.inl rfl))
  simp at hz;rw[hz];exact hy
 have:=ins_split (lt:=lt) (l.take u) (l.drop u) y h0 ha;rwa[List.take_append_drop]at this
end Stb
end Go.Proofs.YtngikkggjidenabGreat
namespace Go.Proofs.YtngikkggjidenabGreat
open Go.RowKit
section
variable {α:Type} {enc:α->List Value} {k:Nat}
theorem flat_len (hk:∀x,(enc x).length=k)(xs:List α):(xs.flatMap enc).length=xs.length*k:=by
  induction xs with
  |nil=>simp
  |cons x xs ih=>rw[List.flatMap_cons,List.length_append,ih,hk,List.length_cons,Nat.add_mul];omega
theorem cut_at {xs:List α}{i:Nat}{x:α}(h:xs[i]?=some x):xs=xs.take i++x::xs.drop (i+1)/\(xs.take i).length=i/\∀y,xs.set i y=xs.take i++y::xs.drop (i+1):=by
  obtain⟨hi,rfl⟩:=List.getElem?_eq_some_iff.1 h;refine⟨by simp,by rw[List.length_take];omega,fun y=> ?_⟩;rw[List.set_eq_take_append_cons_drop,if_pos hi]
theorem Blk.setMid {w:World}{g:Nat}{t:TypeId}{A B C:List Value}(h:Blk w g t (A++(B++C)).toArray)(B':List Value)(hl:B'.length=B.length):Blk (w.setCells g A.length B') g t (A++(B'++C)).toArray:=by
  have h2:=Blk.setPart h A.length B' (by simp;omega);rw[hl]at h2;have e:(A++(B++C)).take A.length++B'++(A++(B++C)).drop (A.length+B.length)=A++(B'++C):=by simp
  rwa[e]at h2
structure Sw (w wr:World) (g:Nat) (T:TypeId) (enc:α->List Value) (rest:List Value) (xs:List α):Prop where
  blk:Blk wr g T (xs.flatMap enc++rest).toArray
  own:Own g w wr
variable {w wr:World} {g:Nat} {T:TypeId} {rest:List Value} {xs:List α}
theorem Sw.ext {w':World}(h:Sw w wr g T enc rest xs)(e:Ext wr w'):Sw w w' g T enc rest xs:=⟨h.blk.ext e,h.own.then_ext e⟩
theorem Sw.split (h:Sw w wr g T enc rest xs){i:Nat}{x:α}(hx:xs[i]?=some x)(hk:∀x,(enc x).length=k):
  ∃A C:List Value,A.length=i*k/\Blk wr g T (A++(enc x++C)).toArray/\∀y,(xs.set i y).flatMap enc++rest=A++(enc y++C):=by
 obtain⟨e,hl,hs⟩:=cut_at hx;refine⟨(xs.take i).flatMap enc,(xs.drop (i+1)).flatMap enc++rest,by rw[flat_len hk,hl],?_,fun y=> ?_⟩
 ·have hb:=h.blk
  rw[e]at hb;simpa[List.flatMap_append,List.flatMap_cons,List.append_assoc]using hb
 rw[hs];simp[List.flatMap_append,List.flatMap_cons,List.append_assoc]
theorem Sw.read (h:Sw w wr g T enc rest xs){i:Nat}{x:α}(hx:xs[i]?=some x)(hk:∀x,(enc x).length=k):wr.rangeAt g (i*k) (enc x):=by
  obtain⟨A,C,hA,hb,_⟩:=h.split hx hk;intro j v hv;rw[hb.cell,List.getElem?_toArray,List.getElem?_append_right (by omega),List.getElem?_append_left (by have:=(List.getElem?_eq_some_iff.1 hv).1;omega)];rw[show i*k+j-A.length=j by omega];exact hv
theorem Sw.there (h:Sw w wr g T enc rest xs){i:Nat}(hi:i<xs.length)(hk:∀x,(enc x).length=k):wr.there g (i*k) k:=by
  obtain⟨A,C,hA,hb,_⟩:=h.split (List.getElem?_eq_getElem hi) hk;have:=hb.therePart (i*k) k (by simp[hk];omega);exact this
theorem Sw.put (h:Sw w wr g T enc rest xs){i:Nat}(hi:i<xs.length)(hk:∀x,(enc x).length=k)(y:α):Sw w (wr.setCells g (i*k) (enc y)) g T enc rest (xs.set i y):=by
  obtain⟨A,C,hA,hb,hs⟩:=h.split (List.getElem?_eq_getElem hi) hk;refine⟨?_,Own.setCells_l _ _ h.own⟩;rw[hs,<-hA];exact hb.setMid _ (by rw[hk,hk])
theorem Sw.refl (hb:Blk w g T (xs.flatMap enc++rest).toArray):Sw w w g T enc rest xs:=⟨hb,Own.refl _ _⟩
def swp (xs:List α)(i j:Nat):List α:=match xs[i]?,xs[j]?with|some x,some y=>(xs.set i y).set j x|_,_=>xs
theorem swp_eq {i j:Nat}{x y:α}(hx:xs[i]?=some x)(hy:xs[j]?=some y):swp xs i j=(xs.set i y).set j x:=by unfold swp;rw[hx,hy]
theorem swp_len (xs:List α)(i j:Nat):(swp xs i j).length=xs.length:=by unfold swp;split<;>simp
theorem swp_cut (P M S:List α)(x y:α):swp (P++x::(M++y::S)) P.length (P.length+1+M.length)=P++y::(M++x::S):=by
 have h1:(P++x::(M++y::S))[P.length]?=some x:=by simp
 have e:P++x::(M++y::S)=(P++x::M)++y::S:=by simp
 have h2:(P++x::(M++y::S))[P.length+1+M.length]?=some y:=by
  rw[e,show P.length+1+M.length=(P++x::M).length by simp;omega];simp
 rw[swp_eq h1 h2];have s1:(P++x::(M++y::S)).set P.length y=(P++y::M)++y::S:=by simp
 rw[s1,show P.length+1+M.length=(P++y::M).length by simp;omega];simp
end
section
variable {P:Program} {l:List Oper} {Q:Exit->Act->World->Prop} {md:Region.Mode} {S:World->Prop} {i j:Nat} {oi oj:Oper} {fuel:Nat} {listed li lj listed':Array Bool} {a:Act} {w:World}
theorem md_loads2 (hi:l[i]?=some oi)(hj:l[j]?=some oj)(hr:Region.ready md l.toArray listed=[i,j])(hli:listed.setIfInBounds i true=li)(hlj:listed.setIfInBounds j true=lj)
  (hri:Region.ready md l.toArray li=[j])(hrj:Region.ready md l.toArray lj=[i])(hl:li.setIfInBounds j true=listed')(hl2:lj.setIfInBounds i true=listed')
  (ty:TypeId)(x y:Operand)(ho:oi.op= .load ty x)(hoj:oj.op= .load ty y)(hg:oi.guard=none)(hgj:oj.guard=none)(g ox oy:Nat)(cx cy:List Value)(d:TypeDesc)(hu:P.underlying ty=some d)(hd:d.isRow=true)
  (hx:a.eval x= .pointer (some ⟨g,ox,none⟩))(hy:(a.put oi.dst (.agg cx.toArray)).eval y= .pointer (some ⟨g,oy,none⟩))(hy0:a.eval y= .pointer (some ⟨g,oy,none⟩))(hx1:(a.put oj.dst (.agg cy.toArray)).eval x= .pointer (some ⟨g,ox,none⟩))
  (hbx:w.rangeAt g ox cx)(hby:w.rangeAt g oy cy)(hzx:(P.info? ty).map (·.size)=some cx.length)(hzy:(P.info? ty).map (·.size)=some cy.length)(hS:S w)
  (hc:(a.put oj.dst (.agg cy.toArray)).put oi.dst (.agg cx.toArray)=(a.put oi.dst (.agg cx.toArray)).put oj.dst (.agg cy.toArray))
  (h:wpAnyH P md l.toArray Q S fuel listed' ((a.put oi.dst (.agg cx.toArray)).put oj.dst (.agg cy.toArray)) w):wpAnyH P md l.toArray Q S (fuel+1+1) listed a w:=by
 have wi:∀t,Region.wanted oi (yielded l.toArray t)=true:=fun t=>by simp only[Region.wanted,hg]
 have wj:∀t,Region.wanted oj (yielded l.toArray t)=true:=fun t=>by simp only[Region.wanted,hgj]
 refine wpAnyH_ready hr (by simp) (AllReadyH.cons (by rw[List.getElem?_toArray];exact hi) (fun K hK=> ?_) (AllReadyH.cons (by rw[List.getElem?_toArray];exact hj) (fun K hK=> ?_) AllReadyH.nil))
 ·rw[if_pos (wi _)]
  refine wp_load_mid ty x ho g ox hx cx d hbx hu hd hzx (hK.out _ _ hS (fun _=> ?_));rw[hli];refine wpAnyH_one_l hj hri (fun K hK=> ?_);rw[if_pos (wj _)];refine wp_load_mid ty y hoj g oy hy cy d hby hu hd hzy (hK.out _ _ hS (fun _=> ?_));rw[hl];exact h
 rw[if_pos (wj _)];refine wp_load_mid ty y hoj g oy hy0 cy d hby hu hd hzy (hK.out _ _ hS (fun _=> ?_));rw[hlj];refine wpAnyH_one_l hi hrj (fun K hK=> ?_);rw[if_pos (wi _)];refine wp_load_mid ty x ho g ox hx1 cx d hbx hu hd hzx (hK.out _ _ hS (fun _=> ?_));rw[hl2,hc];exact h
theorem md_rstore (hi:l[i]?=some oi)(hr:Region.ready md l.toArray listed=[i])(hg:oi.guard=none)(ty:TypeId)(x y:Operand)(ho:oi.op= .store ty x y)
    (g o:Nat)(cs:List Value)(hx:a.eval x= .pointer (some ⟨g,o,none⟩))(hy:a.eval y= .agg cs.toArray)(ht:w.there g o cs.length)
    (hz:(P.info? ty).map (·.size)=some cs.length)(h1:∀v,v∈cs->v.oneCell'=true)(hS:S (w.setCells g o cs))(hl:listed.setIfInBounds i true=listed')
    (h:wpAnyH P md l.toArray Q S fuel listed' (a.put oi.dst undef) (w.setCells g o cs)):wpAnyH P md l.toArray Q S (fuel+1) listed a w:=
  wpAnyH_one_l hi hr (fun K hK=>by
    rw[if_pos (by simp only[Region.wanted,hg])];exact wp_store_mid ty x y ho g o cs.toArray hx hy (by simpa using ht) (by simpa using hz) (all_oneCell_toArray h1) (hK.out _ _ hS (fun _=>by rw[hl];exact h)))
end
end Go.Proofs.YtngikkggjidenabGreat
namespace Go.Proofs.YtngikkggjidenabGreat
open Go.RowKit
section
variable {α:Type}
def swpN (xs:List α)(a b:Nat):Nat->List α
  |0=>xs
  |t+1=>swp (swpN xs a b t) (a+t) (b+t)
theorem swpN_succ (xs:List α)(a b t:Nat):swpN xs a b (t+1)=swp (swpN xs a b t) (a+t) (b+t):=rfl
theorem swpN_len (xs:List α)(a b t:Nat):(swpN xs a b t).length=xs.length:=by
  induction t with
  |zero=>rfl
  |succ t ih=>rw[swpN_succ,swp_len,ih]
theorem swpN_cut (P X M Y S:List α)(n:Nat)(hX:X.length=n)(hY:Y.length=n):swpN (P++(X++(M++(Y++S)))) P.length (P.length+n+M.length) n=P++(Y++(M++(X++S))):=by
 have key:∀t,t<=n->swpN (P++(X++(M++(Y++S)))) P.length (P.length+n+M.length) t=P++(Y.take t++(X.drop t++(M++(X.take t++(Y.drop t++S))))):=by
  intro t;induction t with
  |zero=>intro _;simp[swpN]
  |succ t ih=>
   intro ht;rw[swpN_succ,ih (by omega)];have hx:t<X.length:=by omega
   have hy:t<Y.length:=by omega
   have ex:X.drop t=X[t]::X.drop (t+1):=List.drop_eq_getElem_cons hx;have ey:Y.drop t=Y[t]::Y.drop (t+1):=List.drop_eq_getElem_cons hy;have e1:P++(Y.take t++(X.drop t++(M++(X.take t++(Y.drop t++S)))))=(P++Y.take t)++X[t]::((X.drop (t+1)++(M++X.take t))++Y[t]::(Y.drop (t+1)++S)):=by rw[ex,ey];simp only[List.append_assoc,List.cons_append]
   have l1:(P++Y.take t).length=P.length+t:=by simp;omega
   have l2:(X.drop (t+1)++(M++X.take t)).length=n-1+M.length:=by simp;omega
   have c:=swp_cut (P++Y.take t) (X.drop (t+1)++(M++X.take t)) (Y.drop (t+1)++S) X[t] Y[t];rw[l1,l2,show P.length+t+1+(n-1+M.length)=P.length+n+M.length+t by omega]at c;rw[e1,c,List.take_succ_eq_append_getElem hx,List.take_succ_eq_append_getElem hy];simp only[List.append_assoc,List.cons_append,List.nil_append]
 have h:=key n (Nat.le_refl _);rw[h];have a1:Y.take n=Y:=List.take_of_length_le (by omega);have a2:X.take n=X:=List.take_of_length_le (by omega);have a3:X.drop n=[]:=List.drop_of_length_le (by omega);have a4:Y.drop n=[]:=List.drop_of_length_le (by omega);rw[a1,a2,a3,a4];simp
theorem get_mid (P A R:List α)(t:Nat)(h:t<A.length):(P++(A++R))[P.length+t]?=A[t]?:=by
  rw[List.getElem?_append_right (by omega),show P.length+t-P.length=t by omega,List.getElem?_append_left h]
theorem swps_right (P B S:List α)(x:α)(t:Nat)(h:t<B.length):swp (P++(B.take t++x::(B.drop t++S))) (P.length+t) (P.length+t+1)=P++(B.take (t+1)++x::(B.drop (t+1)++S)):=by
 have e:B.drop t=B[t]::B.drop (t+1):=List.drop_eq_getElem_cons h;have e1:P++(B.take t++x::(B.drop t++S))=(P++B.take t)++x::([]++B[t]::(B.drop (t+1)++S)):=by rw[e];simp only[List.append_assoc,List.cons_append,List.nil_append]
 have l1:(P++B.take t).length=P.length+t:=by simp;omega
 have c:=swp_cut (P++B.take t) [] (B.drop (t+1)++S) x B[t];rw[l1,List.length_nil,Nat.add_zero]at c;rw[e1];refine c.trans ?_;rw[List.take_succ_eq_append_getElem h];simp only[List.append_assoc,List.cons_append,List.nil_append]
theorem swps_left (P A S:List α)(y:α)(t:Nat)(h:t<A.length):swp (P++(A.take (t+1)++y::(A.drop (t+1)++S))) (P.length+t+1) (P.length+t)=P++(A.take t++y::(A.drop t++S)):=by
 have e:A.drop t=A[t]::A.drop (t+1):=List.drop_eq_getElem_cons h;have hx:(P++(A.take (t+1)++y::(A.drop (t+1)++S)))[P.length+t+1]?=some y:=by
  rw[List.getElem?_append_right (by omega),List.getElem?_append_right (by simp;omega)];simp;rw[show P.length+t+1-P.length-min (t+1) A.length=0 by omega];rfl
 have hy:(P++(A.take (t+1)++y::(A.drop (t+1)++S)))[P.length+t]?=some A[t]:=by
  rw[List.getElem?_append_right (by omega),List.getElem?_append_left (by simp;omega)];rw[show P.length+t-P.length=t by omega];simp[h]
 rw[swp_eq hx hy];have e1:P++(A.take (t+1)++y::(A.drop (t+1)++S))=(P++A.take t)++A[t]::([]++y::(A.drop (t+1)++S)):=by rw[List.take_succ_eq_append_getElem h];simp only[List.append_assoc,List.cons_append,List.nil_append]
 have l1:(P++A.take t).length=P.length+t:=by simp;omega
 rw[e1,e];have s1:((P++A.take t)++A[t]::([]++y::(A.drop (t+1)++S))).set (P.length+t+1) A[t]=(P++A.take t)++A[t]::([]++A[t]::(A.drop (t+1)++S)):=by
  rw[<-l1,List.set_append_right _ _ (by omega)];simp
 rw[s1,<-l1,List.set_append_right _ _ (by omega),Nat.sub_self,List.set_cons_zero];simp only[List.append_assoc,List.cons_append,List.nil_append]
namespace Stb
variable {lt:α->α->Bool}
theorem mrg_one_right (A:List α)(y:α):mrg lt A [y]=ins lt A y:=by
  induction A with
  |nil=>simp[mrg,ins]
  | cons x A ih => rw[mrg_cons,ins];split;· rw[mrg_nil]
                   rw[ih]
theorem mrg_one_left (B1 B2:List α)(x:α)(h1:∀z,z∈B1->lt z x=true)(h2:∀z,z∈B2->lt z x=false):mrg lt [x] (B1++B2)=B1++x::B2:=by
  have h:=mrg_app (lt:=lt) [] [x] B1 B2 (by simp) (fun y hy z hz=>by simp at hz;rw[hz];exact h1 y hy);have h3:=mrg_app (lt:=lt) [x] [] [] B2 (fun z hz y hy=>by simp at hz;rw[hz];exact h2 y hy) (by simp);simp only[List.append_nil,List.nil_append,nil_mrg,mrg_nil,List.singleton_append]at h h3;rw[h,h3]
theorem Srt.le (W:Wk lt){l:List α}(h:Srt lt l){i j:Nat}{x y:α}(hi:l[i]?=some x)(hj:l[j]?=some y)(hij:i<=j):lt y x=false:=by
  rcases Nat.lt_or_ge i j with hlt|hge
  · obtain⟨h1,rfl⟩:=List.getElem?_eq_some_iff.1 hi
    obtain⟨h2,rfl⟩:=List.getElem?_eq_some_iff.1 hj;exact(List.pairwise_iff_getElem.1 h) i j h1 h2 hlt
  obtain rfl:i=j:=by omega
  rw[hi]at hj;injection hj with hj
  subst hj;exact W.irr x
theorem mem_take {l:List α}{n:Nat}{z:α}(h:z∈l.take n):∃i,i<n/\l[i]?=some z:=by
  obtain⟨i,hi⟩:=List.mem_iff_getElem?.1 h;rw[List.getElem?_take]at hi;by_cases h1:i<n
  · rw[if_pos h1]at hi;exact⟨i,h1,hi⟩
  rw[if_neg h1]at hi;cases hi
theorem mem_drop {l:List α}{n:Nat}{z:α}(h:z∈l.drop n):∃i,n<=i/\l[i]?=some z:=by
  obtain⟨i,hi⟩:=List.mem_iff_getElem?.1 h;rw[List.getElem?_drop]at hi;exact⟨n+i,by omega,hi⟩
theorem one_left (W:Wk lt){B:List α}{x:α}{s:Nat}(hB:Srt lt B)(h1:s=0\/∃z,B[s-1]?=some z/\lt z x=true)(h2:B.length<=s\/∃z,B[s]?=some z/\lt z x=false):mrg lt [x] B=B.take s++x::B.drop s:=by
 have h:=mrg_one_left (lt:=lt) (B.take s) (B.drop s) x (fun z hz=>by
  obtain⟨i,hi,hg⟩:=mem_take hz;rcases h1 with rfl|⟨u,hu,hl⟩
  ·omega
  ·have:=hB.le W hg hu (by omega)
   cases e:lt z x with
   |true=>rfl
   |false=>rw[W.trans x z u e this]at hl;cases hl) (fun z hz=>by
  obtain⟨i,hi,hg⟩:=mem_drop hz;rcases h2 with h2|⟨u,hu,hl⟩
  ·have:=(List.getElem?_eq_some_iff.1 hg).1;omega
  exact W.trans x u z hl (hB.le W hu hg hi))
 rwa[List.take_append_drop]at h
theorem one_right (W:Wk lt){A:List α}{y:α}{s:Nat}(hA:Srt lt A)(h1:s=0\/∃z,A[s-1]?=some z/\lt y z=false)(h2:A.length<=s\/∃z,A[s]?=some z/\lt y z=true):mrg lt A [y]=A.take s++y::A.drop s:=by
 rw[mrg_one_right];have h:=ins_split (lt:=lt) (A.take s) (A.drop s) y (fun z hz=>by
  obtain⟨i,hi,hg⟩:=mem_take hz;rcases h1 with rfl|⟨u,hu,hl⟩
  ·omega
  ·exact W.trans z u y (hA.le W hg hu (by omega)) hl) (fun z hz=>by
  obtain⟨i,hi,hg⟩:=mem_drop hz;rcases h2 with h2|⟨u,hu,hl⟩
  ·have:=(List.getElem?_eq_some_iff.1 hg).1;omega
  have:=hA.le W hu hg hi;cases e:lt y z with
  |true=>rfl
  |false=>rw[W.trans u z y this e]at hl;cases hl)
 rwa[List.take_append_drop]at h
theorem sym_split (W:Wk lt){A B:List α}{s r:Nat}(hA:Srt lt A)(hB:Srt lt B)(h1:s=0\/B.length<=r\/∃x y,A[s-1]?=some x/\B[r]?=some y/\lt y x=false)(h2:r=0\/A.length<=s\/∃x y,A[s]?=some x/\B[r-1]?=some y/\lt y x=true):
  mrg lt A B=mrg lt (A.take s) (B.take r)++mrg lt (A.drop s) (B.drop r):=by
 have h:=mrg_app (lt:=lt) (A.take s) (A.drop s) (B.take r) (B.drop r) (fun x hx y hy=>by
  obtain⟨i,hi,hgx⟩:=mem_take hx;obtain⟨j,hj,hgy⟩:=mem_drop hy;rcases h1 with rfl|h1|⟨u,v,hu,hv,hl⟩
  ·omega
  ·have:=(List.getElem?_eq_some_iff.1 hgy).1;omega
  ·exact W.trans x v y (W.trans x u v (hA.le W hgx hu (by omega)) hl) (hB.le W hv hgy hj)) (fun y hy x hx=>by
  obtain⟨i,hi,hgy⟩:=mem_take hy;obtain⟨j,hj,hgx⟩:=mem_drop hx;rcases h2 with rfl|h2|⟨u,v,hu,hv,hl⟩
  ·omega
  ·have:=(List.getElem?_eq_some_iff.1 hgx).1;omega
  have k1:=hA.le W hu hgx hj;have k2:=hB.le W hgy hv (by omega);cases e:lt y x with
  |true=>rfl
  |false=>rw[W.trans u y v (W.trans u x y k1 e) k2]at hl;cases hl)
 rwa[List.take_append_drop,List.take_append_drop]at h
theorem mrg_take_nil {A B:List α}{s r:Nat}(h:¬(0<s/\0<r)):mrg lt (A.take s) (B.take r)=A.take s++B.take r:=by
  rcases Nat.eq_zero_or_pos s with rfl|h1
  · simp[nil_mrg]
  obtain rfl:r=0:=by omega
  simp[mrg_nil]
theorem mrg_drop_nil {A B:List α}{s r:Nat}(h:¬(s<A.length/\r<B.length)):mrg lt (A.drop s) (B.drop r)=A.drop s++B.drop r:=by
  rcases Nat.lt_or_ge s A.length with h1|h1
  · rw[List.drop_of_length_le (show B.length<=r by omega),mrg_nil,List.append_nil]
  rw[List.drop_of_length_le h1,nil_mrg,List.nil_append]
theorem srt_take {l:List α}(h:Srt lt l)(n:Nat):Srt lt (l.take n):=h.sublist (List.take_sublist n l)
theorem srt_drop {l:List α}(h:Srt lt l)(n:Nat):Srt lt (l.drop n):=h.sublist (List.drop_sublist n l)
end Stb
end
theorem ne_of_len {α:Type}{l:List α}(h:0<l.length):l≠ []:=by intro e;rw[e]at h;simp at h
def SymF (P A B S a m b N ss mid M n p:Nat):Prop:=P=a/\a+A=m/\m+B=b/\P+(A+(B+S))=N/\2<=A/\2<=B/\ss=a+b/\mid=ss/2/\a+M=mid/\n=mid+m/\p+1=n
def SymG (A B a M lo hi st r0:Nat):Prop:=st=a+lo/\r0=a+hi/\lo<=hi/\hi<=A/\hi<=M/\M<=lo+B
theorem sym_ar {P A B S a m b N ss mid M n p lo hi st r0 s e i j:Nat}(hsz:N<=100000)(hF:SymF P A B S a m b N ss mid M n p)(hG:SymG A B a M lo hi st r0)(hls:lo<=s)(heh:e<=hi)(hi_:i=a+s)(hj_:j=a+e)(hlt:s<e):
  ∃sq h c ph:Nat,(sq=i+j/\h=sq/2/\ph+h=p/\i<j/\sq<=200000/\h<N/\ph<N/\i<=100000/\p<=200000)/\(h=a+c/\s<=c/\c<e)/\c<A/\M-c-1<B/\P+c=h/\P+A+(M-c-1)=ph:=by
 obtain⟨f1,f2,f3,f4,f5,f6,f7,f8,f9,f10,f11⟩:=hF;obtain⟨g1,g2,g3,g4,g5,g6⟩:=hG;refine⟨i+j,(i+j)/2,(i+j)/2-a,p-(i+j)/2,?_⟩;have h1:a+s<=(i+j)/2:=by omega
 have h2:(i+j)/2<a+e:=by omega
 have h3:i+j<=200000:=by omega
 generalize hh:(i+j)/2=h at*
 exact⟨⟨rfl,rfl,by omega,by omega,h3,by omega,by omega,by omega,by omega⟩,⟨by omega,by omega,by omega⟩,by omega,by omega,by omega,by omega⟩
theorem sym_ar2 {P A B S a m b N ss mid M n p lo hi st r0 s i:Nat}(hsz:N<=100000)(hF:SymF P A B S a m b N ss mid M n p)(hG:SymG A B a M lo hi st r0)(hls:lo<=s)(heh:s<=hi)(hi_:i=a+s):
  ∃r en:Nat,(s+r=M/\en+i=n/\r<=B/\s<=A/\en<=200000)/\P+(s+(r+((A-s)+((B-r)+S))))=N/\((i<m↔s<A)/\(m<en↔0<r)/\(a<i↔0<s)/\(i<mid↔0<r)/\(mid<en↔s<A)/\(en<b↔r<B))/\
   (P+s=i/\i+(A-s)=m/\m+r=en/\a+s=i/\i+r=mid/\mid+(A-s)=en/\en+(B-r)=b/\P+(s+r)=mid/\P=a)/\s+r<A+B/\(A-s)+(B-r)<A+B:=by
 obtain⟨f1,f2,f3,f4,f5,f6,f7,f8,f9,f10,f11⟩:=hF;obtain⟨g1,g2,g3,g4,g5,g6⟩:=hG;have hm:0<M/\M<A+B:=by omega
 refine⟨M-s,m+(M-s),⟨by omega,by omega,by omega,by omega,by omega⟩,by omega,⟨by omega,by omega,by omega,by omega,by omega,by omega⟩,⟨by omega,by omega,by omega,by omega,by omega,by omega,by omega,by omega,by omega⟩,by omega,by omega⟩
theorem sym_ar0 {P A B S a m b N ss mid M n p:Nat}(hsz:N<=100000)(hF:SymF P A B S a m b N ss mid M n p)(h:mid<m):∃st lo,st+b=n/\st<=200000/\st=a+lo/\lo+B=M/\mid=a+M/\lo<=M/\M<=A:=by
  obtain⟨f1,f2,f3,f4,f5,f6,f7,f8,f9,f10,f11⟩:=hF;exact⟨n-b,n-b-a,by omega,by omega,by omega,by omega,by omega,by omega,by omega⟩
theorem sym_ar1 {P A B S a m b N ss mid M n p:Nat}(hF:SymF P A B S a m b N ss mid M n p)(h:¬mid<m):A<=M/\M<=B/\m=a+A:=by
  obtain⟨f1,f2,f3,f4,f5,f6,f7,f8,f9,f10,f11⟩:=hF;exact⟨by omega,by omega,by omega⟩
end Go.Proofs.YtngikkggjidenabGreat
namespace Go.Proofs.YtngikkggjidenabGreat
open Go.RowKit
namespace Stb
variable {α:Type} {lt:α->α->Bool}
def Blks (lt:α->α->Bool)(s:Nat)(xs row:List α):Prop:=∃(D:List (List α)) (t:List α),(∀c,c∈D->c.length=s)/\t.length<s/\xs=D.flatten++t/\row=(D.map (stab lt)).flatten++stab lt t
def Half (lt:α->α->Bool)(s a:Nat)(xs row:List α):Prop:=∃(D R:List (List α)) (t:List α),(∀c,c∈D->c.length=2*s)/\(∀c,c∈R->c.length=s)/\t.length<s/\xs=D.flatten++(R.flatten++t)/\row=(D.map (stab lt)).flatten++((R.map (stab lt)).flatten++stab lt t)/\a=D.flatten.length
def Fst (lt:α->α->Bool)(s a:Nat)(xs row:List α):Prop:=∃(D:List (List α)) (t:List α),(∀c,c∈D->c.length=s)/\xs=D.flatten++t/\row=(D.map (stab lt)).flatten++t/\a=D.flatten.length
theorem flat_stab_len (D:List (List α)):(D.map (stab lt)).flatten.length=D.flatten.length:=by
  induction D with
  |nil=>rfl
  |cons c D ih=>simp only[List.map_cons,List.flatten_cons,List.length_append,stab_len,ih]
theorem flat_len_mul {s:Nat}(R:List (List α))(h:∀c,c∈R->c.length=s):R.flatten.length=R.length*s:=by
  induction R with
  |nil=>simp
  |cons c R ih=>rw[List.flatten_cons,List.length_append,h c (by simp),ih (fun c hc=>h c (by simp[hc])),List.length_cons,Nat.add_mul];omega
theorem Fst.start (s:Nat)(xs:List α):Fst lt s 0 xs xs:=⟨[],xs,by simp,by simp,by simp,by simp⟩
theorem Fst.cut {s a:Nat}{xs row:List α}(h:Fst lt s a xs row)(hb:a+s<=xs.length):
  ∃P X S:List α,row=P++(X++S)/\P.length=a/\X.length=s/\Fst lt s (a+s) xs (P++(stab lt X++S)):=by
 obtain⟨D,t,h1,rfl,rfl,rfl⟩:=h;rw[List.length_append]at hb;have lx:(t.take s).length=s:=by rw[List.length_take];omega
 refine⟨(D.map (stab lt)).flatten,t.take s,t.drop s,by rw[List.take_append_drop],flat_stab_len D,lx,D++[t.take s],t.drop s,?_,?_,?_,?_⟩
 ·intro c hc
  rcases List.mem_append.1 hc with hc|hc
  ·exact h1 c hc
  simp at hc;rw[hc];exact lx
 ·simp
 ·simp
 simp;omega
theorem Fst.last {s a:Nat}{xs row:List α}(h:Fst lt s a xs row)(hb:xs.length<a+s):∃P X:List α,row=P++(X++[])/\P.length=a/\a+X.length=xs.length/\Blks lt s xs (P++(stab lt X++[])):=by
  obtain⟨D,t,h1,rfl,rfl,rfl⟩:=h;rw[List.length_append]at hb;exact⟨(D.map (stab lt)).flatten,t,by simp,flat_stab_len D,by simp,D,t,h1,by omega,rfl,by simp⟩
theorem Blks.half {s:Nat}{xs row:List α}(h:Blks lt s xs row):Half lt s 0 xs row:=by
  obtain⟨D,t,h1,h2,rfl,rfl⟩:=h;exact⟨[],D,t,by simp,h1,h2,by simp,by simp,by simp⟩
theorem Half.cut (W:Wk lt){s a:Nat}{xs row:List α}(h:Half lt s a xs row)(hs:0<s)(hb:a+2*s<=xs.length):
  ∃P A B S:List α,row=P++(A++(B++S))/\P.length=a/\A.length=s/\B.length=s/\Srt lt A/\Srt lt B/\Half lt s (a+2*s) xs (P++(mrg lt A B++S)):=by
 obtain⟨D,R,t,h1,h2,h3,rfl,rfl,rfl⟩:=h;have hl:=flat_len_mul R h2;rw[List.length_append,List.length_append,hl]at hb;match R,h2,hl with
 | [],_,_=>exfalso;simp at hb;omega
 | [c],_,_=>exfalso;simp at hb;omega
 |c::c2::R,h2,_=>
  have l1:=h2 c (by simp);have l2:=h2 c2 (by simp);refine⟨(D.map (stab lt)).flatten,stab lt c,stab lt c2,(R.map (stab lt)).flatten++stab lt t,by simp,flat_stab_len D,by rw[stab_len,l1],by rw[stab_len,l2],stab_srt W c,stab_srt W c2,D++[c++c2],R,t,?_,fun c hc=>h2 c (by simp[hc]),h3,?_,?_,?_⟩
  ·intro x hx
   rcases List.mem_append.1 hx with hx|hx
   ·exact h1 x hx
   simp at hx;rw[hx];simp;omega
  ·simp
  ·rw[mrg_stab W];simp
  simp;omega
theorem Half.last (W:Wk lt){s a:Nat}{xs row:List α}(h:Half lt s a xs row)(hb:xs.length<a+2*s)(hm:a+s<xs.length):
  ∃P A B:List α,row=P++(A++(B++[]))/\P.length=a/\A.length=s/\a+s+B.length=xs.length/\Srt lt A/\Srt lt B/\Blks lt (2*s) xs (P++(mrg lt A B++[])):=by
 obtain⟨D,R,t,h1,h2,h3,rfl,rfl,rfl⟩:=h;have hl:=flat_len_mul R h2;rw[List.length_append,List.length_append,hl]at hb hm;match R,h2,hl with
 | [],_,_=>exfalso;simp at hm;omega
 | [c],h2,_=>
  have l1:=h2 c (by simp);refine⟨(D.map (stab lt)).flatten,stab lt c,stab lt t,by simp,flat_stab_len D,by rw[stab_len,l1],by rw[stab_len];simp;omega,stab_srt W c,stab_srt W t,D,c++t,h1,by simp;omega,by simp,?_⟩;rw[mrg_stab W];simp
 |c::c2::R,_,_=>
  exfalso;simp only[List.length_cons]at hb;have:=Nat.mul_le_mul_right s (show 2<=R.length+1+1 by omega);omega
theorem Half.none {s a:Nat}{xs row:List α}(h:Half lt s a xs row)(hb:xs.length<a+2*s)(hm:¬a+s<xs.length):Blks lt (2*s) xs row:=by
 obtain⟨D,R,t,h1,h2,h3,rfl,rfl,rfl⟩:=h;have hl:=flat_len_mul R h2;rw[List.length_append,List.length_append,hl]at hb hm;match R,h2,hl with
 | [],_,_=>exact⟨D,t,h1,by omega,by simp,by simp⟩
 | [c],h2,_=>
  have l1:=h2 c (by simp);have e1: [c].length*s=s:=by simp
  rw[e1]at hm hb;have:t=[]:=List.eq_nil_of_length_eq_zero (by omega);subst this;exact⟨D,c,h1,by simp at h3;omega,by simp,by simp[stab_nil]⟩
 |c::c2::R,_,_=>
  exfalso;simp only[List.length_cons]at hb;have:=Nat.mul_le_mul_right s (show 2<=R.length+1+1 by omega);omega
theorem Blks.all {s:Nat}{xs row:List α}(h:Blks lt s xs row)(hs:xs.length<=s):row=stab lt xs:=by
 obtain⟨D,t,h1,h2,rfl,rfl⟩:=h;have hl:=flat_len_mul D h1;rw[List.length_append,hl]at hs;match D,h1 with
 | [],_=>simp
 | [c],h1=>
  have l1:=h1 c (by simp);have e1: [c].length*s=s:=by simp
  rw[e1]at hs;have:t=[]:=List.eq_nil_of_length_eq_zero (by omega);subst this;simp[stab_nil]
 |c::c2::D,_=>
  exfalso;simp only[List.length_cons]at hs;have:=Nat.mul_le_mul_right s (show 2<=D.length+1+1 by omega);omega
theorem Blks.len {s:Nat}{xs row:List α}(h:Blks lt s xs row):row.length=xs.length:=by
  obtain⟨D,t,_,_,rfl,rfl⟩:=h;rw[List.length_append,List.length_append,flat_stab_len,stab_len]
theorem Half.len {s a:Nat}{xs row:List α}(h:Half lt s a xs row):row.length=xs.length:=by
  obtain⟨D,R,t,_,_,_,rfl,rfl,_⟩:=h;simp only[List.length_append,flat_stab_len,stab_len]
theorem Fst.len {s a:Nat}{xs row:List α}(h:Fst lt s a xs row):row.length=xs.length:=by
  obtain⟨D,t,_,rfl,rfl,_⟩:=h;rw[List.length_append,List.length_append,flat_stab_len]
end Stb
end Go.Proofs.YtngikkggjidenabGreat
namespace Go.Proofs.YtngikkggjidenabGreat
open Go.RowKit
structure SpE where
  a:RV
  b:RV
  p:Rat
  q:Rat
def SpE.cells (e:SpE):List Value:=[.bool e.a.n,.slice e.a.p e.a.l e.a.c,.bool e.a.m,.slice e.a.p2 e.a.l2 e.a.c2,.bool e.b.n,.slice e.b.p e.b.l e.b.c,.bool e.b.m,.slice e.b.p2 e.b.l2 e.b.c2]
def SpE.vl (e:SpE):Rat×Rat:=(e.p,e.q)
def SpE.Ok (L:Nat)(w:World)(e:SpE):Prop:=e.a.Is w e.p/\e.b.Is w e.q/\Nm.rl e.p<=L/\Nm.rl e.q<=L
def spCells (es:List SpE):List Value:=es.flatMap SpE.cells
theorem SpE.len (e:SpE):e.cells.length=8:=rfl
theorem SpE.one (e:SpE):∀v,v∈e.cells->v.oneCell'=true:=by simp[SpE.cells,Value.oneCell']
theorem SpE.noU (e:SpE):NoUL e.cells:=by intro x hx k;simp[SpE.cells]at hx;rcases hx with rfl|rfl|rfl|rfl|rfl|rfl|rfl|rfl<;>simp
theorem noUL_sp (es:List SpE):NoUL (spCells es):=by
  intro x hx;obtain⟨e,_,he⟩:=List.mem_flatMap.1 hx;exact SpE.noU e x he
theorem SpE.Ok.pt {L:Nat}{w:World}{e:SpE}(h:e.Ok L w):PtIs w e.cells.toArray e.p e.q:=⟨e.a,e.b,rfl,h.1,h.2.1⟩
theorem SpE.Ok.ptIn {L:Nat}{w:World}{e:SpE}(h:e.Ok L w):PtIn L w e.cells.toArray e.p e.q:=⟨e.a,e.b,rfl,h.1.isIn h.2.2.1,h.2.1.isIn h.2.2.2⟩
theorem SpE.Ok.ext {L:Nat}{w w':World}{e:SpE}(h:e.Ok L w)(x:Ext w w'):e.Ok L w':=⟨h.1.ext x,h.2.1.ext x,h.2.2⟩
theorem SpE.Ok.map {L:Nat}{w w':World}{e:SpE}(h:e.Ok L w)(x:∀(r:RV) (q:Rat),r.Is w q->r.Is w' q):e.Ok L w':=⟨x _ _ h.1,x _ _ h.2.1,h.2.2⟩
theorem PtIs.sp {L:Nat}{w:World}{cs:Array Value}{p q:Rat}(h:PtIs w cs p q)(h1:Nm.rl p<=L)(h2:Nm.rl q<=L):∃e:SpE,cs=e.cells.toArray/\e.vl=(p,q)/\e.Ok L w:=by
  obtain⟨a,b,rfl,ha,hb⟩:=h;exact⟨⟨a,b,p,q⟩,rfl,rfl,ha,hb,h1,h2⟩
theorem spCells_length (es:List SpE):(spCells es).length=es.length*8:=flat_len SpE.len es
theorem spCells_snoc (es:List SpE)(e:SpE):spCells (es++[e])=spCells es++e.cells:=by simp[spCells]
def SpR (L:Nat)(w:World)(base:Nat)(v:Value)(es:List SpE):Prop:=RowN w base 94 8 v es.length (spCells es)/\∀e,e∈es->e.Ok L w
theorem SpR.ext {L:Nat}{w w':World}{base:Nat}{v:Value}{es:List SpE}(h:SpR L w base v es)(x:Ext w w'):SpR L w' base v es:=⟨h.1.ext x,fun e he=>(h.2 e he).ext x⟩
theorem SpR.form {L:Nat}{w:World}{base:Nat}{v:Value}{es:List SpE}(h:SpR L w base v es):
    (v= .slice none 0 0/\es=[])\/∃g cap rest,v= .slice (some ⟨g,0,none⟩) es.length cap/\base<=g/\Sw w w g 94 SpE.cells rest es/\es.length<=cap/\cap<=maxLen/\(spCells es).length+rest.length=cap*8/\NoUL rest:=by
  obtain⟨h1,⟨rfl,h2⟩|⟨g,cap,rest,rfl,hb,hg,h3,h4,h5,h6⟩⟩:=h.1
  · exact Or.inl ⟨rfl,List.eq_nil_of_length_eq_zero h2⟩
  exact Or.inr ⟨g,cap,rest,rfl,hb,Sw.refl hg,h3,h4,h5,h6.right⟩
def SpansV (L:Nat)(w:World)(v:Value)(ps:List (Rat×Rat)):Prop:=
  ∃(A:Option Addr) (cap:Nat),v= .slice A ps.length cap/\(0<ps.length->∃g off,A=some ⟨g,off,none⟩/\∀i p,ps[i]?=some p->∃cs:List Value,w.rangeAt g (off+i*8) cs/\PtIn L w cs.toArray p.1 p.2)
theorem SpansV.ext {L:Nat}{w w':World}{v:Value}{ps:List (Rat×Rat)}(h:SpansV L w v ps)(x:Ext w w'):SpansV L w' v ps:=by
  obtain⟨A,cap,h1,h2⟩:=h;refine⟨A,cap,h1,fun h0=> ?_⟩;obtain⟨g,off,h3,h4⟩:=h2 h0;refine⟨g,off,h3,fun i p hp=> ?_⟩;obtain⟨cs,h5,h6⟩:=h4 i p hp;exact⟨cs,fun j v hv=>x.get (h5 j v hv),h6.ext x⟩
theorem SpR.reads {L:Nat}{w:World}{base:Nat}{v:Value}{es:List SpE}(h:SpR L w base v es):SpansV L w v (es.map SpE.vl):=by
  rcases h.form with⟨rfl,rfl⟩|⟨g,cap,rest,rfl,_,hs,_⟩
  · exact⟨none,0,rfl,fun h0=>absurd h0 (by simp)⟩
  refine⟨some ⟨g,0,none⟩,cap,by rw[List.length_map],fun _=>⟨g,0,rfl,fun i p hp=> ?_⟩⟩;rw[List.getElem?_map]at hp;obtain⟨e,he,rfl⟩:=Option.map_eq_some_iff.1 hp;refine⟨e.cells,by rw[Nat.zero_add];exact hs.read he SpE.len,(h.2 e (List.mem_of_getElem? he)).ptIn⟩
end Go.Proofs.YtngikkggjidenabGreat
namespace Go.Proofs.YtngikkggjidenabGreat
open Go.RowKit
attribute [local go_sem ↓] Go.wp_at_zero Go.wp_at_succ run_max_ii run_min_ii
theorem mergeCmp_any (L:Nat)(ca cb:Array Value)(p q r s:Rat)(w:World)(ha:PtIn L w ca p q)(hb:PtIn L w cb r s)(hL:L<=70000):
  Calls Tryz.prog 108 #[.agg ca,.agg cb] w fun e w'=>e= .returned (.int .i64 (rcmp p r))/\Ext w w':=by
 have ZA:=ha.size;have ZB:=hb.size;have Fa:=zH ha;have Fb:=zH hb;clear ha hb;go_enter Tryz.func108,Tryz.ntmps108
 go_upto_region 1 with fail
 have hbx0:Blk ((w.alloc (.cells ca 94)).alloc (.cells cb 94)) (w.heap.size) 94 ca:=Blk.ext (Blk.new_at w _ (by simp) _ _) ((Ext.refl _).alloc _);have hbx1:Blk ((w.alloc (.cells ca 94)).alloc (.cells cb 94)) (w.heap.size+1) 94 cb:=Blk.ext (Blk.new_at (w.alloc (.cells ca 94)) _ (by simp) _ _) (Ext.refl _);have hE:Ext w ((w.alloc (.cells ca 94)).alloc (.cells cb 94)):=(((Ext.refl _).alloc _).alloc _);generalize ((w.alloc (.cells ca 94)).alloc (.cells cb 94))=wa at*
 generalize w.heap.size+1=bx1 at*
 have E1:Hid (Ext w wa):=hE;have Fbx0:=zH hbx0;have Fbx1:=zH hbx1;clear hE hbx0 hbx1;refine wp_region_lit ?_;refine pV (w':=wa) ?_;try simp only[Act.put,zA,zB,zC]
 refine pP 0 4 Fbx0.out Tryz.underlying33 (by rw[show(ca:Array Value).size=8 from ZA];omega) ?_;try simp only[Act.put,zA,zB,zC]
 refine pV (w':=wa) ?_;try simp only[Act.put,zA,zB,zC]
 refine pP 0 4 Fbx1.out Tryz.underlying33 (by rw[show(cb:Array Value).size=8 from ZB];omega) ?_;try simp only[Act.put,zA,zB,zC]
 refine mv_call (by rfl) (by go_simp) (pCmp (Fa.out.ext E1.out).c0 (Fb.out.ext E1.out).c0 hL) ?_;rintro e w2 ⟨rfl,hx⟩;have E2:Hid (Ext wa w2):=hx;clear hx;refine⟨_,rfl,?_⟩;try simp only[Act.put,zA,zB,zC]
 refine pV (w':=w2) ?_;try simp only[Act.put,zA,zB,zC]
 go_wp2_with fail
 go_ret
 exact⟨rfl,(tr E1 E2).out⟩
theorem NIn.own {L:Nat}{w w':World}{cs:Array Value}{q:Rat}(h:NIn L w cs q){g:Nat}{t:TypeId}{zs:Array Value}(hb:Blk w g t zs)(hn:NoU zs)(o:Own g w w'):NIn L w' cs q:=by
  obtain⟨a,h1,h2⟩:=h;exact⟨a,h1,h2.own hb hn o⟩
theorem inner_a (L:Nat)(ca cb:Array Value)(p q:Rat)(k:Int)(w:World)(ha:NIn L w ca p)(hb:NIn L w cb q)(hL:L<=60000)(hz:(rcmp p q=k)):
  Calls Tryz.prog 72 #[.agg ca,.agg cb,.int .i64 k] w fun e w'=>∃c,e= .returned (.agg c)/\NIn L w' c p/\Ext w w':=by
 have ZA:=ha.size;have ZB:=hb.size;have OA:=ha.one;have OB:=hb.one;have Fa:=zH ha;have Fb:=zH hb;clear ha hb;go_enter Tryz.func72,Tryz.ntmps72
 go_upto_region 1 with fail
 have hbx0:Blk (((w.alloc (.cells ca 33)).alloc (.cells cb 33)).alloc (.cells z4 33)) (w.heap.size) 33 ca:=Blk.ext (Blk.new_at w _ (by simp) _ _) (((Ext.refl _).alloc _).alloc _);have hbx1:Blk (((w.alloc (.cells ca 33)).alloc (.cells cb 33)).alloc (.cells z4 33)) (w.heap.size+1) 33 cb:=Blk.ext (Blk.new_at (w.alloc (.cells ca 33)) _ (by simp) _ _) ((Ext.refl _).alloc _);have hR0:Blk (((w.alloc (.cells ca 33)).alloc (.cells cb 33)).alloc (.cells z4 33)) (w.heap.size+1+1) 33 z4:=Blk.ext (Blk.new_at ((w.alloc (.cells ca 33)).alloc (.cells cb 33)) _ (by simp) _ _) (Ext.refl _);have hE:Ext w (((w.alloc (.cells ca 33)).alloc (.cells cb 33)).alloc (.cells z4 33)):=((((Ext.refl _).alloc _).alloc _).alloc _);have gR0:w.heap.size<=w.heap.size+1+1:=by omega
 have nbx0_R0:w.heap.size≠w.heap.size+1+1:=by omega
 have nbx1_R0:w.heap.size+1≠w.heap.size+1+1:=by omega
 generalize (((w.alloc (.cells ca 33)).alloc (.cells cb 33)).alloc (.cells z4 33))=wa at*
 generalize w.heap.size+1+1=R0 at*
 generalize w.heap.size+1=bx1 at*
 have E1:Hid (Ext w wa):=hE;have Fbx0:=zH hbx0;have Fbx1:=zH hbx1;have FR0:=zH hR0;clear hE hbx0 hbx1 hR0;refine wp_region_lit ?_;refine pL Fbx0.out Tryz.underlying33 (by rw[show(ca:Array Value).size=4 from ZA];kernel_rfl) ?_;try simp only[Act.put,zA,zB,zC]
 refine pL Fbx1.out Tryz.underlying33 (by rw[show(cb:Array Value).size=4 from ZB];kernel_rfl) ?_;try simp only[Act.put,zA,zB,zC]
 refine mv_call (by rfl) (by go_simp) (pCmp (Fa.out.ext E1.out) (Fb.out.ext E1.out) (by omega)) ?_;rintro e w2 ⟨rfl,hx⟩;have E2:Hid (Ext wa w2):=hx;clear hx;refine⟨_,rfl,?_⟩;try simp only[Act.put,zA,zB,zC]
 refine pV (w':=w2) ?_;try simp only[Act.put,zA,zB,zC]
 refine pV (w':=w2) ?_;try simp only[Act.put,zA,zB,zC]
 go_upto_region 2 with fail
 refine wp_region_lit ?_;refine pL (Fbx0.out.ext E2.out) Tryz.underlying33 (by rw[show(ca:Array Value).size=4 from ZA];kernel_rfl) ?_;try simp only[Act.put,zA,zB,zC]
 have o1:=Own.setCells w2 R0 ca;have kb1:=(FR0.out.ext E2.out);refine pO ca kb1 (Eq.trans ZA rfl) (by rw[show(ca:Array Value).size=4 from ZA];kernel_rfl) OA ?_
 (try simp only[Act.put])
 have kc1:=kb1.setCells ca (Eq.trans ZA rfl);go_wp2_with fail
 refine bodyPost_ret (v:= .agg ca) ?_ rfl ⟨_,rfl,((Fa.out.ext (tr E1 E2).out).own kb1 noUn o1),(o1.ext (tr E1 E2).out gR0)⟩;exact results_cell1 rfl rfl (kc1.loadVar rfl rfl (by rw[ZA];rfl))
theorem inner_b (L:Nat)(ca cb:Array Value)(p q:Rat)(k:Int)(w:World)(ha:NIn L w ca p)(hb:NIn L w cb q)(hL:L<=60000)(hz:¬(rcmp p q=k)):
  Calls Tryz.prog 72 #[.agg ca,.agg cb,.int .i64 k] w fun e w'=>∃c,e= .returned (.agg c)/\NIn L w' c q/\Ext w w':=by
 have ZA:=ha.size;have ZB:=hb.size;have OA:=ha.one;have OB:=hb.one;have Fa:=zH ha;have Fb:=zH hb;clear ha hb;go_enter Tryz.func72,Tryz.ntmps72
 go_upto_region 1 with fail
 have hbx0:Blk (((w.alloc (.cells ca 33)).alloc (.cells cb 33)).alloc (.cells z4 33)) (w.heap.size) 33 ca:=Blk.ext (Blk.new_at w _ (by simp) _ _) (((Ext.refl _).alloc _).alloc _);have hbx1:Blk (((w.alloc (.cells ca 33)).alloc (.cells cb 33)).alloc (.cells z4 33)) (w.heap.size+1) 33 cb:=Blk.ext (Blk.new_at (w.alloc (.cells ca 33)) _ (by simp) _ _) ((Ext.refl _).alloc _);have hR0:Blk (((w.alloc (.cells ca 33)).alloc (.cells cb 33)).alloc (.cells z4 33)) (w.heap.size+1+1) 33 z4:=Blk.ext (Blk.new_at ((w.alloc (.cells ca 33)).alloc (.cells cb 33)) _ (by simp) _ _) (Ext.refl _);have hE:Ext w (((w.alloc (.cells ca 33)).alloc (.cells cb 33)).alloc (.cells z4 33)):=((((Ext.refl _).alloc _).alloc _).alloc _);have gR0:w.heap.size<=w.heap.size+1+1:=by omega
 have nbx0_R0:w.heap.size≠w.heap.size+1+1:=by omega
 have nbx1_R0:w.heap.size+1≠w.heap.size+1+1:=by omega
 generalize (((w.alloc (.cells ca 33)).alloc (.cells cb 33)).alloc (.cells z4 33))=wa at*
 generalize w.heap.size+1+1=R0 at*
 generalize w.heap.size+1=bx1 at*
 have E1:Hid (Ext w wa):=hE;have Fbx0:=zH hbx0;have Fbx1:=zH hbx1;have FR0:=zH hR0;clear hE hbx0 hbx1 hR0;refine wp_region_lit ?_;refine pL Fbx0.out Tryz.underlying33 (by rw[show(ca:Array Value).size=4 from ZA];kernel_rfl) ?_;try simp only[Act.put,zA,zB,zC]
 refine pL Fbx1.out Tryz.underlying33 (by rw[show(cb:Array Value).size=4 from ZB];kernel_rfl) ?_;try simp only[Act.put,zA,zB,zC]
 refine mv_call (by rfl) (by go_simp) (pCmp (Fa.out.ext E1.out) (Fb.out.ext E1.out) (by omega)) ?_;rintro e w2 ⟨rfl,hx⟩;have E2:Hid (Ext wa w2):=hx;clear hx;refine⟨_,rfl,?_⟩;try simp only[Act.put,zA,zB,zC]
 refine pV (w':=w2) ?_;try simp only[Act.put,zA,zB,zC]
 refine pV (w':=w2) ?_;try simp only[Act.put,zA,zB,zC]
 go_upto_region 3 with fail
 refine wp_region_lit ?_;refine pL (Fbx1.out.ext E2.out) Tryz.underlying33 (by rw[show(cb:Array Value).size=4 from ZB];kernel_rfl) ?_;try simp only[Act.put,zA,zB,zC]
 have o1:=Own.setCells w2 R0 cb;have kb1:=(FR0.out.ext E2.out);refine pO cb kb1 (Eq.trans ZB rfl) (by rw[show(cb:Array Value).size=4 from ZB];kernel_rfl) OB ?_
 (try simp only[Act.put])
 have kc1:=kb1.setCells cb (Eq.trans ZB rfl);go_wp2_with fail
 refine bodyPost_ret (v:= .agg cb) ?_ rfl ⟨_,rfl,((Fb.out.ext (tr E1 E2).out).own kb1 noUn o1),(o1.ext (tr E1 E2).out gR0)⟩;exact results_cell1 rfl rfl (kc1.loadVar rfl rfl (by rw[ZB];rfl))
theorem rcmp_one {q r:Rat}:rcmp q r=1↔r<q:=by rw[<-rcmp_gt];unfold rcmp;rw[Int.sign_eq_one_iff_pos,Int.sign_pos_iff]
theorem rcmp_mone {q r:Rat}:rcmp q r= -1↔q<r:=by rw[<-rcmp_lt];unfold rcmp;rw[Int.sign_eq_neg_one_iff_neg,Int.sign_neg_iff]
theorem inner_low (L:Nat)(ca cb:Array Value)(p f:Rat)(w:World)(ha:NIn L w ca p)(hb:NIn L w cb f)(hL:L<=60000):
    Calls Tryz.prog 72 #[.agg ca,.agg cb,.int .i64 1] w fun e w'=>∃c,e= .returned (.agg c)/\NIn L w' c (if p<f then f else p)/\Ext w w':=by
  by_cases h:rcmp p f=1
  · have h2:=rcmp_one.1 h
    rw[if_neg (by grind)];exact inner_a L ca cb p f 1 w ha hb hL h
  have h2:¬f<p:=fun k=>h (rcmp_one.2 k)
  have e:(if p<f then f else p)=f:=by grind
  rw[e];exact inner_b L ca cb p f 1 w ha hb hL h
theorem inner_high (L:Nat)(ca cb:Array Value)(q t:Rat)(w:World)(ha:NIn L w ca q)(hb:NIn L w cb t)(hL:L<=60000):
    Calls Tryz.prog 72 #[.agg ca,.agg cb,.int .i64 (-1)] w fun e w'=>∃c,e= .returned (.agg c)/\NIn L w' c (if t<q then t else q)/\Ext w w':=by
  by_cases h:rcmp q t= -1
  · have h2:=rcmp_mone.1 h
    rw[if_neg (by grind)];exact inner_a L ca cb q t (-1) w ha hb hL h
  have h2:¬q<t:=fun k=>h (rcmp_mone.2 k)
  have e:(if t<q then t else q)=t:=by grind
  rw[e];exact inner_b L ca cb q t (-1) w ha hb hL h
end Go.Proofs.YtngikkggjidenabGreat
