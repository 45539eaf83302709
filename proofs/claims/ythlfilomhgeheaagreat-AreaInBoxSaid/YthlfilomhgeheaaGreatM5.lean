import Derived.Deep.Upon
import Derived.Deep.LoopGhost
import Derived.Deep.DeepCutAuto
import Derived.RangeFuncNested
import Derived.RangeFuncBound
import Derived.RangeFuncCalls
import Derived.RangeFuncLeaves
import Derived.Shelf.Abstract
import Derived.Shelf.RegionOpen
import Derived.OwnWalkIn
import Derived.TacticsInMore
import Derived.LoopNIn
import Derived.LoopIn
import Derived.Maps.AppendAt
import Derived.OrdersIn
import Derived.Test.YthlfilomhgeheaaGreatM4
set_option maxRecDepth 100000
set_option maxHeartbeats 4000000
namespace Go.Proofs.YthlfilomhgeheaaGreat
open Go.RowKit
open Go.Proofs.Tryz
section
open Go.RowKit Go.Deep
theorem Sa (w:World)(r:Option Nat):w.grownBy w r:=⟨rfl,rfl,rfl,Bp _,fun _ _ _=>rfl⟩
theorem Xx {P:Program}{w:World}{base:Nat}{t ty e:TypeId}{size bytes:Nat}(el:Xi P t e size bytes){v:Value}{n:Nat}{xs:List Value}(hown:Bh w base e size v n xs)
    (A:Option Addr)(k c:Nat)(news:List Value)(hl:news.length=k*size)(hA:0<k->∃ad,A=some ad/\∀j u,news[j]?=some u->w.cell? (ad.add j)=some u)(h1:∀u∈news,u.oneCell'=true)(hnu:Aq news)
    (h63:n+k<=maxLen)(hbytes:(n+k)*bytes<=140737488355328)(hbase:base<=w.heap.size):
    ∃ A' c' w',(Builtin.append_ #[t,t] ty #[v,.slice A k c]).run P w= .ok (.slice A' (n+k) c') w'/\Bh w' base e size (.slice A' (n+k) c') (n+k) (xs++news)/\w.grownBy w' v.ownBlock/\
      ∀g,(Value.slice A' (n+k) c').ownBlock=some g->v.ownBlock=some g\/w.heap.size<=g:=by
  obtain⟨ht,i,z,e1,e2,e3,e4,e5,e6,e7⟩:=el;by_cases hk:0<k
  · obtain⟨ad,rfl,A0⟩:=hA hk
    obtain⟨v',w',hr,q2,q3,q4,g,A1,rfl,hf⟩:=Km (P:=P) w base t ty e i z size bytes ht e1 e2 e3 e4 e5 e7 e6 v n xs hown ad k c news hl A0 h1 hnu hk h63 hbytes hbase
    exact ⟨_, _, w', hr, q2, q3, fun g' hg' => by obtain rfl:g=g':=by simpa[Value.ownBlock]using hg'
                                                  exact hf⟩
  obtain rfl:k=0:=ω;obtain rfl:news=[]:=uN (by simpa using hl);have hs:Src P i.size t (.slice A 0 c) 0 [] w:=by
    cases A with
    |none=>exact Src.ofNil w ht c
    |some ad=>exact Src.ofSlice w ht ad 0 c [] (by simp) (by simp) (by simp)
  obtain⟨A2,A3⟩:=hown;rcases A3 with⟨rfl,rfl⟩|⟨g,A1,rest,rfl,q1,q2,q3,q4,q5,q6⟩
  · refine⟨none,0,w,run_append_nothing w t t ty e i ht e1 none 0 0 (Bp _) _ hs,⟨by simpa using A2,.inl ⟨rfl,rfl⟩⟩,Sa _ _,fun g hg=> .inl hg⟩
  refine⟨some ⟨g,0,none⟩,A1,w,run_append_nothing w t t ty e i ht e1 (π g) n A1 q3 _ hs,⟨by simpa using A2,.inr ⟨g,A1,rest,rfl,q1,by simpa using q2,q3,q4,by simpa using q5,by simpa using q6⟩⟩,Sa _ _,fun g hg=> .inl hg⟩
section
variable {P:Program} {w0 w:World} {m:List Dk} {ix:Nat} {a:Act} {Q:Exit->Act->World->Prop}
theorem Og {rest:List Oper}{o:Oper}{ops:Array Oper}(hw:Region.wanted o (yielded ops a.tmps)=true)(s x:Operand)(t:TypeId)
  (ho:o.op= .call {callee:= .builtin .append,args:=#[s,x],argTypes:=#[t,t]}){e:TypeId}{size bytes:Nat}(el:Xi P t e size bytes){v:Value}{n:Nat}{xs:List Value}(hs:a.eval s=v)
  (hH:Hp w0 w m)(hi:m[ix]?=some (.row e size v n xs))(A:Option Addr)(k c:Nat)(news:List Value)(hx:a.eval x= .slice A k c)(hl:news.length=k*size)
  (hA:0<k->∃ad,A=some ad/\∀j u,news[j]?=some u->w.cell? (ad.add j)=some u)(h1:∀u∈news,u.oneCell'=true)(hnu:Aq news)
  (A0:n+k<=maxLen)(hbytes:(n+k)*bytes<=140737488355328)
  (h:∀A' c' w',Hp w0 w' (m.set ix (.row e size (.slice A' (n+k) c') (n+k) (xs++news)))->Af w w'->w.grownBy w' v.ownBlock->(∀g,(Value.slice A' (n+k) c').ownBlock=some g->v.ownBlock=some g\/w.heap.size<=g)->
   wpList P ops Q rest (a.put o.dst (.slice A' (n+k) c')) w'):wpList P ops Q (o::rest) a w:=by
 obtain⟨A',c',w',hr,h2,h3,h4⟩:=Xx (P:=P) (ty:=o.type) el (hH.row hi) A k c news hl hA h1 hnu A0 hbytes hH.ext.size;refine Bj hw ?_;unfold Oper.wp execOp;simp only[ho,resolve,invoke,builtin,Sem.run_bind,Sem.run_pure,Result.andThen_ok,List.map_toArray,List.map_cons,List.map_nil,hs,hx,hr];exact h A' c' w' (hH.turn hi (fun k hk=>hk) h3 h2 h4) (Af.grown (hH.row hi) h3) h3 h4
end
instance:Inhabited Bu:=⟨⟨⟨false,none,0,0,false,none,0,0⟩,⟨false,none,0,0,false,none,0,0⟩,0,0⟩⟩
theorem Dk.Holds.fr {b:Nat}{w w':World}{e:Dk}{G:Nat->Prop}(h:e.Holds b w)(x:Fr G w w')(hn:∀k,e.own=some k->¬G k):e.Holds b w':=by
 have hb:∀(g:Nat) (t:TypeId) (cs:Array Value),Ak w g t cs->¬G g->Ak w' g t cs:=by
  intro g t cs h1 h2;unfold Ak;rw[x.block g h1.lt h2];exact h1
 cases e with
 |blk g t cs=>exact⟨h.1,hb _ _ _ h.2.1 (hn g rfl),h.2.2⟩
 |row t size v n xs=>
  obtain⟨h1,h2|⟨g,A0,rest,rfl,a,h3,c⟩⟩:=h
  ·exact⟨h1,.inl h2⟩
  exact⟨h1,.inr ⟨g,A0,rest,rfl,a,hb _ _ _ h3 (hn g rfl),c⟩⟩
section
variable {w0 w w':World} {m:List Dk}
theorem Vn {e f:Dk}{i:Nat}{x:Dk}(h: [e,f][i]?=some x):(i=0/\x=e)\/(i=1/\x=f):=by
  match i,h with
  |0,h=>injection h with h;exact .inl ⟨rfl,h.symm⟩
  |1,h=>injection h with h;exact .inr ⟨rfl,h.symm⟩
  |k+2,h=>simp at h
theorem Hp.pick2 {ib ir:Nat}{e f:Dk}(h:Hp w0 w m)(hb:m[ib]?=some e)(hr:m[ir]?=some f)(hne:ib≠ir):Hp w0 w [e,f]:=by
  refine⟨h.ext,fun i x hx=> ?_,fun i j x y hx hy hij=> ?_⟩
  · rcases Vn hx with⟨_,rfl⟩|⟨_,rfl⟩
    · exact h.all _ _ hb
    exact h.all _ _ hr
  rcases Vn hx with⟨e1,rfl⟩|⟨e1,rfl⟩<;>rcases Vn hy with⟨e2,rfl⟩|⟨e2,rfl⟩
  · omega
  · exact h.apart _ _ _ _ hb hr hne
  · exact h.apart _ _ _ _ hr hb (Ne.symm hne)
  omega
theorem Hp.call2 {ib ir:Nat}{e f e' f':Dk}{G:Nat->Prop}(h:Hp w0 w m)(hb:m[ib]?=some e)(hr:m[ir]?=some f)(_hne:ib≠ir)(x:Fr G w w')(hG:∀k,G k->e.own=some k\/f.own=some k)(h2:Hp w0 w' [e',f'])
  (he:∀k,e'.own=some k->e.own=some k\/w.heap.size<=k)(hf:∀k,f'.own=some k->f.own=some k\/w.heap.size<=k):Hp w0 w' ((m.set ib e').set ir f'):=by
 have A7:ib<m.length:=(List.getElem?_eq_some_iff.1 hb).1;have A6:ir<m.length:=(List.getElem?_eq_some_iff.1 hr).1;have A0:∀(j:Nat) (y:Dk),((m.set ib e').set ir f')[j]?=some y->(j=ir/\y=f')\/(j=ib/\y=e')\/(j≠ir/\j≠ib/\m[j]?=some y):=by
  intro j y hj;rw[List.getElem?_set]at hj;by_cases h1:ir=j
  ·rw[if_pos h1,if_pos (by simpa using h1▸A6)]at hj
   injection hj with hj
   exact .inl ⟨h1.symm,hj.symm⟩
  rw[if_neg h1,List.getElem?_set]at hj;by_cases h3:ib=j
  ·rw[if_pos h3,if_pos ω]at hj
   injection hj with hj
   exact .inr (.inl ⟨h3.symm,hj.symm⟩)
  rw[if_neg h3]at hj;exact .inr (.inr ⟨fun q=>h1 q.symm,fun q=>h3 q.symm,hj⟩)
 have A5:∀(j:Nat) (y:Dk),j≠ir->j≠ib->m[j]?=some y->∀k,y.own=some k->¬G k:=by
  intro j y A4 A3 hy k hk hg;rcases hG k hg with h1|h1
  ·exact h.apart j ib y e hy hb A3 k hk h1
  exact h.apart j ir y f hy hr A4 k hk h1
 have A2:∀(j:Nat) (y:Dk),j≠ir->j≠ib->m[j]?=some y->∀k,y.own=some k->e'.own≠some k:=by
  intro j y A4 A3 hy k hk hq;rcases he k hq with h1|h1
  ·exact h.apart j ib y e hy hb A3 k hk h1
  have:=h.lt hy hk;omega
 have A1:∀(j:Nat) (y:Dk),j≠ir->j≠ib->m[j]?=some y->∀k,y.own=some k->f'.own≠some k:=by
  intro j y A4 A3 hy k hk hq;rcases hf k hq with h1|h1
  ·exact h.apart j ir y f hy hr A4 k hk h1
  have:=h.lt hy hk;omega
 refine⟨h2.ext,fun j y hj=> ?_,fun i j x y hi hj hij k hk=> ?_⟩
 ·rcases A0 j y hj with⟨_,rfl⟩|⟨_,rfl⟩|⟨h3,h4,h5⟩
  ·exact h2.all 1 _ rfl
  ·exact h2.all 0 _ rfl
  exact(h.all j y h5).fr x (A5 j y h3 h4 h5)
 rcases A0 i x hi with⟨e1,rfl⟩|⟨e1,rfl⟩|⟨a1,a2,a3⟩<;>rcases A0 j y hj with⟨e2,rfl⟩|⟨e2,rfl⟩|⟨b1,b2,b3⟩
 ·omega
 ·exact h2.apart 1 0 _ _ rfl rfl (by decide) k hk
 ·exact fun q=>A1 j y b1 b2 b3 k q hk
 ·exact h2.apart 0 1 _ _ rfl rfl (by decide) k hk
 ·omega
 ·exact fun q=>A2 j y b1 b2 b3 k q hk
 ·exact A1 i x a1 a2 a3 k hk
 ·exact A2 i x a1 a2 a3 k hk
 exact h.apart i j x y a3 b3 hij k hk
end
section
variable {P:Program} {w0 w:World} {m:List Dk} {ix:Nat} {a:Act} {Q:Exit->Act->World->Prop} {rest:List Oper} {op:Oper} {ops:Array Oper}
theorem Pc {α:Type}{f:α->List Value}(hw:Region.wanted op (yielded ops a.tmps)=true)(ty:TypeId)(x y:Operand)(ho:op.op= .store ty x y){g n cap size:Nat}{t:TypeId}{es:List α}(hH:Hp w0 w m)(hi:m[ix]?=some (.row t size (.slice (π g) n cap) n (es.flatMap f)))
  (hc:∀x,(f x).length=size)(k:Nat)(z:α)(hk:k<es.length)(vs:List Value)(hf:f z=vs)(o:Nat)(hko:o=k*size)(hx:a.eval x= .pointer (some ⟨g,o,none⟩))(hy:a.eval y= .agg vs.toArray)(hz:(P.info? ty).map (·.size)=some vs.length)(h1:∀v,v∈vs->v.oneCell'=true)(hn:Aq vs)
  (h:∀w',Hp w0 w' (m.set ix (.row t size (.slice (π g) n cap) n ((es.set k z).flatMap f)))->Af w w'->Aj g w w'->wpList P ops Q rest (a.put op.dst undef) w'):wpList P ops Q (op::rest) a w:=by
 subst hf;subst hko;refine jZ hw ty x y ho hH hi (k*size) (f z) hx hy ?_ hz h1 hn (fun w' h2 h3 h4=>h w' ?_ h3 h4)
 ·rw[Du hc,hc]
  calc k*size+size=(k+1)*size:=by rw[vI];omega
   _<=es.length*size:=uZ _ hk
 rw[Zf hc es k hk z]at h2;exact h2
theorem Rv {α:Type}{f:α->List Value}(hw:Region.wanted op (yielded ops a.tmps)=true)(ty:TypeId)(x y:Operand)(ho:op.op= .store ty x y){g n cap:Nat}{t:TypeId}{es:List α}(hH:Hp w0 w m)(hi:m[ix]?=some (.row t 1 (.slice (π g) n cap) n (es.flatMap f)))
  (hc:∀x,(f x).length=1)(k:Nat)(z:α)(hk:k<es.length)(v:Value)(hf:f z=[v])(o:Nat)(hko:o=k*1)(hx:a.eval x= .pointer (some ⟨g,o,none⟩))(hy:a.eval y=v)(hz:(P.info? ty).map (·.size)=some 1)(hcc:v.cells=#[v])(h1:v.oneCell'=true)(hn:Aq [v])
  (h:∀w',Hp w0 w' (m.set ix (.row t 1 (.slice (π g) n cap) n ((es.set k z).flatMap f)))->Af w w'->Aj g w w'->wpList P ops Q rest (a.put op.dst undef) w'):wpList P ops Q (op::rest) a w:=by
 subst hko;refine fT hw ty x y ho hH hi (k*1) v hx hy ?_ hz hcc h1 hn (fun w' h2 h3 h4=>h w' ?_ h3 h4)
 ·rw[Du hc]
  omega
 have h5:=Zf hc es k hk z;rw[hf]at h5;rw[<-h5];exact h2
end
theorem bL {P:Program}{ρ:Operand->Value}{o:Oper}{w:World}{A E:Int}{t:TypeId}{x:Operand}(ho:o.op= .unOp .neg t x)(hx:ρ x= iV A)(hE: -A=E)(h1: -9223372036854775808<=E)(h2:E<=9223372036854775807):(execOp ρ o).run P w= .ok (.value (iV E)) w:=by
  have hw:IntKind.i64.wrap E=E:=by rw[IntKind.wrap_i64];omega
  unfold execOp;simp only[ho,hx];simp[go_sem,hw,hE]
end
section
attribute [local go_sem ↓] Go.wp_at_zero Go.wp_at_succ Aw Av
def Cq (a b:Int×Int):Bool:=decide (a.2<b.2)||(decide (a.2=b.2)&&decide (a.1<b.1))
def dv (a b:Int×Int):Int×Int:=(b.1-a.1,b.2-a.2)
def cr (u v:Int×Int):Int:=u.1*v.2-u.2*v.1
abbrev Dv (p:Int×Int):Prop:=Co p.1 p.2=true
theorem Bd {p:Int×Int}(h:Dv p):(-1048576<=p.1/\p.1<=1048576)/\(-1048576<=p.2/\p.2<=1048576):=by simpa[Dv,Co]using h
theorem Mz {a b:Int}(h1: -2097152<=a/\a<=2097152)(h2: -2097152<=b/\b<=2097152): -4398046511104<=a*b/\a*b<=4398046511104:=by
  have h:(a*b).natAbs<=2097152*2097152:=by rw[Int.natAbs_mul];exact Nat.mul_le_mul ω (ω)
  omega
theorem Cj {a b:Int×Int}(ha:Dv a)(hb:Dv b):(-2097152<=(dv a b).1/\(dv a b).1<=2097152)/\(-2097152<=(dv a b).2/\(dv a b).2<=2097152):=by
  have h1:=Bd ha;have h2:=Bd hb;unfold dv;dsimp only
  omega
theorem Om {u v:Int×Int}(hu:(-2097152<=u.1/\u.1<=2097152)/\(-2097152<=u.2/\u.2<=2097152))(hv:(-2097152<=v.1/\v.1<=2097152)/\(-2097152<=v.2/\v.2<=2097152)): -8796093022208<=cr u v/\cr u v<=8796093022208:=by
  have h1:=Mz hu.1 hv.2;have h2:=Mz hu.2 hv.1;unfold cr;omega
theorem Ly (p:Int×Int)(w:World)(h:Dv p):Calls prog 44 #[.agg #[iV p.1,iV p.2]] w fun e w'=>e= .returned (.agg #[iV p.1,iV p.2])/\Aa w w':=by
  have A0:=Bd h;have c1:Gv p.1 (-1048576) 1048576=p.1:=by have h:=Ju p.1;rw[decide_eq_true A0.1]at h;simpa using h
  have c2:Gv p.2 (-1048576) 1048576=p.2:=by have h:=Ju p.2;rw[decide_eq_true A0.2]at h;simpa using h
  have k:=Oj p.1 p.2 w;rw[c1,c2]at k;exact k
theorem Eb {ρ:Operand->Value}{o:Oper}{w:World}{a b c d:Int}{bb:Bool}{t':TypeId}{x y:Operand}(ho:o.op= .binOp .eql 24 x y t')(hx:ρ x= .agg #[iV a,iV b])(hy:ρ y= .agg #[iV c,iV d])(h:(a==c&&b==d)=bb):
    (execOp ρ o).run prog w= .ok (.value (.bool bb)) w:=by
  subst h;unfold execOp;simp only[ho,hx,hy];simp[go_sem,Dy]
theorem Gh {a b:Int×Int}:(a.1==b.1&&a.2==b.2)=true↔a=b:=by
  rw[vC,beq_iff_eq,beq_iff_eq];exact⟨fun h=>Prod.ext h.1 h.2,fun h=>by rw[h];exact⟨rfl,rfl⟩⟩
def Cu (a b:Int×Int):Int×Int:=if Cq b a=true then b else a
def Cg (a b:Int×Int):Int×Int:=if Cq b a=true then a else b
def Gy (a b c d:Int×Int):Int×Int:=if Cq (Cu a b) (Cu c d)=true then Cu c d else Cu a b
def Jo (a b c d:Int×Int):Int×Int:=if Cq (Cg c d) (Cg a b)=true then Cg c d else Cg a b
def Ah (a b c d:Int×Int):(Int×Int)×Int:=if Cq (Jo a b c d) (Gy a b c d)=true then((0,0),0)else if Gy a b c d=Jo a b c d then(Gy a b c d,1)else((0,0),2)
theorem rX {a b:Int×Int}(ha:Dv a)(hb:Dv b):Dv (Cu a b):=by unfold Cu;split<;>assumption
theorem rY {a b:Int×Int}(ha:Dv a)(hb:Dv b):Dv (Cg a b):=by unfold Cg;split<;>assumption
theorem fR {a b c d:Int×Int}(ha:Dv a)(hb:Dv b)(hc:Dv c)(hd:Dv d):Dv (Gy a b c d):=by unfold Gy;split;exact rX hc hd;exact rX ha hb
theorem mW {a b c d:Int×Int}(ha:Dv a)(hb:Dv b)(hc:Dv c)(hd:Dv d):Dv (Jo a b c d):=by unfold Jo;split;exact rY hc hd;exact rY ha hb
theorem At {P:Program}{fn:Func}{i j k:Tmp}{t u:TypeId}(h:fn.results=#[.cell i t,.cell j u,.tmp k]){tmps:Array Value}{w:World}{p q:Addr}{v z x:Value}
    (hi:tmps.getD i undef= .pointer (some p))(hj:tmps.getD j undef= .pointer (some q))(h1:(Go.loadVar t p).run P w= .ok v w)(h2:(Go.loadVar u q).run P w= .ok z w)(hk:tmps.getD k undef=x):
    (results fn tmps).run P w= .ok (.tuple #[v,z,x]) w:=by
  simp only[Array.getD_eq_getD_getElem?]at hi hj hk;simp[results,h,hi,hj,hk,h1,h2,asAddr]
theorem Qy (p q:Int×Int)(w:World)(hp:Dv p)(hq:Dv q):
  Calls prog 106 #[.agg #[iV p.1,iV p.2],.agg #[iV q.1,iV q.2]] w fun e w'=>e= .returned (.agg #[iV (dv q p).1,iV (dv q p).2])/\Aa w w':=by
 have op:=Bd hp;have oq:=Bd hq;go_enter func106,ntmps106
 have H0:=zH (Hp.start w);go_upto_region 0 with fail;apply wl;apply Cl 24 [iV p.1,iV p.2] H0.1;intro X1 w2 H3 _;apply Cl 24 [iV q.1,iV q.2] H3.1;intro X6 w7 H8 _;apply Cl 24 [iV 0,iV 0] H8.1;intro A1 A9 A0 _;go_upto_region 1 with fail;refine wp_region_held_drew (S:=fun x=>(fun x_=>Hp w x_ [.blk X1 24 [iV p.1,iV p.2],.blk X6 24 [iV q.1,iV q.2],.blk A1 24 [iV 0,iV 0]]) x) kR (A0.1.step zb) (fun _=> ?_);have B5:=zH (A0.1.step (Aa.refl A9).drew);refine mR 0 (bs 6 1) X1 (0) [iV p.1,iV p.2] (fun x hx=>hx.range (i:=0) rR 0 2) underlying24 (A0.1.step zb) ?_;refine zr 2 (bs 6 5) X6 (0) [iV q.1,iV q.2] (fun x hx=>hx.range (i:=1) rR 0 2) underlying24 (A0.1.step zb) ?_;refine mC 1 (bs 6 7) (Ly p _ hp) ?_;rintro e A8 ⟨rfl,hx⟩;have B4:=zH (B5.1.step hx);have A3:=zH (show(fun x_=>Hp w x_ [.blk X1 24 [iV p.1,iV p.2],.blk X6 24 [iV q.1,iV q.2],.blk A1 24 [iV 0,iV 0]]) A8 from(A0.1.step zb).step hx);clear hx;refine⟨_,rfl,A3.1,?_⟩;try simp only[ζ]
 refine mC 3 (bs 6 15) (Ly q _ hq) ?_;rintro e B7 ⟨rfl,hx⟩;have B3:=zH (B4.1.step hx);have B2:=zH (A3.1.step hx);clear hx;refine⟨_,rfl,B2.1,?_⟩;try simp only[ζ]
 refine Dz (i:=4) (listed':=(bs 6 31)) rR kR rR kR _ _ _ rR B3.1 (ix:=0) rR 0 [iV p.1,iV p.2] rR rR (by simp) kR (by simp[Value.oneCell']) (by simp[Aq]) ?_;intro A7 hh hd ho;have A5:=hN hh;have B1:=zH (show(fun x_=>Hp w x_ [.blk X1 24 [iV p.1,iV p.2],.blk X6 24 [iV q.1,iV q.2],.blk A1 24 [iV 0,iV 0]]) A7 from A5.1);clear hh hd ho;refine⟨B1.1,?_⟩
 (try simp only[Act.put])
 refine Dz (i:=5) (listed':=(bs 6 63)) rR kR rR kR _ _ _ rR A5.1 (ix:=1) rR 0 [iV q.1,iV q.2] rR rR (by simp) kR (by simp[Value.oneCell']) (by simp[Aq]) ?_;intro A6 hh hd ho;have A2:=hN hh;have B0:=zH (show(fun x_=>Hp w x_ [.blk X1 24 [iV p.1,iV p.2],.blk X6 24 [iV q.1,iV q.2],.blk A1 24 [iV 0,iV 0]]) A6 from A2.1);clear hh hd ho;refine⟨B0.1,?_⟩
 (try simp only[Act.put])
 refine wpAnyH_done kR ?_ _;go_upto_region 2 with fail;apply wl;refine Fp A2.1 _ _ _ _ ?_;apply zp (iV (p.1-q.1)) (by exact Nj ω);refine Fp A2.1 _ _ _ _ ?_;apply zp (iV (p.2-q.2)) (by exact Nj ω);apply zq (.agg #[iV (p.1-q.1),iV (p.2-q.2)]);apply Ck 2 [iV (p.1-q.1),iV (p.2-q.2)] A2.1;intro B6 A4 _;go_wp2_with fail;refine bodyPost_ret (v:= .agg #[iV (dv q p).1,iV (dv q p).2]) ?_ rfl ⟨rfl,A4.1.ext⟩;exact By rfl rfl ((A4.1.blk (i:=2) rR).loadVar rfl rfl rR)
theorem Hz (p q:Int×Int)(w:World)(hp:Dv p)(hq:Dv q):
  Calls prog 149 #[.agg #[iV p.1,iV p.2],.agg #[iV q.1,iV q.2]] w fun e w'=>e= .returned (.bool (Cq p q))/\Aa w w':=by
 have op:=Bd hp;have oq:=Bd hq;go_enter func149,ntmps149
 have H0:=zH (Hp.start w);go_upto_region 0 with fail;apply wl;apply Cl 24 [iV p.1,iV p.2] H0.1;intro A2 B8 B6 _;apply Cl 24 [iV q.1,iV q.2] B6.1;intro A1 A9 A3 _;apply zq φ;go_upto_region 1 with fail;refine wp_region_held_drew (S:=fun x=>(fun x_=>Hp w x_ [.blk A2 24 [iV p.1,iV p.2],.blk A1 24 [iV q.1,iV q.2]]) x) kR (A3.1.step zb) (fun _=> ?_);have B5:=zH (A3.1.step (Aa.refl A9).drew);refine mR 0 (bs 6 1) A2 (0) [iV p.1,iV p.2] (fun x hx=>hx.range (i:=0) rR 0 2) underlying24 (A3.1.step zb) ?_;refine zr 2 (bs 6 5) A1 (0) [iV q.1,iV q.2] (fun x hx=>hx.range (i:=1) rR 0 2) underlying24 (A3.1.step zb) ?_;refine mC 1 (bs 6 7) (Ly p _ hp) ?_;rintro e A8 ⟨rfl,hx⟩;have B4:=zH (B5.1.step hx);have A4:=zH (show(fun x_=>Hp w x_ [.blk A2 24 [iV p.1,iV p.2],.blk A1 24 [iV q.1,iV q.2]]) A8 from(A3.1.step zb).step hx);clear hx;refine⟨_,rfl,A4.1,?_⟩;try simp only[ζ]
 refine mC 3 (bs 6 15) (Ly q _ hq) ?_;rintro e B7 ⟨rfl,hx⟩;have B3:=zH (B4.1.step hx);have B2:=zH (A4.1.step hx);clear hx;refine⟨_,rfl,B2.1,?_⟩;try simp only[ζ]
 refine Dz (i:=4) (listed':=(bs 6 31)) rR kR rR kR _ _ _ rR B3.1 (ix:=0) rR 0 [iV p.1,iV p.2] rR rR (by simp) kR (by simp[Value.oneCell']) (by simp[Aq]) ?_;intro A7 hh hd ho;have A5:=hN hh;have B1:=zH (show(fun x_=>Hp w x_ [.blk A2 24 [iV p.1,iV p.2],.blk A1 24 [iV q.1,iV q.2]]) A7 from A5.1);clear hh hd ho;refine⟨B1.1,?_⟩
 (try simp only[Act.put])
 refine Dz (i:=5) (listed':=(bs 6 63)) rR kR rR kR _ _ _ rR A5.1 (ix:=1) rR 0 [iV q.1,iV q.2] rR rR (by simp) kR (by simp[Value.oneCell']) (by simp[Aq]) ?_;intro A6 hh hd ho;have A0:=hN hh;have B0:=zH (show(fun x_=>Hp w x_ [.blk A2 24 [iV p.1,iV p.2],.blk A1 24 [iV q.1,iV q.2]]) A6 from A0.1);clear hh hd ho;refine⟨B0.1,?_⟩
 (try simp only[Act.put])
 refine wpAnyH_done kR ?_ _;rcases Cm (p.2<q.2)with C1|C1
 ·go_upto_region 2 with fail
  apply wl;refine Fp A0.1 _ _ _ _ ?_;apply zp τ (by exact Dw (e:=(Ay C1.1)));refine Jm Ai τ _ _ _ _ _ _ _ ?_;refine eF Ai _ _ _ _ _ τ τ ?_;go_wp2_with fail;go_ret;exact⟨by rw[show Cq p q=true from by unfold Cq;simp[C1.1]];rfl,A0.1.ext⟩
 rcases Cm (p.2=q.2)with C2|C2
 ·rcases Cm (p.1<q.1)with C3|C3
  ·go_upto_region 2 with fail
   apply wl;refine Fp A0.1 _ _ _ _ ?_;apply zp φ (by exact Dw (e:=(Al C1.1)));refine Ql A0.1 φ _ _ _ _ ?_;apply zp τ (by exact Li (e:=(Ay C2.1)));refine Ql A0.1 τ _ _ _ _ ?_;apply zp τ (by exact Dw (e:=(Ay C3.1)));refine Dh Ai τ τ τ ?_;go_wp2_with fail;go_ret;exact⟨by rw[show Cq p q=true from by unfold Cq;simp[C2.1,C3.1]];rfl,A0.1.ext⟩
  go_upto_region 2 with fail;apply wl;refine Fp A0.1 _ _ _ _ ?_;apply zp φ (by exact Dw (e:=(Al C1.1)));refine Ql A0.1 φ _ _ _ _ ?_;apply zp τ (by exact Li (e:=(Ay C2.1)));refine Ql A0.1 τ _ _ _ _ ?_;apply zp φ (by exact Dw (e:=(Al C3.1)));refine Dh Ai φ φ φ ?_;go_wp2_with fail;go_ret;exact⟨by rw[show Cq p q=false from by unfold Cq;simp[C2.1,C3.1]];rfl,A0.1.ext⟩
 go_upto_region 2 with fail;apply wl;refine Fp A0.1 _ _ _ _ ?_;apply zp φ (by exact Dw (e:=(Al C1.1)));refine Ql A0.1 φ _ _ _ _ ?_;apply zp φ (by exact Li (e:=(Al C2.1)));refine Jm Ai φ _ _ _ _ _ φ φ ?_;apply zq φ;go_wp2_with fail;go_ret;exact⟨by rw[show Cq p q=false from by unfold Cq;simp[C1.1,C2.1]];rfl,A0.1.ext⟩
theorem Ge (u v:Int×Int)(w:World)(hu:(-2097152<=u.1/\u.1<=2097152)/\(-2097152<=u.2/\u.2<=2097152))(hv:(-2097152<=v.1/\v.1<=2097152)/\(-2097152<=v.2/\v.2<=2097152)):
  Calls prog 107 #[.agg #[iV u.1,iV u.2],.agg #[iV v.1,iV v.2]] w fun e w'=>e= .returned (iV (cr u v))/\Aa w w':=by
 have m1:=Mz hu.1 hv.2;have m2:=Mz hu.2 hv.1;go_enter func107,ntmps107
 have H0:=zH (Hp.start w);go_upto_region 0 with fail;apply wl;apply Cl 24 [iV u.1,iV u.2] H0.1;intro A5 A3 A1 _;apply Cl 24 [iV v.1,iV v.2] A1.1;intro A4 A2 A0 _;apply zq (iV 0);go_upto_region 1 with fail;apply wl;refine Fp A0.1 _ _ _ _ ?_;apply zp (iV (u.1*v.2)) (by exact oF ω);refine Fp A0.1 _ _ _ _ ?_;apply zp (iV (u.2*v.1)) (by exact oF ω);apply zp (iV ((u.1*v.2)-(u.2*v.1))) (by exact Nj ω);apply zq (iV ((u.1*v.2)-(u.2*v.1)));go_wp2_with fail;go_ret;exact⟨rfl,A0.1.ext⟩
theorem Zj (a b:Int×Int)(w:World)(ha:Dv a)(hb:Dv b):
  Calls prog 148 #[.agg #[iV a.1,iV a.2],.agg #[iV b.1,iV b.2]] w fun e w'=>e= .returned (.tuple #[.agg #[iV (Cu a b).1,iV (Cu a b).2],.agg #[iV (Cg a b).1,iV (Cg a b).2]])/\Aa w w':=by
 go_enter func148,ntmps148;have H0:=zH (Hp.start w);go_upto_region 0 with fail;apply wl;apply Cl 24 [iV a.1,iV a.2] H0.1;intro A7 C9 C3 _;apply Cl 24 [iV b.1,iV b.2] C3.1;intro A6 C8 C2 _;apply Cl 24 [iV 0,iV 0] C2.1;intro A5 C7 C1 _;apply Cl 24 [iV 0,iV 0] C1.1;intro A4 C6 A8 _;rcases Cm (Cq b a=true)with CL|CL
 ·go_upto_region 1 with fail
  apply wl;refine Bw A8.1 _ _ ?_;refine zc (Hz b a _ hb ha) ?_;rintro e A3 ⟨rfl,hx⟩;have A1:=zH (A8.1.step hx);clear hx;refine⟨.bool true,by rw[CL.1],?_⟩;try simp only[ζ]
  go_upto_region 2 with fail;refine wp_region_held_drew (S:=fun x=>Fr (fun kz=>kz=A5\/kz=A4) A3 x) kR (Fr.of_ext zb) (fun _=> ?_);have C0:=zH (A1.1.step (Aa.refl A3).drew);refine mR 0 (bs 4 1) A6 (0) [iV b.1,iV b.2] (fun x hx=>Fr.range hx (show World.rangeAt A3 A6 (0) [iV b.1,iV b.2]from(A1.1.range (i:=1) rR 0 2)) (fun hk=>hk.elim (A1.1.offBlk (i:=1) (j:=2) rR rR dC rR) (A1.1.offBlk (i:=1) (j:=3) rR rR dC rR))) underlying24 (Fr.of_ext zb) ?_;refine zr 1 (bs 4 3) A7 (0) [iV a.1,iV a.2] (fun x hx=>Fr.range hx (show World.rangeAt A3 A7 (0) [iV a.1,iV a.2]from(A1.1.range (i:=0) rR 0 2)) (fun hk=>hk.elim (A1.1.offBlk (i:=0) (j:=2) rR rR dC rR) (A1.1.offBlk (i:=0) (j:=3) rR rR dC rR))) underlying24 (Fr.of_ext zb) ?_;refine Dz (i:=2) (listed':=(bs 4 7)) rR kR rR kR _ _ _ rR C0.1 (ix:=2) rR 0 [iV b.1,iV b.2] rR rR (by simp) kR (by simp[Value.oneCell']) (by simp[Aq]) ?_;intro B4 hh hd ho;have B9:=hN hh;have B2:=zH (show Fr (fun kz=>kz=A5\/kz=A4) A3 B4 from Fr.trans_new (Fr.of_ext zb) ho (fun j hj=> .inl (.inl (by injection hj with hj;exact hj.symm))));clear hh hd ho;refine⟨B2.1,?_⟩
  (try simp only[Act.put])
  refine Dz (i:=3) (listed':=(bs 4 15)) rR kR rR kR _ _ _ rR B9.1 (ix:=3) rR 0 [iV a.1,iV a.2] rR rR (by simp) kR (by simp[Value.oneCell']) (by simp[Aq]) ?_;intro C5 hh hd ho;have B0:=hN hh;have B6:=zH (Fr.trans_new B2.1 ho (fun j hj=> .inl (.inr (by injection hj with hj;exact hj.symm))));clear hh hd ho;refine⟨B6.1,?_⟩
  (try simp only[Act.put])
  refine wpAnyH_done kR ?_ _;go_wp2_with fail;refine bodyPost_ret (v:= .tuple #[.agg #[iV b.1,iV b.2],.agg #[iV a.1,iV a.2]]) ?_ rfl ⟨by unfold Cu Cg;rw[if_pos CL.1,if_pos CL.1],B0.1.ext⟩;exact Ml rfl rfl rfl ((B0.1.blk (i:=2) rR).loadVar rfl rfl rR) ((B0.1.blk (i:=3) rR).loadVar rfl rfl rR)
 go_upto_region 1 with fail;apply wl;refine Bw A8.1 _ _ ?_;refine zc (Hz b a _ hb ha) ?_;rintro e A2 ⟨rfl,hx⟩;have A0:=zH (A8.1.step hx);clear hx;refine⟨.bool false,by rw[Bool.eq_false_iff.2 CL.1],?_⟩;try simp only[ζ]
 go_upto_region 3 with fail;refine wp_region_held_drew (S:=fun x=>Fr (fun kz=>kz=A5\/kz=A4) A2 x) kR (Fr.of_ext zb) (fun _=> ?_);have B8:=zH (A0.1.step (Aa.refl A2).drew);refine mR 0 (bs 4 1) A7 (0) [iV a.1,iV a.2] (fun x hx=>Fr.range hx (show World.rangeAt A2 A7 (0) [iV a.1,iV a.2]from(A0.1.range (i:=0) rR 0 2)) (fun hk=>hk.elim (A0.1.offBlk (i:=0) (j:=2) rR rR dC rR) (A0.1.offBlk (i:=0) (j:=3) rR rR dC rR))) underlying24 (Fr.of_ext zb) ?_;refine zr 1 (bs 4 3) A6 (0) [iV b.1,iV b.2] (fun x hx=>Fr.range hx (show World.rangeAt A2 A6 (0) [iV b.1,iV b.2]from(A0.1.range (i:=1) rR 0 2)) (fun hk=>hk.elim (A0.1.offBlk (i:=1) (j:=2) rR rR dC rR) (A0.1.offBlk (i:=1) (j:=3) rR rR dC rR))) underlying24 (Fr.of_ext zb) ?_;refine Dz (i:=2) (listed':=(bs 4 7)) rR kR rR kR _ _ _ rR B8.1 (ix:=2) rR 0 [iV a.1,iV a.2] rR rR (by simp) kR (by simp[Value.oneCell']) (by simp[Aq]) ?_;intro B3 hh hd ho;have B7:=hN hh;have B1:=zH (show Fr (fun kz=>kz=A5\/kz=A4) A2 B3 from Fr.trans_new (Fr.of_ext zb) ho (fun j hj=> .inl (.inl (by injection hj with hj;exact hj.symm))));clear hh hd ho;refine⟨B1.1,?_⟩
 (try simp only[Act.put])
 refine Dz (i:=3) (listed':=(bs 4 15)) rR kR rR kR _ _ _ rR B7.1 (ix:=3) rR 0 [iV b.1,iV b.2] rR rR (by simp) kR (by simp[Value.oneCell']) (by simp[Aq]) ?_;intro C4 hh hd ho;have A9:=hN hh;have B5:=zH (Fr.trans_new B1.1 ho (fun j hj=> .inl (.inr (by injection hj with hj;exact hj.symm))));clear hh hd ho;refine⟨B5.1,?_⟩
 (try simp only[Act.put])
 refine wpAnyH_done kR ?_ _;go_wp2_with fail;refine bodyPost_ret (v:= .tuple #[.agg #[iV a.1,iV a.2],.agg #[iV b.1,iV b.2]]) ?_ rfl ⟨by unfold Cu Cg;rw[if_neg CL.1,if_neg CL.1],A9.1.ext⟩;exact Ml rfl rfl rfl ((A9.1.blk (i:=2) rR).loadVar rfl rfl rR) ((A9.1.blk (i:=3) rR).loadVar rfl rfl rR)
theorem Rf (a b c d:Int×Int)(w:World)(ha:Dv a)(hb:Dv b)(hc:Dv c)(hd:Dv d):
  Calls prog 108 #[.agg #[iV a.1,iV a.2],.agg #[iV b.1,iV b.2],.agg #[iV c.1,iV c.2],.agg #[iV d.1,iV d.2]] w fun e w'=>e= .returned (.tuple #[.agg #[iV (Ah a b c d).1.1,iV (Ah a b c d).1.2],iV (Ah a b c d).2])/\Aa w w':=by
 go_enter func108,ntmps108;have H0:=zH (Hp.start w);go_upto_region 0 with fail;apply wl;apply Cl 24 [iV a.1,iV a.2] H0.1;intro X1 w2 H3 _;apply Cl 24 [iV b.1,iV b.2] H3.1;intro X6 w7 H8 _;apply Cl 24 [iV c.1,iV c.2] H8.1;intro A9 E8 C8 _;apply Cl 24 [iV d.1,iV d.2] C8.1;intro A4 E7 C7 _;apply Cl 24 [iV 0,iV 0] C7.1;intro A8 E6 B5 _;apply zq (iV 0);go_upto_region 1 with fail;apply wl;refine Bw B5.1 _ _ ?_;refine aC B5.1 (Zj a b _ ha hb) ?_;intro E5 C6 _;refine Dh Ai _ _ _ ?_;apply Ck 0 [iV ((Cu a b).1),iV ((Cu a b).2)] C6.1;intro E4 C5 _;apply Ck 1 [iV ((Cg a b).1),iV ((Cg a b).2)] C5.1;intro E3 B4 _;go_upto_region 2 with fail;apply wl;refine Bw B4.1 _ _ ?_;refine aC B4.1 (Zj c d _ hc hd) ?_;intro E2 C2 _;refine Dh Ai _ _ _ ?_;apply Ck 2 [iV ((Cu c d).1),iV ((Cu c d).2)] C2.1;intro E1 C1 _;apply Ck 3 [iV ((Cg c d).1),iV ((Cg c d).2)] C1.1;intro E0 B3 _;go_upto_region 3 with fail;apply wl;refine Bw B3.1 _ _ ?_;refine aC B3.1 (Hz (Cu a b) (Cu c d) _ (rX ha hb) (rX hc hd)) ?_;intro B7 A7 _;go_upto_if 24 with fail
 go_cut [] (fun wx=>Hp w wx [.blk X1 24 [iV ((Gy a b c d).1),iV ((Gy a b c d).2)],.blk X6 24 [iV ((Cg a b).1),iV ((Cg a b).2)],.blk A9 24 [iV ((Cu c d).1),iV ((Cu c d).2)],.blk A4 24 [iV ((Cg c d).1),iV ((Cg c d).2)],.blk A8 24 [iV 0,iV 0]]/\Af B7 wx)
 case first=>
  by_cases cj:Cq (Cu a b) (Cu c d)=true
  ·rw[cj]
   go_upto_region 4 with fail;apply wl;refine Ds A7.1 _ ?_;apply Ck 0 [iV ((Cu c d).1),iV ((Cu c d).2)] A7.1;intro D9 C0 D0;go_wp2_with fail;go_meet
   exact⟨(by rw[show Gy a b c d=Cu c d from if_pos cj];exact C0.1),D0.1⟩
  rw[Bool.eq_false_iff.2 cj];go_wp2_with fail;go_meet
  exact⟨(by rw[show Gy a b c d=Cu a b from if_neg cj];exact A7.1),(Af.refl _)⟩
 obtain⟨A2,A3⟩:=hcut;generalize wc=D8 at*;have A6:=zH A2;have F0:=zH A3;clear A2 A3;go_upto_region 5 with fail
 apply wl;refine zd A4 (0) [iV ((Cg c d).1),iV ((Cg c d).2)] (A6.1.range (i:=3) rR 0 2) underlying24 ?_;refine zd X6 (0) [iV ((Cg a b).1),iV ((Cg a b).2)] (A6.1.range (i:=1) rR 0 2) underlying24 ?_;refine aC A6.1 (Hz (Cg c d) (Cg a b) _ (rY hc hd) (rY ha hb)) ?_;intro B6 A5 _;go_upto_if 28 with fail
 go_cut [] (fun wx=>Hp w wx [.blk X1 24 [iV ((Gy a b c d).1),iV ((Gy a b c d).2)],.blk X6 24 [iV ((Jo a b c d).1),iV ((Jo a b c d).2)],.blk A9 24 [iV ((Cu c d).1),iV ((Cu c d).2)],.blk A4 24 [iV ((Cg c d).1),iV ((Cg c d).2)],.blk A8 24 [iV 0,iV 0]]/\Af B6 wx)
 case first=>
  by_cases cj:Cq (Cg c d) (Cg a b)=true
  ·rw[cj]
   go_upto_region 6 with fail;apply wl;refine zd A4 (0) [iV ((Cg c d).1),iV ((Cg c d).2)] (A5.1.range (i:=3) rR 0 2) underlying24 ?_;apply Ck 1 [iV ((Cg c d).1),iV ((Cg c d).2)] A5.1;intro D7 B9 C9;go_wp2_with fail;go_meet
   exact⟨(by rw[show Jo a b c d=Cg c d from if_pos cj];exact B9.1),C9.1⟩
  rw[Bool.eq_false_iff.2 cj];go_wp2_with fail;go_meet
  exact⟨(by rw[show Jo a b c d=Cg a b from if_neg cj];exact A5.1),(Af.refl _)⟩
 obtain⟨A2,A3⟩:=hcut;generalize wc=D6 at*;have A1:=zH A2;have E9:=zH A3;clear A2 A3;rcases Cm (Cq (Jo a b c d) (Gy a b c d)=true)with C3|C3
 ·go_upto_region 7 with fail
  apply wl;refine zd X6 (0) [iV ((Jo a b c d).1),iV ((Jo a b c d).2)] (A1.1.range (i:=1) rR 0 2) underlying24 ?_;refine zd X1 (0) [iV ((Gy a b c d).1),iV ((Gy a b c d).2)] (A1.1.range (i:=0) rR 0 2) underlying24 ?_;refine zc (Hz (Jo a b c d) (Gy a b c d) _ (mW ha hb hc hd) (fR ha hb hc hd)) ?_;rintro e D5 ⟨rfl,hx⟩;have B8:=zH (A1.1.step hx);clear hx;refine⟨.bool true,by rw[C3.1],?_⟩;try simp only[ζ]
  apply zq τ;go_upto_region 8 with fail;apply wl;refine Ds Ai _ ?_;apply Ck 4 [iV 0,iV 0] B8.1;intro D4 B2 _;apply zq (iV 0);go_wp2_with fail;refine bodyPost_ret (v:= .tuple #[.agg #[iV 0,iV 0],iV 0]) ?_ rfl ⟨by rw[show Ah a b c d=((0,0),0)from by unfold Ah;exact if_pos C3.1],B2.1.ext⟩;exact An rfl rfl ((B2.1.blk (i:=4) rR).loadVar rfl rfl rR) rfl
 go_upto_region 7 with fail;apply wl;refine zd X6 (0) [iV ((Jo a b c d).1),iV ((Jo a b c d).2)] (A1.1.range (i:=1) rR 0 2) underlying24 ?_;refine zd X1 (0) [iV ((Gy a b c d).1),iV ((Gy a b c d).2)] (A1.1.range (i:=0) rR 0 2) underlying24 ?_;refine zc (Hz (Jo a b c d) (Gy a b c d) _ (mW ha hb hc hd) (fR ha hb hc hd)) ?_;rintro e D3 ⟨rfl,hx⟩;have A0:=zH (A1.1.step hx);clear hx;refine⟨.bool false,by rw[Bool.eq_false_iff.2 C3.1],?_⟩;try simp only[ζ]
 apply zq φ;rcases Cm (Gy a b c d=Jo a b c d)with C4|C4
 ·go_upto_region 9 with fail
  apply wl;refine zd X1 (0) [iV ((Gy a b c d).1),iV ((Gy a b c d).2)] (A0.1.range (i:=0) rR 0 2) underlying24 ?_;refine zd X6 (0) [iV ((Jo a b c d).1),iV ((Jo a b c d).2)] (A0.1.range (i:=1) rR 0 2) underlying24 ?_;apply zp τ (by exact Eb rR rR rR (Gh.2 C4.1));apply zq τ;go_upto_region 10 with fail;apply wl;refine zd X1 (0) [iV ((Gy a b c d).1),iV ((Gy a b c d).2)] (A0.1.range (i:=0) rR 0 2) underlying24 ?_;apply Ck 4 [iV ((Gy a b c d).1),iV ((Gy a b c d).2)] A0.1;intro D2 B1 _;apply zq (iV 1);go_wp2_with fail;refine bodyPost_ret (v:= .tuple #[.agg #[iV (Gy a b c d).1,iV (Gy a b c d).2],iV 1]) ?_ rfl ⟨by rw[show Ah a b c d=(Gy a b c d,1)from by unfold Ah;rw[if_neg C3.1];exact if_pos C4.1],B1.1.ext⟩;exact An rfl rfl ((B1.1.blk (i:=4) rR).loadVar rfl rfl rR) rfl
 go_upto_region 9 with fail;apply wl;refine zd X1 (0) [iV ((Gy a b c d).1),iV ((Gy a b c d).2)] (A0.1.range (i:=0) rR 0 2) underlying24 ?_;refine zd X6 (0) [iV ((Jo a b c d).1),iV ((Jo a b c d).2)] (A0.1.range (i:=1) rR 0 2) underlying24 ?_;apply zp φ (by exact Eb rR rR rR (Bool.eq_false_iff.2 (fun h_=>C4.1 (Gh.1 h_))));apply zq φ;go_upto_region 11 with fail;apply wl;refine Ds Ai _ ?_;apply Ck 4 [iV 0,iV 0] A0.1;intro D1 B0 _;apply zq (iV 2);go_wp2_with fail;refine bodyPost_ret (v:= .tuple #[.agg #[iV 0,iV 0],iV 2]) ?_ rfl ⟨by rw[show Ah a b c d=((0,0),2)from by unfold Ah;rw[if_neg C3.1];exact if_neg C4.1],B0.1.ext⟩;exact An rfl rfl ((B0.1.blk (i:=4) rR).loadVar rfl rfl rR) rfl
theorem Kz (a b:Int)(w:World)(h1: -9223372036854775808<=a)(h2:a<=9223372036854775807)(h3: -9223372036854775808<=b)(h4:b<=9223372036854775807)(hb:b≠0):
    Calls prog 17 #[iV a,iV b] w fun e w'=>∃c,e= .returned (.tuple #[.agg c,iV 0])/\Nk w' c ((a:Rat)/(b:Rat))/\Aa w w':=by
  refine(Ky a b w h1 h2 h3 h4 hb).mono fun e w' h=> ?_
  obtain⟨c,rfl,h3,h4⟩:=Kp.v h;exact⟨_,rfl,⟨c,rfl,by rw[<-Rat.divInt_eq_div];exact h3⟩,h4⟩
theorem eH (ax ay bx bY:Int)(y:Rat):(ax:Rat)+(((bx-ax:Int):Rat)/((bY-ay:Int):Rat))*(y-(ay:Rat))=Hn ax ay bx bY y:=by
  unfold Hn;rw[Rat.div_def,Rat.div_def,show((1:Int):Rat)=1 from rfl];grind
theorem qA {ax ay bx bY:Int}(ha:Co ax ay=true)(hb:Co bx bY=true):Nm.rl (((bx-ax:Int):Rat)/((bY-ay:Int):Rat))<=2:=by
  unfold Co at ha hb;simp only[vC,decide_eq_true_eq]at ha hb;have q:=Nm.rl_div ((bx-ax:Int):Rat) ((bY-ay:Int):Rat);have e3:=mH (bY-ay) ω;have e4:=mH (bx-ax) ω;omega
theorem jC (L:Nat)(ax ay bx bY:Int)(ry:RV)(y:Rat)(w:World)(hy:ry.In L w y)(h1L:1<=L)(hL:L<=2000)(ha:Co ax ay=true)(hb:Co bx bY=true)(hne:ay≠bY)(hlo:((min ay bY:Int):Rat)<=y)(hhi:y<=((max ay bY:Int):Rat)):
  Calls prog 156 #[.agg #[iV ax,iV ay],.agg #[iV bx,iV bY],(rg ry)] w fun e w'=>∃r:RV,e= .returned (.tuple #[(rg r),.bool true])/\r.Is w' (Hn ax ay bx bY y)/\Aa w w':=by
 have HK:=zH (show(-1048576<=ax/\ax<=1048576/\ -1048576<=ay/\ay<=1048576)/\(-1048576<=bx/\bx<=1048576/\ -1048576<=bY/\bY<=1048576)by have h1:=ha;have h2:=hb;unfold Co at h1 h2;simp only[vC,decide_eq_true_eq]at h1 h2;omega);have RY:=zH hy;have HA:=zH ha;have HB:=zH hb;have A1:=zH hne;have G2:=zH hlo;have G3:=zH hhi;clear hy ha hb hne hlo hhi;go_enter func156,ntmps156
 have H0:=zH (Hp.start w);go_upto_region 0 with fail;apply wl;apply Cl 24 [iV ax,iV ay] H0.1;intro X1 w2 H3 _;apply Cl 24 [iV bx,iV bY] H3.1;intro X6 w7 H8 _;apply Cl 31 (rc ry) H8.1;intro E3 J1 H4 _;refine Cl 31 rz H4.1 ?_;intro E2 E9 A9 _;apply zq φ;go_upto_region 1 with fail;refine zy ?_;have H2:=zH (A9.1.step (Aa.refl E9).drew);refine Ta A9.1 zb (bs 37 1) 0 _ ?_;refine mC 1 (bs 37 3) (Bi ax ay _) ?_;rintro e J0 ⟨rfl,hx⟩;have H1:=zH (H2.1.step hx);have C8:=zH (zb.trans hx);clear hx;refine⟨.bool true,by rw[HA.1],C8.1,?_⟩;try simp only[ζ]
 refine Qk A9.1 C8.1 (bs 37 31) 2 3 4 φ φ _ ?_;refine mC 5 (bs 37 63) (Bi bx bY _) ?_;rintro e I9 ⟨rfl,hx⟩;have G9:=zH (H1.1.step hx);have B0:=zH (C8.1.trans hx);clear hx;refine⟨.bool true,by rw[HB.1],B0.1,?_⟩;try simp only[ζ]
 refine tN A9.1 B0.1 (bs 37 8191) 6 7 8 9 10 11 12 φ φ φ _ _ _ _ ?_;refine zu 13 (bs 37 16383) (v:= .bool false) B0.1 ?_ (hv:=by intro w E0;exact Li (e:=(Al A1.1)));refine oV A9.1 B0.1 (bs 37 4194303) 14 15 16 17 18 19 20 21 φ φ _ _ _ _ _ (iV (min ay bY)) ?_;refine mC 22 (bs 37 8388607) (Dj (min ay bY) _ (by have A4:=HK.1;have A3:=A1.1;omega) (by have A4:=HK.1;have A3:=A1.1;omega)) ?_;rintro e I8 ⟨c_,rfl,A6,hx⟩;have E7:=zH (G9.1.step hx);have E5:=zH (B0.1.trans hx);obtain⟨J4,rfl,A2⟩:=A6;have G1:=zH A2;have I2:=zH (Bm (min ay bY) (by have A4:=HK.1;have A3:=A1.1;omega) (by have A4:=HK.1;have A3:=A1.1;omega));clear A2 hx;apply zm E5.1;refine mC 23 (bs 37 16777215) (Fx (L:=60000) (RV.In.nin (RV.In.mono (RY.1.dig E7.1.dig0) ω)) (RV.Is.nin G1.1 (Ar I2.1 ω)) ω) ?_;rintro e I7 ⟨rfl,hx⟩;have G8:=zH (E7.1.step hx);have C6:=zH (E5.1.trans hx);clear hx;apply zm C6.1;refine zu 24 (bs 37 33554431) (v:= .bool false) C6.1 ?_ (hv:=by intro w E0;exact Dw (e:=(Al (fun hh=>(fun h_=>absurd h_ (Rat.not_lt.2 G2.1)) (rcmp_lt.1 hh)))));refine oV A9.1 C6.1 (bs 37 8589934591) 25 26 27 28 29 30 31 32 φ φ _ _ _ _ _ (iV (max ay bY)) ?_;refine mC 33 (bs 37 17179869183) (Dj (max ay bY) _ (by have A4:=HK.1;have A3:=A1.1;omega) (by have A4:=HK.1;have A3:=A1.1;omega)) ?_;rintro e I6 ⟨c_,rfl,A6,hx⟩;have E6:=zH (G8.1.step hx);have E4:=zH (C6.1.trans hx);obtain⟨J3,rfl,A2⟩:=A6;have G0:=zH A2;have I1:=zH (Bm (max ay bY) (by have A4:=HK.1;have A3:=A1.1;omega) (by have A4:=HK.1;have A3:=A1.1;omega));clear A2 hx;apply zm E4.1;refine mC 34 (bs 37 34359738367) (Fx (L:=60000) (RV.In.nin (RV.In.mono (RY.1.dig E6.1.dig0) ω)) (RV.Is.nin G0.1 (Ar I1.1 ω)) ω) ?_;rintro e I5 ⟨rfl,hx⟩;have D3:=zH (E6.1.step hx);have C7:=zH (E4.1.trans hx);clear hx;apply zm C7.1;refine zu 35 (bs 37 68719476735) (v:= .bool false) C7.1 ?_ (hv:=by intro w E0;exact Sg (e:=(Al (fun hh=>(fun h_=>absurd h_ (Rat.not_lt.2 G3.1)) (Hu.1 hh)))));refine zx 36 (bs 37 137438953471) φ C7.1 ?_;refine wpAnyH_done kR ?_ _;go_upto_region 3 with fail
 apply wl;refine Fp D3.1 _ _ _ _ ?_;apply zp (iV (bx-ax)) (by exact Nj (by have A4:=HK.1;have A3:=A1.1;omega));refine Fp D3.1 _ _ _ _ ?_;apply zp (iV (bY-ay)) (by exact Nj (by have A4:=HK.1;have A3:=A1.1;omega));refine zc (Kz (bx-ax) (bY-ay) _ (by have A4:=HK.1;have A3:=A1.1;omega) (by have A4:=HK.1;have A3:=A1.1;omega) (by have A4:=HK.1;have A3:=A1.1;omega) (by have A4:=HK.1;have A3:=A1.1;omega) (by have A4:=HK.1;have A3:=A1.1;omega)) ?_;rintro e I4 ⟨c_,rfl,A6,hx⟩;have G7:=zH (D3.1.step hx);obtain⟨A5,rfl,A2⟩:=A6;have F9:=zH A2;have E8:=zH (qA HA.1 HB.1);clear A2 hx;refine zn ?_;refine Dh Ai _ _ _ ?_;refine Cl 31 rz G7.1 ?_;intro E1 I3 G6 H9;apply Ck 4 (rc A5) G6.1;intro A7 A8 H7;apply zq (iV 0);go_upto_region 4 with fail
 refine wp_region_held_drew (S:=fun x=>Fr (fun kz=>kz=E2) A7 x) kR (Fr.of_ext zb) (fun _=> ?_);have G5:=zH (A8.1.step (Aa.refl A7).drew);have H6:=zH (Af.of_ext (w:=A7) zb);refine zx 0 (bs 13 1) (.pointer (π X1)) (Fr.of_ext zb) ?_;refine Db (g:=X1) (o:=0) (v:= iV ax) (i:=1) (listed':=(bs 13 3)) rR kR kR kR (by intro _ _ _ h;exact h) rR (fun x hx=>Fr.cell hx (show World.cell? A7 ⟨X1,0,none⟩=some (iV ax)from Az (A8.1.range (i:=0) rR 0 1)) (A8.1.offBlk (i:=0) (j:=3) rR rR dC rR)) (by intro x hq;go_simp<;>with_reducible rfl) (Fr.of_ext zb) kR ?_;refine mR 3 (bs 13 11) E1 (0) (rc A5) (fun x hx=>Fr.range hx (show World.rangeAt A7 E1 (0) (rc A5)from(A8.1.range (i:=4) rR 0 4)) (A8.1.offBlk (i:=4) (j:=3) rR rR dC rR)) underlying31 (Fr.of_ext zb) ?_;refine zr 4 (bs 13 27) E3 (0) (rc ry) (fun x hx=>Fr.range hx (show World.rangeAt A7 E3 (0) (rc ry)from(A8.1.range (i:=2) rR 0 4)) (A8.1.offBlk (i:=2) (j:=3) rR rR dC rR)) underlying31 (Fr.of_ext zb) ?_;refine zx 5 (bs 13 59) (.pointer (some ⟨X1,1,none⟩)) (Fr.of_ext zb) ?_;refine Db (g:=X1) (o:=1) (v:= iV ay) (i:=6) (listed':=(bs 13 123)) rR kR kR kR (by intro _ _ _ h;exact h) rR (fun x hx=>Fr.cell hx (show World.cell? A7 ⟨X1,1,none⟩=some (iV ay)from Az (A8.1.range (i:=0) rR 1 1)) (A8.1.offBlk (i:=0) (j:=3) rR rR dC rR)) (by intro x hq;go_simp<;>with_reducible rfl) (Fr.of_ext zb) kR ?_;try simp only[ζ]
 refine mC 2 (bs 13 127) (Dj ax _ (by have A4:=HK.1;have A3:=A1.1;omega) (by have A4:=HK.1;have A3:=A1.1;omega)) ?_;rintro e D9 ⟨c_,rfl,A6,hx⟩;have G4:=zH (G5.1.step hx);have H5:=zH (show Af A7.drew D9 from Af.of_ext hx);have B6:=zH (show Fr (fun kz=>kz=E2) A7 D9 from(Fr.of_ext zb).trans (Fr.of_ext hx));obtain⟨J2,rfl,A2⟩:=A6;have F8:=zH A2;have I0:=zH (Bm ax (by have A4:=HK.1;have A3:=A1.1;omega) (by have A4:=HK.1;have A3:=A1.1;omega));clear A2 hx;apply zm B6.1;refine mC 7 (bs 13 255) (Dj ay _ (by have A4:=HK.1;have A3:=A1.1;omega) (by have A4:=HK.1;have A3:=A1.1;omega)) ?_;rintro e F4 ⟨c_,rfl,A6,hx⟩;have B9:=zH (G4.1.step hx);have C3:=zH (Af.of_ext hx);have B5:=zH (B6.1.trans (Fr.of_ext hx));obtain⟨F7,rfl,A2⟩:=A6;have D2:=zH A2;have C5:=zH (Bm ay (by have A4:=HK.1;have A3:=A1.1;omega) (by have A4:=HK.1;have A3:=A1.1;omega));clear A2 hx;apply zm B5.1;refine mC 8 (bs 13 511) (aY (L:=60000) (RV.In.nin (RV.In.mono (RY.1.dig B9.1.dig0) ω)) (RV.Is.nin D2.1 (Ar C5.1 ω)) ω) ?_;rintro e F3 ⟨c_,rfl,A6,hx⟩;have B8:=zH (B9.1.step hx);have C2:=zH (Af.of_ext hx);have B4:=zH (B5.1.trans (Fr.of_ext hx));obtain⟨F6,rfl,A2⟩:=A6;have D1:=zH A2;clear A2;have C4:=zH (show Nm.rl (y-(((ay):Int):Rat))<=L+2+1 from by have h1:=(show Nm.rl y<=L from by have h:=(RY.1.dig B8.1.dig0).rl;omega);have h2:=C5.1;have h3:=Nm.rl_sub y (((ay):Int):Rat);omega);clear hx;apply zm B4.1;have C1:=tD (tD (tD (tD (tD H9 H7) H6) H5) C3) C2;refine mC 9 (bs 13 1023) (Vx (L:=60000) (RV.Is.nin (F9.1.dig C1.1) (Ar E8.1 ω)) (RV.Is.nin D1.1 (Ar C4.1 ω)) ω) ?_;rintro e F2 ⟨c_,rfl,A6,hx⟩;have D5:=zH (B8.1.step hx);have D7:=zH (Af.of_ext hx);have B3:=zH (B4.1.trans (Fr.of_ext hx));obtain⟨F5,rfl,A2⟩:=A6;have D0:=zH A2;clear A2;have D8:=zH (show Nm.rl ((((bx-ax:Int):Rat)/((bY-ay:Int):Rat))*(y-(((ay):Int):Rat)))<=2+(L+2+1)from by have h1:=E8.1;have h2:=C4.1;have h3:=Nm.rl_mul (((bx-ax:Int):Rat)/((bY-ay:Int):Rat)) (y-(((ay):Int):Rat));omega);clear hx;apply zm B3.1;have C0:=tD (tD C3 C2) D7;refine mC 10 (bs 13 2047) (Mu (L:=60000) (RV.Is.nin (F8.1.dig C0.1) (Ar I0.1 ω)) (RV.Is.nin D0.1 (Ar D8.1 ω)) ω) ?_;rintro e F1 ⟨c_,rfl,A6,hx⟩;have D4:=zH (D5.1.step hx);have B2:=zH (B3.1.trans (Fr.of_ext hx));obtain⟨A0,rfl,A2⟩:=A6;have C9:=zH A2;clear A2 hx;apply zm B2.1;refine Dz (i:=11) (listed':=(bs 13 4095)) rR kR rR kR _ _ _ rR D4.1 (ix:=3) rR 0 (rc A0) rR rR (by simp) kR (by simp[Value.oneCell']) (by simp[Aq]) ?_;intro F0 hh hd ho;have B7:=hN hh;have D6:=zH (hd);have B1:=zH (Fr.trans_new B2.1 ho (fun j hj=> .inl (by simpa using hj.symm)));clear hh hd ho;refine⟨B1.1,?_⟩
 (try simp only[Act.put])
 refine zx 12 (bs 13 8191) τ B1.1 ?_;refine wpAnyH_done kR ?_ _;go_wp2_with fail;refine bodyPost_ret (v:= .tuple #[(rg A0),.bool true]) ?_ rfl ⟨_,rfl,by rw[<-eH];exact(C9.1.dig D6.1),B7.1.ext⟩;exact An rfl rfl ((B7.1.blk (i:=3) rR).loadVar rfl rfl rR) rfl
end
section
attribute [local go_sem ↓] Go.wp_at_zero Go.wp_at_succ Dy Dx Aw Av
theorem Tf (u:Value)(rs:List Ba)(w:World)(hu:Cn w u rs)(hv:Hc rs=true)(hn:rs.length<=1048576):
  Calls prog 102 #[u,.agg #[iV 0,iV 0]] w fun e w'=>∃v,e= .returned v/\Tr w.heap.size w' v rs/\Aa w w':=by
 have HT:=zH (Ey hv);have B7:∀r,r∈rs->r.length<=4096:=fun r hr=>by
  obtain⟨k,hk⟩:=List.mem_iff_getElem?.1 hr;have h1:=Fi hk;have h2:=Ez rs (k+1);have h3:=HT.1;omega
 have F8:=zH B7;have HV:=zH hv;have HC:=zH (fun W (hW:Aa w W)=>Dq u rs W (hu.ext hW) hn (fun r hr=>Ar (B7 r hr) (by decide)));have HU:=zH hu;obtain⟨Au,cu,rfl,_⟩:=hu;obtain⟨i0,hi,A8,A7,A6⟩:=info_parts qS;have HI:=zH (And.intro hi (And.intro A8 (And.intro A7 A6)));clear hi A8 A7 A6 B7;obtain⟨i1,hi,A8,A7,A6⟩:=info_parts qR;have HJ:=zH (And.intro hi (And.intro A8 (And.intro A7 A6)));clear hi A8 A7 A6 hv;go_enter func102,ntmps102
 have hB:=Ak.new w 24 #[iV 0,iV 0];have hE:Aa w (w.alloc (.cells #[iV 0,iV 0] 24)):=Ad.alloc _;go_upto_if 13 with(go_at_call 43;refine(HC.1 _ hE).mono ?_;rintro e w1 ⟨rfl,B6⟩)
 have F3:(!Hc rs)=false:=by rw[HV.1];rfl
 rw[F3];have E0:=zH (hE.trans B6);have C7:=zH (hB.ext B6);clear hB hE B6;generalize hX3:w.heap.size=X3 at C7⊢
 have G9:=zH hX3;clear hX3;go_wp2_with fail;go_loopg [5,16] rs.length (fun c v i wr=>∃(k:Nat) (v2:Value),k<=rs.length/\c=rs.length-k/\i= iV k/\v2=v/\Tr w.heap.size wr v2 (rs.take k)/\Aa w wr/\Ak wr X3 24 #[iV 0,iV 0]/\v2.ownBlock≠some X3)
 case atStart=>exact⟨0,_,uL _,rfl,rfl,rfl,⟨[],Bh.nil _ _ _ _,rfl,fun i r h=>by simp at h⟩,E0.1,C7.1,by simp[Value.ownBlock]⟩
 clear E0 C7;obtain⟨k,v,hk,rfl,rfl,rfl,D2,hx,D9,D0⟩:=hrel;have C2:=zH D2;have HX:=zH hx;have HB:=zH D9;have E1:=zH D0;clear D2 hx D9 D0;by_cases hlt:k<rs.length
 ·have E8:(k:Int)<(rs.length:Int):=ω
  obtain⟨r,hr⟩:∃r,rs[k]?=some r:=⟨_,uB hlt⟩;have E7:∃g A5,Au=some ⟨g,A5,none⟩/\∃B cb,w.cell? ⟨g,A5+k,none⟩=some (.slice B r.length cb)/\Gl w (.slice B r.length cb) r:=by
   obtain⟨A2,c2,A4,h2⟩:=HU.1;injection A4 with e1 _ _
   obtain⟨g,A5,h3,h4⟩:=h2 ω;obtain⟨B,cb,h5,h6⟩:=h4 k r hr;exact⟨g,A5,e1.trans h3,B,cb,h5,h6⟩
  obtain⟨g,A5,rfl,B,cb,D7,D5⟩:=E7;have c1:=HX.1.get D7;have HP:=zH (D5.ext HX.1);have F9:=zH hr;have G5:=F8.1 r (uD hr);have C4:=zH hlt;have F6:=zH (show rs.take (k+1)=rs.take k++[r]by rw[uT hlt];congr 1;obtain⟨_,h⟩:=List.getElem?_eq_some_iff.1 hr;rw[h]);have D6:(rs.take k).length=k:=by rw[uJ];omega
  have E3:=zH D6;clear D7 D5 hr hlt D6;generalize wr=W0 at*;go_wp2_with fail;go_loopg [8,22] r.length (fun c u i wx=>∃(j:Nat) (u2:Value),j<=r.length/\c=r.length-j/\i= iV j/\u2=u/\Bh wx W0.heap.size 24 2 u2 (r.take j).length (Ft (r.take j))/\Aa W0 wx)
  case atStart=>exact⟨0,_,uL _,rfl,rfl,rfl,Bh.nil _ _ _ _,Aa.refl _⟩
  clear c1;obtain⟨j,v8,hj,rfl,rfl,rfl,A9,C9⟩:=hrel;have A1:=zH A9;have B2:=zH C9;clear A9 C9;by_cases hjl:j<r.length
  ·have E9:(j:Int)<(r.length:Int):=ω
   obtain⟨p,hp⟩:∃p,r[j]?=some p:=⟨_,uB hjl⟩;have F2:∃gb ob,B=some ⟨gb,ob,none⟩/\wr.cell? ⟨gb,ob+j*2,none⟩=some (iV p.1)/\wr.cell? ⟨gb,ob+j*2+1,none⟩=some (iV p.2):=by
    obtain⟨A2,c2,A4,h2⟩:=HP.1;injection A4 with e1 _ _
    obtain⟨gb,ob,h3,h4⟩:=h2 (by rintro rfl;simp at hjl);obtain⟨h5,h6⟩:=(h4.ext B2.1) j hjl;have F1:r.getD j (0,0)=p:=by obtain⟨_,h⟩:=List.getElem?_eq_some_iff.1 hp;simp[List.getD,hjl,h]
    rw[F1]at h5 h6;exact⟨gb,ob,e1.trans h3,h5,h6⟩
   obtain⟨gb,ob,rfl,q1,q2⟩:=F2;have G1:=zH (qM HV.1 F9.1 hp);have E4:=zH hjl;have F7:=zH (show r.take (j+1)=r.take j++[p]by rw[uT hjl];congr 1;obtain⟨_,h⟩:=List.getElem?_eq_some_iff.1 hp;rw[h]);have B8:(r.take j).length=j:=by rw[uJ];omega
   have G3:=zH B8;have E2:=zH (show World.rangeAt wr gb (ob+j*2) [iV p.1,iV p.2]from fun i v hv=>by
    match i,hv with
    |0,hv=>simp at hv;rw[<-hv];exact q1
    |1,hv=>simp at hv;rw[<-hv];exact q2)
   rw[B8]at A1;clear hp hjl q1 q2 B8;go_upto_region 10 with fail;refine wp_region_lit ?_;apply zq (.pointer (some ⟨gb,ob+j*2,none⟩));refine Bj (by rfl) (wp_load_mid _ _ (by rfl) gb (ob+j*2) (by rfl) [iV p.1,iV p.2] _ E2.1 underlying24 (by rfl) (by kernel_rfl) ?_);try simp only[ζ]
   refine zp (w':=wr.alloc (.cells #[iV 0,iV 0] 24)) (.pointer (π wr.heap.size)) (by go_simp) ?_;refine pO #[iV p.1,iV p.2] (Ak.new wr _ _) rfl (by kernel_rfl) (all_oneCell_toArray (jT p)) ?_
   (try simp only[Act.put])
   obtain⟨B5,C8⟩:=Of wr 24 #[iV 0,iV 0] #[iV p.1,iV p.2] rfl;generalize (wr.alloc (.cells #[iV 0,iV 0] 24)).setCells wr.heap.size 0 (#[iV p.1,iV p.2]:Array Value).toList=w4 at*;generalize wr.heap.size=G8 at*;have C1:=zH (B2.1.trans B5);have C6:=zH C8;have A3:=zH (A1.1.ext B5);clear B5 C8 E2 A1;go_upto_region 11 with fail
   refine wp_region_lit ?_;refine zq (v8) ?_;refine pL C6.1 underlying24 (by kernel_rfl) ?_;try simp only[ζ]
   refine pL (HB.1.ext C1.1) underlying24 (by kernel_rfl) ?_;try simp only[ζ]
   refine Fv (by rfl) (by go_simp) (lL p.1 p.2 _ G1.1) ?_;rintro e w5 ⟨rfl,hx⟩;have C5:=zH (show Aa w4 w5 from((Aa.refl w4)).trans hx);clear hx;refine⟨_,rfl,?_⟩;try simp only[ζ]
   have A0:Aa w4 (w5.alloc (.cells #[iV p.1,iV p.2] 24)):=C5.1.alloc _;have B0:=(C1.1.trans A0).size;have G7:j<=4096:=ω
   refine zp (w':=(w5.alloc (.cells #[iV p.1,iV p.2] 24))) (.slice (π w5.heap.size) 1 1) (by go_simp) ?_;refine Bj (by rfl) (Dt _ _ 43 (by rfl) W0.heap.size 24 i0 _ 2 16 underlying43 HI.1.1 HI.1.2.1 HI.1.2.2.1 HI.1.2.2.2 rfl (by decide) jV _ j (Ft (r.take j)) (by rfl) (A3.1.ext A0) ⟨w5.heap.size,0,none⟩ 1 1 [iV p.1,iV p.2] (by rfl) rfl (lU _ _ _ _) (jT p) (nC p) (by decide) (by unfold maxLen;omega) ω B0 ?_);intro gx cx w8 hf h2 h3 h4;try simp only[ζ]
   have C3:=zH (show Bh w8 W0.heap.size 24 2 (.slice (π gx) (j+1) cx) (r.take (j+1)).length (Ft (r.take (j+1)))by rw[F7.1,Wc,uC,G3.1];exact h2);have C0:=zH (show Aa W0 w8 from(C1.1.trans A0).grown h3 (fun j hj=>(A3.1.ext A0).block j hj));clear h2 h3 h4 hf A0 B0;refine zp (w':=w8) (.slice (π gx) (j+1) cx) (by go_simp) ?_;go_wp2_with fail
   go_roundg (r.length-(j+1))
   case measure=>have:=E4.1;omega
   case rel=>exact⟨j+1,_,E4.1,rfl,by go_num,rfl,C3.1,C0.1⟩
  obtain rfl:j=r.length:=ω;have F0:¬(r.length:Int)<(r.length:Int):=ω;obtain⟨Bn,cn,rfl,D4,D8⟩:=Bh.pts (ps:=r) (by have h:=A1.1;rwa[uI (Bp _)]at h);have G0:=zH D4;have E5:=zH D8;have B3:=zH (C2.1.ext B2.1);have B1:=zH (HX.1.trans B2.1);have E6:=zH (HB.1.ext B2.1);have G2:=zH (show∀A,Bn=some A->A.block<wr.heap.size from fun A hA=>by
   subst hA;obtain⟨_,⟨hv,_⟩|⟨g2,c2,r2,hv,_,B9,_⟩⟩:=A1.1
   ·cases hv
   injection hv with e1 _ _;injection e1 with e1;rw[e1];exact B9.lt)
  have F5:=zH (show∀j,v.ownBlock=some j->j<W0.heap.size from fun j hj=>by
   obtain⟨vs,h1,_⟩:=C2.1;obtain⟨_,⟨rfl,_⟩|⟨g2,c2,r2,rfl,_,B9,_⟩⟩:=h1
   ·simp[Value.ownBlock]at hj
   simp[Value.ownBlock]at hj;rw[<-hj];exact B9.lt)
  clear D4 D8 A1;go_upto_region 13 with fail;refine wp_region_lit ?_;refine qV (v) ?_;apply zq (.slice Bn r.length cn);have A0:Aa wr (wr.alloc (.cells #[.slice Bn r.length cn] 43)):=Ad.alloc _;obtain⟨vs,B4,A4,D1⟩:=B3.1.ext A0;have B0:=(B1.1.trans A0).size;have G6:k<=1048576:=by have:=C4.1;omega
  refine zp (w':=(wr.alloc (.cells #[.slice Bn r.length cn] 43))) (.slice (π wr.heap.size) 1 1) (by go_simp) ?_;refine Bj (by rfl) (Dt _ _ 22 (by rfl) w.heap.size 43 i1 _ 1 24 underlying22 HJ.1.1 HJ.1.2.1 HJ.1.2.2.1 HJ.1.2.2.2 rfl (by decide) jU _ k vs (by rfl) (by have h:=B4;rwa[E3.1]at h) ⟨wr.heap.size,0,none⟩ 1 1 [.slice Bn r.length cn] (by rfl) rfl (Gq _ _ _) (by simp[Value.oneCell']) (by intro x hx q;simp at hx;rw[hx];simp) (by decide) (by unfold maxLen;omega) ω B0 ?_);intro gx cx w8 hf h2 h3 h4;try simp only[ζ]
  skip
  have D3:=Tr.snoc (B3.1.ext A0) E3.1 (r:=r) (s:= .slice Bn r.length cn) rfl (G0.1.ext A0) (fun A hA=>⟨fun e=>by have q1:=F5.1 _ e;have q2:=E5.1 A hA;omega,vF (G2.1 A hA) A0.size⟩) (fun A hA=>by have q2:=E5.1 A hA;have q3:=HX.1.size;omega) vs ⟨vs,B4,A4,rfl,D1⟩ h2 h3 hf;have C3:=zH (show Tr w.heap.size w8 (.slice (π gx) (k+1) cx) (rs.take (k+1))by rw[F6.1];exact D3);have C0:=zH (show Aa w w8 from(B1.1.trans A0).grown h3 (fun j hj=>B4.block j hj));have G4:=zH ((E6.1.ext A0).grown h3 E1.1);have F4:=zH (show(Value.slice (π gx) (k+1) cx).ownBlock≠some X3 from fun e=>by simp[Value.ownBlock]at e;rcases hf with hf|hf;exact E1.1 (by rw[<-e];exact hf);have:=E6.1.lt;have:=A0.size;omega);clear h2 h3 h4 hf A0 B0 D3 B4 A4 D1;refine zp (w':=w8) (.slice (π gx) (k+1) cx) (by go_simp) ?_;go_wp2_with fail
  go_roundg (rs.length-(k+1))
  case measure=>have:=C4.1;omega
  case rel=>exact⟨k+1,_,C4.1,rfl,by go_num,rfl,C3.1,C0.1,G4.1,F4.1⟩
 obtain rfl:k=rs.length:=ω;have F0:¬(rs.length:Int)<(rs.length:Int):=ω;have HR:=zH (show Tr w.heap.size wr v rs from by have h:=C2.1;rwa[uI (Bp _)]at h);go_wp2_with fail;go_ret;exact⟨_,rfl,HR.1,HX.1⟩
end
section
def Lm (r:Ba)(i:Nat):Option ((Int×Int)×(Int×Int)):=
  match r[i]?,r[(i+1)%r.length]?with
  |some a,some b=>if a=b then none else some (a,b)
  |_,_=>none
def Ed (r:Ba)(n:Nat):List ((Int×Int)×(Int×Int)):=(List.range n).filterMap (Lm r)
def Ca (rs:List Ba):List ((Int×Int)×(Int×Int)):=rs.flatMap fun r=>Ed r r.length
theorem Qa {r:Ba}{i:Nat}{a b:Int×Int}(ha:r[i]?=some a)(hb:r[(i+1)%r.length]?=some b):Lm r i=if a=b then none else some (a,b):=by
  unfold Lm;rw[ha,hb]
theorem Jp {r:Ba}{n:Nat}(h:Lm r n=none):Ed r (n+1)=Ed r n:=by
  unfold Ed;rw[List.range_succ,List.filterMap_append];simp[h]
theorem Et {r:Ba}{n:Nat}{e:(Int×Int)×(Int×Int)}(h:Lm r n=some e):Ed r (n+1)=Ed r n++[e]:=by
  unfold Ed;rw[List.range_succ,List.filterMap_append];simp[h]
theorem fB {r:Ba}{n m:Nat}(h:n<=m):Ed r n<+:Ed r m:=by
  unfold Ed;obtain⟨d,rfl⟩:=Nat.exists_eq_add_of_le h;rw[List.range_add,List.filterMap_append];exact List.prefix_append _ _
theorem Ll {rs:List Ba}{k:Nat}{r:Ba}(h:rs[k]?=some r):Ca (rs.take (k+1))=Ca (rs.take k)++Ed r r.length:=by
  unfold Ca;rw[List.take_add_one,h];simp
theorem Tl (rs:List Ba)(k:Nat):Ca (rs.take k)<+:Ca rs:=by
  conv=>rhs;rw[<-List.take_append_drop k rs]
  unfold Ca;rw[List.flatMap_append];exact List.prefix_append _ _
theorem Ma {rs:List Ba}{k n:Nat}{r:Ba}(h:rs[k]?=some r)(hn:n<=r.length):Ca (rs.take k)++Ed r n<+:Ca rs:=by
  refine List.IsPrefix.trans ?_ (Tl rs (k+1));rw[Ll h];exact(List.prefix_append_right_inj _).2 (fB hn)
theorem aW (r:Ba)(n:Nat):(Ed r n).length<=n:=by
  unfold Ed;have:=List.length_filterMap_le (Lm r) (List.range n);simpa using this
theorem gP (rs:List Ba):∀n:Nat,rs.foldl (fun n r=>n+r.length) n=n+rs.foldl (fun n r=>n+r.length) 0:=by
  induction rs with
  |nil=>intro n;simp
  |cons r rs ih=>intro n;rw[List.foldl_cons,List.foldl_cons,ih (n+r.length),ih (0+r.length)];omega
theorem Ep (rs:List Ba):(Ca rs).length<=Gk rs:=by
  unfold Gk;induction rs with
  |nil=>simp[Ca]
  | cons r rs ih=>
    have h1:=aW r r.length;have h2:Ca (r::rs)=Ed r r.length++Ca rs:=by simp[Ca]
    rw[h2,uC,List.foldl_cons,gP];omega
end
section
attribute [local go_sem ↓] Go.wp_at_zero Go.wp_at_succ Dy Dx
theorem Cy (u:Value)(rs:List Ba)(w:World)(hu:Cn w u rs)(hn:rs.length<=1048576)(hr:∀r,r∈rs->r.length<=1048576):
    Calls prog 63 #[u] w fun e w'=>e= .returned (.bool (Hc rs))/\Aa w w':=by
  obtain⟨A,cu,rfl,hA⟩:=hu;have HA:=zH hA;have HR:=zH hr;clear hA hr;go_enter func63,ntmps63
  go_wp2_with fail;go_loopg [3,4] rs.length (fun c n i wr=>∃k m:Nat,k<=rs.length/\c=rs.length-k/\i= iV k/\n= iV m/\m=Gk (rs.take k)/\m<=4096/\(∀i r,i<k->rs[i]?=some r->Cz r=true)/\Aa w wr)
  case atStart=>exact⟨0,0,uL _,rfl,rfl,rfl,rfl,uL _,fun i r h=>absurd h (Nat.not_lt_zero _),Aa.refl _⟩
  obtain⟨k,m,hk,rfl,rfl,rfl,hm,C6,ho,hx⟩:=hrel;have HO:=zH ho;have HX:=zH hx;have HM:=zH hm;clear ho hx hm;by_cases hlt:k<rs.length
  · obtain⟨r,hr⟩:∃r,rs[k]?=some r:=⟨_,uB hlt⟩
    obtain⟨g,C4,rfl,hp⟩:=HA.1 ω;obtain⟨B,cb,h1,h2⟩:=hp k r hr;have c1:=HX.1.get h1;have C3:=zH c1;have HP:=zH (h2.ext HX.1);have C2:=zH (HR.1 r (uD hr));have A4:=zH hr;have B9:=zH (Fi hr);have B5:(k:Int)<(rs.length:Int):=ω
    have B1:=zH hlt;have C5:=C2.1;obtain⟨m2,A1⟩:∃m2,m2=m+r.length:=⟨_,rfl⟩;have e1:(m:Int)+(r.length:Int)=(m2:Int):=ω
    have wm:IntKind.i64.wrap (m2:Int)=(m2:Int):=by rw[IntKind.wrap_i64];omega
    have ws:IntKind.i64.wrap (4096-(m:Int))=4096-(m:Int):=by rw[IntKind.wrap_i64];omega
    have B0:=zH (show m2=Gk (rs.take (k+1))by rw[B9.1,<-HM.1];exact A1);have C8:=zH A1;clear hp h1 h2 hr hlt;by_cases hbig:4096<m2
    · have B7:4096-(m:Int)<(r.length:Int):=ω
      have HF:=zH (Nz A4.1 (Or.inl (by rw[<-B0.1];exact hbig)));clear A1;go_wp2_with fail;go_ret;exact⟨by rw[HF.1];rfl,HX.1⟩
    have B7:¬4096-(m:Int)<(r.length:Int):=ω;clear A1;go_wp2_with fail;generalize wr=W0 at*;go_loopg [5] r.length (fun c j wi=>∃t:Nat,t<=r.length/\c=r.length-t/\j= iV t/\Cz (r.take t)=true/\Aa W0 wi)
    case atStart=>exact⟨0,uL _,rfl,rfl,rfl,Aa.refl _⟩
    obtain⟨t,ht,rfl,rfl,A7,A5⟩:=hrel;have A9:=zH A7;have A0:=zH A5;have c2:=A0.1.get C3.1;clear A7 A5 c1;by_cases hlt3:t<r.length
    · obtain⟨A2,B8,ev,hv⟩:=HP.1
      injection ev with ev1 ev2 ev3
      subst ev1 ev3;clear ev2;obtain⟨g2,B3,rfl,A6⟩:=hv (by rintro rfl;simp at hlt3);obtain⟨d0,d1⟩:=(A6.ext A0.1) t hlt3;have A8:r.getD t (0,0)=r[t]:=by simp[List.getD,hlt3]
      rw[A8]at d0 d1;have C0:=zH (bB r t hlt3 A9.1);have C1:=zH (Mx r t hlt3);have B4:(t:Int)<(r.length:Int):=ω
      have B2:=zH hlt3;generalize r[t]=x at*;clear A6 hv A8 hlt3;by_cases hok:Co x.1 x.2=true
      · have hb:(!Co x.1 x.2)=false:=by rw[hok];rfl
        go_wp2_with (go_at_call 30;refine(Bi _ _ _).mono ?_;rintro e w2 ⟨rfl,A3⟩)
        go_roundg (r.length-(t+1))
        case measure=>have:=B2.1;omega
        case rel=>exact⟨t+1,B2.1,rfl,by go_num,C0.1 hok,A0.1.trans A3⟩
      replace hok:=eq_false_of_ne_true hok;have hb:(!Co x.1 x.2)=true:=by rw[hok];rfl
      have HF:=zH (Nz A4.1 (Or.inr (C1.1 hok)));go_wp2_with (go_at_call 30;refine(Bi _ _ _).mono ?_;rintro e w2 ⟨rfl,A3⟩)
      go_ret;exact⟨by rw[HF.1];rfl,(HX.1.trans A0.1).trans A3⟩
    have B6:¬(t:Int)<(r.length:Int):=ω;have HE:=zH (Oz r t ht hlt3 A9.1);go_wp2_with fail;go_roundg (rs.length-(k+1))
    case measure=>have:=B1.1;omega
    case rel=>exact⟨k+1,m2,B1.1,rfl,by go_num,rfl,B0.1,ω,fun i r2 hi hr2=>by
      rcases Nat.lt_or_ge i k with h|h
      · exact HO.1 i r2 h hr2
      obtain rfl:i=k:=ω;rw[A4.1]at hr2;injection hr2 with hr2
      rw[<-hr2];exact HE.1,HX.1.trans A0.1⟩
  obtain rfl:k=rs.length:=ω;have HF:=zH (dB (rs:=rs) (by have h:=HM.1;rw[uI (Bp _)]at h;omega) HO.1);have C7:¬(rs.length:Int)<(rs.length:Int):=ω
  go_wp2_with fail;go_ret;exact⟨by rw[HF.1];rfl,HX.1⟩
end
section
attribute [local go_sem ↓] Go.wp_at_zero Go.wp_at_succ Aw Av
end
section
attribute [local go_sem ↓] Go.wp_at_zero Go.wp_at_succ
theorem Pg (n:Int)(w:World):Calls prog 135 #[iV n] w fun e w'=>e= .returned φ/\Aa w w':=by
  have A0:(n != n)=false:=by simp
  go_enter func135,ntmps135;go_wp2_with fail;go_ret;exact⟨by first|rfl|simp,Aa.refl _⟩
def Ni (a b:Int):Int:=if a<b then-1 else if b<a then 1 else 0
theorem Zq (a b:Int)(w:World):Calls prog 91 #[iV a,iV b] w fun e w'=>e= .returned (iV (Ni a b))/\Aa w w':=by
 by_cases h1:a<b
 ·have e:Ni a b= -1:=by unfold Ni;rw[if_pos h1]
  rw[e];go_enter func91,ntmps91;go_wp2_with (go_at_call 135;refine(Pg _ _).mono ?_;rintro e w2 ⟨rfl,A0⟩)
  go_ret;exact⟨rfl,Ad.trans (by first|assumption|(apply Aa.trans<;>assumption))⟩
 by_cases h2:b<a
 ·have e:Ni a b=1:=by unfold Ni;rw[if_neg h1,if_pos h2]
  rw[e];go_enter func91,ntmps91;go_wp2_with (go_at_call 135;refine(Pg _ _).mono ?_;rintro e w2 ⟨rfl,A0⟩)
  go_ret;exact⟨rfl,Ad.trans (by first|assumption|(apply Aa.trans<;>assumption))⟩
 have e:Ni a b=0:=by unfold Ni;rw[if_neg h1,if_neg h2]
 rw[e];go_enter func91,ntmps91;go_wp2_with (go_at_call 135;refine(Pg _ _).mono ?_;rintro e w2 ⟨rfl,A0⟩)
 go_ret;exact⟨rfl,Ad.trans (by first|assumption|(apply Aa.trans<;>assumption))⟩
def qK (a b:Int):Int:=if a=0 then b else a
theorem qJ (g off c:Nat)(a b:Int)(w:World)(h0:w.cell? ⟨g,off,none⟩=some (iV a))(h1:w.cell? ⟨g,off+1,none⟩=some (iV b)):
  Calls prog 90 #[.slice (some ⟨g,off,none⟩) 2 c] w fun e w'=>e= .returned (iV (qK a b))/\Aa w w':=by
 go_enter func90,ntmps90;go_wp2_with fail;go_loopg [8] 2 (fun d i wr=>∃k:Nat,k<=2/\d=2-k/\i= iV k/\(0<k->a=0)/\(1<k->b=0)/\Aa w wr)
 case atStart=>exact⟨0,ω,rfl,rfl,ω,ω,Aa.refl _⟩
 obtain⟨k,hk,rfl,rfl,ha,hb,hx⟩:=hrel;have HX:=zH hx;have k0:=hx.get h0;have k1:=hx.get h1;clear hx;rcases(show k=0\/k=1\/k=2 by omega)with rfl|rfl|rfl
 ·by_cases hz:a=0
  ·subst hz
   go_wp2_with fail;go_roundg 1
   case measure=>omega
   case rel=>exact⟨1,ω,rfl,by first|rfl|go_num,by simp,ω,HX.1⟩
  clear ha hb;go_wp2_with fail;go_ret;exact⟨by simp[qK,hz],HX.1⟩
 ·have hz:=ha (ω)
  subst hz;by_cases hz:b=0
  ·subst hz
   clear ha hb;go_wp2_with fail;go_roundg 0
   case measure=>omega
   case rel=>exact⟨2,ω,rfl,by first|rfl|go_num,by simp,by simp,HX.1⟩
  clear ha hb;go_wp2_with fail;go_ret;exact⟨by simp[qK],HX.1⟩
 have hz:=ha ω;have A0:=hb ω;subst hz;subst A0;clear ha hb;go_wp2_with fail
 go_ret;exact⟨by simp[qK],HX.1⟩
end
section
attribute [local go_sem ↓] Go.wp_at_zero Go.wp_at_succ Aw Av
def Es (p:Rat)(i:Int)(q:Rat)(j:Int):Bool:=decide (p<q)||(decide (p=q)&&decide (j<i))
theorem hU (L:Nat)(ca cb:Array Value)(p q:Rat)(i j:Int)(w:World)(ha:Eg L w ca p)(hb:Eg L w cb q)(hL:L<=60000)(h1:Df p q<0):
  Calls prog 157 #[.agg ca,iV i,.agg cb,iV j] w fun e w'=>e= .returned τ/\Aa w w':=by
 have ZA:=ha.size;have ZB:=hb.size;have Fa:=zH ha;have Fb:=zH hb;clear ha hb;go_enter func157,ntmps157
 go_upto_region 1 with fail;have A1:Ak ((w.alloc (.cells ca 31)).alloc (.cells cb 31)) (w.heap.size) 31 ca:=Ak.ext (Ak.new_at w _ (by simp) _ _) (Ad.alloc _);have A0:Ak ((w.alloc (.cells ca 31)).alloc (.cells cb 31)) (w.heap.size+1) 31 cb:=Ak.ext (Ak.new_at (w.alloc (.cells ca 31)) _ (by simp) _ _) Ad;have hE:Aa w ((w.alloc (.cells ca 31)).alloc (.cells cb 31)):=((Ad.alloc _).alloc _);generalize ((w.alloc (.cells ca 31)).alloc (.cells cb 31))=wa at*
 generalize w.heap.size+1=bx1 at*;have E1:=zH hE;have A3:=zH A1;have A2:=zH A0;clear hE A1 A0;refine wp_region_lit ?_;refine pL A3.1 underlying31 (by rw[show(ca:Array Value).size=4 from ZA];kernel_rfl) ?_;try simp only[ζ]
 refine pL A2.1 underlying31 (by rw[show(cb:Array Value).size=4 from ZB];kernel_rfl) ?_;try simp only[ζ]
 refine Fv (by rfl) (by go_simp) (Fx (Fa.1.ext E1.1) (Fb.1.ext E1.1) ω) ?_;rintro e w2 ⟨rfl,hx⟩;have E2:=zH hx;clear hx;refine⟨_,rfl,?_⟩;try simp only[ζ]
 refine pV (w':=w2) ?_;try simp only[ζ]
 go_wp2_with fail;go_ret;exact⟨by first|rfl|simp[*],(tr E1 E2).1⟩
theorem bZ (L:Nat)(ca cb:Array Value)(p q:Rat)(i j:Int)(w:World)(ha:Eg L w ca p)(hb:Eg L w cb q)(hL:L<=60000)(h1:Df p q=0)(h2:j<i):
  Calls prog 157 #[.agg ca,iV i,.agg cb,iV j] w fun e w'=>e= .returned τ/\Aa w w':=by
 have ZA:=ha.size;have ZB:=hb.size;have Fa:=zH ha;have Fb:=zH hb;clear ha hb;go_enter func157,ntmps157
 go_upto_region 1 with fail;have A1:Ak ((w.alloc (.cells ca 31)).alloc (.cells cb 31)) (w.heap.size) 31 ca:=Ak.ext (Ak.new_at w _ (by simp) _ _) (Ad.alloc _);have A0:Ak ((w.alloc (.cells ca 31)).alloc (.cells cb 31)) (w.heap.size+1) 31 cb:=Ak.ext (Ak.new_at (w.alloc (.cells ca 31)) _ (by simp) _ _) Ad;have hE:Aa w ((w.alloc (.cells ca 31)).alloc (.cells cb 31)):=((Ad.alloc _).alloc _);generalize ((w.alloc (.cells ca 31)).alloc (.cells cb 31))=wa at*
 generalize w.heap.size+1=bx1 at*;have E1:=zH hE;have A3:=zH A1;have A2:=zH A0;clear hE A1 A0;refine wp_region_lit ?_;refine pL A3.1 underlying31 (by rw[show(ca:Array Value).size=4 from ZA];kernel_rfl) ?_;try simp only[ζ]
 refine pL A2.1 underlying31 (by rw[show(cb:Array Value).size=4 from ZB];kernel_rfl) ?_;try simp only[ζ]
 refine Fv (by rfl) (by go_simp) (Fx (Fa.1.ext E1.1) (Fb.1.ext E1.1) ω) ?_;rintro e w2 ⟨rfl,hx⟩;have E2:=zH hx;clear hx;refine⟨_,rfl,?_⟩;try simp only[ζ]
 refine pV (w':=w2) ?_;try simp only[ζ]
 go_wp2_with fail;go_ret;exact⟨by first|rfl|simp[*],(tr E1 E2).1⟩
theorem cA (L:Nat)(ca cb:Array Value)(p q:Rat)(i j:Int)(w:World)(ha:Eg L w ca p)(hb:Eg L w cb q)(hL:L<=60000)(h1:Df p q=0)(h2:¬j<i):
  Calls prog 157 #[.agg ca,iV i,.agg cb,iV j] w fun e w'=>e= .returned φ/\Aa w w':=by
 have ZA:=ha.size;have ZB:=hb.size;have Fa:=zH ha;have Fb:=zH hb;clear ha hb;go_enter func157,ntmps157
 go_upto_region 1 with fail;have A1:Ak ((w.alloc (.cells ca 31)).alloc (.cells cb 31)) (w.heap.size) 31 ca:=Ak.ext (Ak.new_at w _ (by simp) _ _) (Ad.alloc _);have A0:Ak ((w.alloc (.cells ca 31)).alloc (.cells cb 31)) (w.heap.size+1) 31 cb:=Ak.ext (Ak.new_at (w.alloc (.cells ca 31)) _ (by simp) _ _) Ad;have hE:Aa w ((w.alloc (.cells ca 31)).alloc (.cells cb 31)):=((Ad.alloc _).alloc _);generalize ((w.alloc (.cells ca 31)).alloc (.cells cb 31))=wa at*
 generalize w.heap.size+1=bx1 at*;have E1:=zH hE;have A3:=zH A1;have A2:=zH A0;clear hE A1 A0;refine wp_region_lit ?_;refine pL A3.1 underlying31 (by rw[show(ca:Array Value).size=4 from ZA];kernel_rfl) ?_;try simp only[ζ]
 refine pL A2.1 underlying31 (by rw[show(cb:Array Value).size=4 from ZB];kernel_rfl) ?_;try simp only[ζ]
 refine Fv (by rfl) (by go_simp) (Fx (Fa.1.ext E1.1) (Fb.1.ext E1.1) ω) ?_;rintro e w2 ⟨rfl,hx⟩;have E2:=zH hx;clear hx;refine⟨_,rfl,?_⟩;try simp only[ζ]
 refine pV (w':=w2) ?_;try simp only[ζ]
 go_wp2_with fail;go_ret;exact⟨by first|rfl|simp[*],(tr E1 E2).1⟩
theorem hZ (L:Nat)(ca cb:Array Value)(p q:Rat)(i j:Int)(w:World)(ha:Eg L w ca p)(hb:Eg L w cb q)(hL:L<=60000)(h1:¬Df p q<0)(h2:¬Df p q=0):
  Calls prog 157 #[.agg ca,iV i,.agg cb,iV j] w fun e w'=>e= .returned φ/\Aa w w':=by
 have ZA:=ha.size;have ZB:=hb.size;have Fa:=zH ha;have Fb:=zH hb;clear ha hb;go_enter func157,ntmps157
 go_upto_region 1 with fail;have A1:Ak ((w.alloc (.cells ca 31)).alloc (.cells cb 31)) (w.heap.size) 31 ca:=Ak.ext (Ak.new_at w _ (by simp) _ _) (Ad.alloc _);have A0:Ak ((w.alloc (.cells ca 31)).alloc (.cells cb 31)) (w.heap.size+1) 31 cb:=Ak.ext (Ak.new_at (w.alloc (.cells ca 31)) _ (by simp) _ _) Ad;have hE:Aa w ((w.alloc (.cells ca 31)).alloc (.cells cb 31)):=((Ad.alloc _).alloc _);generalize ((w.alloc (.cells ca 31)).alloc (.cells cb 31))=wa at*
 generalize w.heap.size+1=bx1 at*;have E1:=zH hE;have A3:=zH A1;have A2:=zH A0;clear hE A1 A0;refine wp_region_lit ?_;refine pL A3.1 underlying31 (by rw[show(ca:Array Value).size=4 from ZA];kernel_rfl) ?_;try simp only[ζ]
 refine pL A2.1 underlying31 (by rw[show(cb:Array Value).size=4 from ZB];kernel_rfl) ?_;try simp only[ζ]
 refine Fv (by rfl) (by go_simp) (Fx (Fa.1.ext E1.1) (Fb.1.ext E1.1) ω) ?_;rintro e w2 ⟨rfl,hx⟩;have E2:=zH hx;clear hx;refine⟨_,rfl,?_⟩;try simp only[ζ]
 refine pV (w':=w2) ?_;try simp only[ζ]
 go_wp2_with fail;go_ret;exact⟨by first|rfl|simp[*],(tr E1 E2).1⟩
theorem Su (L:Nat)(ca cb:Array Value)(p q:Rat)(i j:Int)(w:World)(ha:Eg L w ca p)(hb:Eg L w cb q)(hL:L<=60000):
  Calls prog 157 #[.agg ca,iV i,.agg cb,iV j] w fun e w'=>e= .returned (.bool (Es p i q j))/\Aa w w':=by
 by_cases h1:p<q
 ·have e:Es p i q j=true:=by unfold Es;simp[h1]
  rw[e];exact hU L ca cb p q i j w ha hb hL (rcmp_lt.2 h1)
 by_cases h2:p=q
 ·by_cases h3:j<i
  ·have e:Es p i q j=true:=by unfold Es;simp[h2,h3]
   rw[e];exact bZ L ca cb p q i j w ha hb hL (rcmp_eq.2 h2) h3
  have e:Es p i q j=false:=by unfold Es;simp[h1,h3]
  rw[e];exact cA L ca cb p q i j w ha hb hL (rcmp_eq.2 h2) h3
 have e:Es p i q j=false:=by unfold Es;simp[h1,h2]
 rw[e];exact hZ L ca cb p q i j w ha hb hL (fun k=>h1 (rcmp_lt.1 k)) (fun k=>h2 (rcmp_eq.1 k))
end
section
theorem Zr {a b:Int}:Ni a b<0↔a<b:=by
  unfold Ni;split
  · omega
  split<;>omega
theorem qI (p q:Rat)(i j:Int):decide (qK (Df p q) (Ni j i)<0)=Es p i q j:=by
 unfold qK Es;by_cases h1:Df p q=0
 ·have h2:=rcmp_eq.1 h1
  subst h2;rw[if_pos h1];have h3:¬p<p:=by grind
  by_cases h4:j<i
  ·have h5:Ni j i<0:=Zr.2 h4
   simp[h4,h5]
  have h5:¬Ni j i<0:=fun k=>h4 (Zr.1 k)
  simp[h3,h4,h5]
 have h2:¬p=q:=fun k=>h1 (rcmp_eq.2 k)
 rw[if_neg h1];by_cases h3:p<q
 ·have h4:=rcmp_lt.2 h3
  simp[h3,h4]
 have h4:¬Df p q<0:=fun k=>h3 (rcmp_lt.1 k)
 simp[h2,h3,h4]
abbrev QI:=Rat×Int
def Xc (a b:QI):Bool:=Es a.1 a.2 b.1 b.2
theorem Oh {a b:QI}:Xc a b=true↔a.1<b.1\/(a.1=b.1/\b.2<a.2):=by
  unfold Xc Es;simp
theorem tC:Stb.Wk Xc:=by
  refine⟨fun x y h=> ?_,fun x y z h1 h2=> ?_⟩
  · rw[Bool.eq_false_iff]
    intro k;have h:=Oh.1 h;have k:=Oh.1 k;grind
  rw[Bool.eq_false_iff]at h1 h2⊢;intro k;have k:=Oh.1 k;have h1:¬_:=fun q=>h1 (Oh.2 q)
  have h2:¬_:=fun q=>h2 (Oh.2 q)
  grind
end
namespace mrk
attribute [local go_sem ↓] Go.wp_at_zero Go.wp_at_succ Aw Av
theorem swapRange_any {α:Type}(enc:α->List Value)(hk:∀x,(enc x).length=5)(h1:∀x,∀v,v∈enc x->v.oneCell'=true)(w0 w:World)(g cap a b n:Nat)(T:TypeId)(rest:List Value)(xs:List α)(cb:Value)(hst:Sw w0 w g T enc rest xs)(ha:a+n<=xs.length)(hb:b+n<=xs.length)(hsz:xs.length<=100000):
  Calls prog 197 #[.slice (π g) xs.length cap,iV a,iV b,iV n,cb] w fun e w'=>e= .returned (.tuple #[])/\Sw w0 w' g T enc rest (Jc xs a b n):=by
 have A1:=zH hst;clear hst;go_enter func197,ntmps197;go_wp2_with fail;go_loopg [10] n (fun c i wr=>∃t:Nat,t<=n/\c=n-t/\i= iV t/\Sw w0 wr g T enc rest (Jc xs a b t))
 case atStart=>exact⟨0,uL _,rfl,rfl,A1.1⟩
 clear A1;obtain⟨t,ht,rfl,rfl,hst⟩:=hrel;by_cases hlt:t<n
 ·have A7:(t:Int)<(n:Int):=ω
  obtain⟨i,hi⟩:∃i,i=a+t:=⟨_,rfl⟩;obtain⟨j,hj⟩:∃j,j=b+t:=⟨_,rfl⟩;have e1:(a:Int)+(t:Int)=(i:Int):=ω
  have e2:(b:Int)+(t:Int)=(j:Int):=ω;have HI:=zH hi;have HJ:=zH hj;have B1:(Jc xs a b t).length=xs.length:=Xn _ _ _ _;have A4:=zH (Lr xs a b t);rw[<-hi,<-hj]at A4;have B0:i<xs.length:=ω
  have A9:j<xs.length:=ω;clear hi hj;generalize Jc xs a b t=ys at*;have wi:IntKind.i64.wrap (i:Int)=(i:Int):=by rw[IntKind.wrap_i64];omega
  have wj:IntKind.i64.wrap (j:Int)=(j:Int):=by rw[IntKind.wrap_i64];omega
  have bi:(i:Int)<(xs.length:Int):=ω;have bj:(j:Int)<(xs.length:Int):=ω;have B4:i<xs.length:=ω;have B3:j<xs.length:=ω;have hN:(xs.length:Int)<=100000:=ω;obtain⟨x,hx⟩:∃x,ys[i]?=some x:=⟨_,uB ω⟩;obtain⟨y,hy⟩:∃y,ys[j]?=some y:=⟨_,uB ω⟩;have Hx:=zH hx;have Hy:=zH hy;have A6:=zH (show i<ys.length by omega);have A5:=zH (show j<ys.length by omega);have HE:=zH (Ho hx hy);have A0:=zH hst;clear hx hy hst;go_upto_region 3 with fail
  refine wp_region_held_drew (S:=fun x=>Aj g wr x) (by kernel_rfl) (Aj.refl _ _).drew (fun _=> ?_);refine zv 0 (bs 24 1) (Aj.refl _ _).drew ?_;refine zv 1 (bs 24 3) (Aj.refl _ _).drew ?_;refine zv 2 (bs 24 7) (Aj.refl _ _).drew ?_;refine zv 3 (bs 24 15) (Aj.refl _ _).drew ?_;refine zv 4 (bs 24 31) (Aj.refl _ _).drew ?_;refine zv 5 (bs 24 63) (Aj.refl _ _).drew ?_;refine zv 6 (bs 24 127) (Aj.refl _ _).drew ?_;refine zv 7 (bs 24 255) (Aj.refl _ _).drew ?_;refine zv 8 (bs 24 511) (Aj.refl _ _).drew ?_;refine zv 9 (bs 24 1023) (Aj.refl _ _).drew ?_;refine zv 10 (bs 24 2047) (Aj.refl _ _).drew ?_;refine zv 11 (bs 24 4095) (Aj.refl _ _).drew ?_;refine zv 12 (bs 24 8191) (Aj.refl _ _).drew ?_;refine zv 14 (bs 24 24575) (Aj.refl _ _).drew ?_;refine zv 15 (bs 24 57343) (Aj.refl _ _).drew ?_;refine zv 16 (bs 24 122879) (Aj.refl _ _).drew ?_;refine zv 17 (bs 24 253951) (Aj.refl _ _).drew ?_;refine zv 18 (bs 24 516095) (Aj.refl _ _).drew ?_;refine Gi (i:=13) (j:=19) (li:=(bs 24 524287)) (lj:=(bs 24 1040383)) (listed':=(bs 24 1048575)) (by rfl) (by rfl) (by kernel_rfl) (by kernel_rfl) (by kernel_rfl) (by kernel_rfl) (by kernel_rfl) (by kernel_rfl) (by kernel_rfl) 77 _ _ (by rfl) (by rfl) (by rfl) (by rfl) g (j*5) (i*5) (enc y) (enc x) _ underlying77 (by rfl) (by rfl) (by rfl) (by rfl) (by rfl) (A0.1.ext Ad.drew |>.read Hy.1 hk) (A0.1.ext Ad.drew |>.read Hx.1 hk) (by rw[hk];kernel_rfl) (by rw[hk];kernel_rfl) (Aj.refl _ _).drew (by rfl) ?_;try simp only[ζ]
  refine zv 20 (bs 24 2097151) (Aj.refl _ _).drew ?_;have A2:=(A0.1.ext Ad.drew).put (i:=i) A6.1 hk y;have A3:=A2.put (i:=j) (by rw[uM];exact A5.1) hk x;refine Dc (i:=21) (listed':=(bs 24 4194303)) (by rfl) (by kernel_rfl) (by rfl) 77 _ _ (by rfl) g (i*5) (enc y) (by rfl) (by rfl) (by rw[hk];exact(A0.1.ext Ad.drew).there A6.1 hk) (by rw[hk];kernel_rfl) (h1 y) (Aj.setCells_l _ _ (Aj.refl _ _).drew) (by kernel_rfl) ?_
  (try simp only[Act.put])
  refine zv 22 (bs 24 8388607) (Aj.setCells_l _ _ (Aj.refl _ _).drew) ?_;refine Dc (i:=23) (listed':=(bs 24 16777215)) (by rfl) (by kernel_rfl) (by rfl) 77 _ _ (by rfl) g (j*5) (enc x) (by rfl) (by rfl) (by rw[hk];exact A2.there (by rw[uM];exact A5.1) hk) (by rw[hk];kernel_rfl) (h1 x) (Aj.setCells_l _ _ (Aj.setCells_l _ _ (Aj.refl _ _).drew)) (by kernel_rfl) ?_
  (try simp only[Act.put])
  refine wpAnyH_done (by kernel_rfl) ?_ _;have A8:=zH A3;clear A2 A3;generalize (World.setCells _ g (j*5) (enc x))=w2 at*
  go_wp2_with fail;go_roundg (n-(t+1))
  case measure=>omega
  case rel=>exact⟨t+1,hlt,rfl,by go_num,by rw[A4.1,HE.1];exact A8.1⟩
 obtain rfl:t=n:=ω;have A0:=zH hst;have B2:¬(t:Int)<(t:Int):=ω
 clear hst;go_wp2_with fail;go_end0
 exact⟨rfl,A0.1⟩
theorem rotate_any {α:Type}(enc:α->List Value)(hk:∀x,(enc x).length=5)(h1:∀x,∀v,v∈enc x->v.oneCell'=true)(w0 w:World)(g cap a m b N:Nat)(T:TypeId)(rest:List Value)(P A B S:List α)(cb:Value)(hst:Sw w0 w g T enc rest (P++(A++(B++S))))(ha:P.length=a)(hm:a+A.length=m)(hb:m+B.length=b)(hA:A≠ [])(hB:B≠ [])(hN:(P++(A++(B++S))).length=N)(hsz:N<=100000):
  Calls prog 187 #[.slice (π g) N cap,iV a,iV m,iV b,cb] w fun e w'=>e= .returned (.tuple #[])/\Sw w0 w' g T enc rest (P++(B++(A++S))):=by
 have A0:P.length+(A.length+(B.length+S.length))=N:=by rw[<-hN];simp
 have A4:=zH hst;have B1:=zH (And.intro hA hB);have HN:=zH hN;have A2:=zH A0;have B4:=zH (show P.length+A.length=m by omega);have e1:(m:Int)-(a:Int)=(A.length:Int):=ω
 have e2:(b:Int)-(m:Int)=(B.length:Int):=ω;have b1:m<=100000:=ω;have b2:b<=100000:=ω;have b3:A.length<=100000:=ω;have b4:B.length<=100000:=ω;have B3:IntKind.i64.wrap (A.length:Int)=(A.length:Int):=by rw[IntKind.wrap_i64];omega
 have B2:IntKind.i64.wrap (B.length:Int)=(B.length:Int):=by rw[IntKind.wrap_i64];omega
 clear hst ha hm hb hA hB hN A0;go_enter func187,ntmps187;go_wp2_with fail;go_loopg [10,11] (A.length+B.length) (fun c u v wr=>∃(P' A' B' S':List α),c=A'.length+B'.length/\u= iV A'.length/\v= iV B'.length/\A'≠ []/\B'≠ []/\P'.length+A'.length=m/\(P'++(A'++(B'++S'))).length=N/\P'++(B'++(A'++S'))=P++(B++(A++S))/\Sw w0 wr g T enc rest (P'++(A'++(B'++S'))))
 case atStart=>exact⟨P,A,B,S,rfl,rfl,rfl,B1.1.1,B1.1.2,B4.1,HN.1,rfl,A4.1⟩
 clear A4 B1 HN A2 B4 e1 e2 b3 b4 B3 B2;obtain⟨P',A',B',S',rfl,rfl,rfl,hA,hB,A7,hN,hT,hst⟩:=hrel;have A0:P'.length+(A'.length+(B'.length+S'.length))=N:=by rw[<-hN];simp
 have B7:0<A'.length:=by cases A' with|nil=>exact absurd rfl hA|cons _ _=>simp
 have B6:0<B'.length:=by cases B' with|nil=>exact absurd rfl hB|cons _ _=>simp
 have HT:=zH hT;have A4:=zH hst;have HN:=zH hN;clear hT hst hA hB hN;obtain⟨i,hi⟩:∃i,A'.length=i:=⟨_,rfl⟩;obtain⟨j,hj⟩:∃j,B'.length=j:=⟨_,rfl⟩;rw[hi]at A7 A0 B7⊢;rw[hj]at A0 B6⊢;have HI:=zH hi;have HJ:=zH hj;clear hi hj;obtain⟨p,hp⟩:∃p,P'.length=p:=⟨_,rfl⟩;rw[hp]at A7 A0;have HP:=zH hp;clear hp;have e1:(m:Int)-(i:Int)=(p:Int):=ω
 have b3:i<=100000:=ω;have b4:j<=100000:=ω;have b5:p<=100000:=ω;have B3:IntKind.i64.wrap (i:Int)=(i:Int):=by rw[IntKind.wrap_i64];omega
 have B2:IntKind.i64.wrap (j:Int)=(j:Int):=by rw[IntKind.wrap_i64];omega
 have C0:IntKind.i64.wrap (p:Int)=(p:Int):=by rw[IntKind.wrap_i64];omega
 have A2:=zH A0;have A3:=zH A7;clear A0 A7;rcases Nat.lt_trichotomy i j with hij|hij|hij
 ·-- i < j
  obtain⟨d,hd⟩:∃d,d+i=j:=⟨j-i,ω⟩;have e2:(j:Int)-(i:Int)=(d:Int):=ω
  obtain⟨q,hq⟩:∃q,q=m+d:=⟨_,rfl⟩;have e3:(m:Int)+(j:Int)-(i:Int)=(q:Int):=ω
  have n1:¬(i:Int)=(j:Int):=ω;have n2:((i:Int) != (j:Int))=true:=by simp;omega
  have n3:¬(j:Int)<(i:Int):=ω;have B5:IntKind.i64.wrap (d:Int)=(d:Int):=by rw[IntKind.wrap_i64];omega
  have B9:IntKind.i64.wrap (q:Int)=(q:Int):=by rw[IntKind.wrap_i64];have:=A2.1;have:=A3.1;omega
  have B8:IntKind.i64.wrap ((m:Int)+(j:Int))=(m:Int)+(j:Int):=by rw[IntKind.wrap_i64];omega
  have A8:B'=B'.take d++B'.drop d:=(List.take_append_drop d B').symm;have l1:(B'.take d).length=d:=by rw[uJ];have:=HJ.1;omega
  have l2:(B'.drop d).length=i:=by rw[List.length_drop];have:=HJ.1;omega
  have HC:=zH (swapRange_any enc hk h1 w0 wr g cap p q i T rest (P'++(A'++(B'++S'))) cb A4.1 (by rw[HN.1];have:=A2.1;omega) (by rw[HN.1];have:=A2.1;have:=A3.1;omega) (by rw[HN.1];exact hsz));rw[HN.1]at HC;have A1:Jc (P'++(A'++(B'++S'))) p q i=P'++(B'.drop d++(B'.take d++(A'++S'))):=by
   have h:=Jn P' A' (B'.take d) (B'.drop d) S' i HI.1 l2;rw[l1,HP.1,show p+i+d=q by have:=A3.1;omega,<-uK (B'.take d) (B'.drop d) S',<-A8]at h;exact h
  rw[A1]at HC;have A6:P'++(B'.take d++(B'.drop d++(A'++S')))=P++(B++(A++S)):=by rw[<-uK (B'.take d),<-A8];exact HT.1
  have B0:=zH A6;have HD:=zH (And.intro hd (And.intro l1 l2));clear A1 A6 A8 l1 l2 hd hq hij;go_wp2_with (go_at_call 197;refine HC.1.mono ?_;rintro e w2 ⟨rfl,A5⟩)
  go_roundg (i+d)
  case measure=>have:=HD.1.1;have:=HI.1;have:=HJ.1;omega
  case rel=>exact⟨P',B'.drop d,B'.take d,A'++S',by rw[HD.1.2.1,HD.1.2.2],by rw[HD.1.2.2],by rw[HD.1.2.1],by intro h;have:=HD.1.2.2;rw[h]at this;simp at this;omega,by intro h;have h2:=HD.1.2.1;rw[h]at h2;simp at h2;omega,by rw[HP.1,HD.1.2.2];exact A3.1,by have:=A2.1;have:=HD.1;simp[HP.1,HI.1,HD.1.2.1,HD.1.2.2]at*;omega,B0.1,A5⟩
 ·-- i = j
  subst hij;have n2:((i:Int) != (i:Int))=false:=by simp
  have HC:=zH (swapRange_any enc hk h1 w0 wr g cap p m i T rest (P'++(A'++(B'++S'))) cb A4.1 (by rw[HN.1];have:=A2.1;omega) (by rw[HN.1];have:=A2.1;have:=A3.1;omega) (by rw[HN.1];exact hsz));rw[HN.1]at HC;have A1:Jc (P'++(A'++(B'++S'))) p m i=P++(B++(A++S)):=by
   have h:=Jn P' A' [] B' S' i HI.1 HJ.1;rw[HP.1,List.length_nil,vM,A3.1]at h;exact h.trans HT.1
  rw[A1]at HC;clear A1;go_wp2_with (go_at_call 197;refine HC.1.mono ?_;rintro e w2 ⟨rfl,A5⟩)
  go_end0
  exact⟨rfl,A5⟩
 -- i > j
 obtain⟨d,hd⟩:∃d,d+j=i:=⟨i-j,ω⟩;have e2:(i:Int)-(j:Int)=(d:Int):=ω
 have n2:((i:Int) != (j:Int))=true:=by simp;omega
 have n3:(j:Int)<(i:Int):=ω;have B5:IntKind.i64.wrap (d:Int)=(d:Int):=by rw[IntKind.wrap_i64];omega
 have A9:A'=A'.take j++A'.drop j:=(List.take_append_drop j A').symm;have l1:(A'.take j).length=j:=by rw[uJ];have:=HI.1;omega
 have l2:(A'.drop j).length=d:=by rw[List.length_drop];have:=HI.1;omega
 have HC:=zH (swapRange_any enc hk h1 w0 wr g cap p m j T rest (P'++(A'++(B'++S'))) cb A4.1 (by rw[HN.1];have:=A2.1;omega) (by rw[HN.1];have:=A2.1;have:=A3.1;omega) (by rw[HN.1];exact hsz));rw[HN.1]at HC;have A1:Jc (P'++(A'++(B'++S'))) p m j=(P'++B')++(A'.drop j++(A'.take j++S')):=by
  have h:=Jn P' (A'.take j) (A'.drop j) B' S' j l1 HJ.1;rw[l2,HP.1,show p+j+d=m by have:=A3.1;omega,<-uK (A'.take j),<-A9]at h;rw[h];simp only[uK]
 rw[A1]at HC;have A6:(P'++B')++(A'.take j++(A'.drop j++S'))=P++(B++(A++S)):=by rw[<-uK (A'.take j),<-A9,uK];exact HT.1
 have B0:=zH A6;have HD:=zH (And.intro hd (And.intro l1 l2));clear A1 A6 A9 l1 l2 hd hij;go_wp2_with (go_at_call 197;refine HC.1.mono ?_;rintro e w2 ⟨rfl,A5⟩)
 go_roundg (d+j)
 case measure=>have:=HD.1.1;have:=HI.1;have:=HJ.1;omega
 case rel=>exact⟨P'++B',A'.drop j,A'.take j,S',by rw[HD.1.2.1,HD.1.2.2],by rw[HD.1.2.2],by rw[HD.1.2.1],by intro h;have h2:=HD.1.2.2;rw[h]at h2;simp at h2;omega,by intro h;have h2:=HD.1.2.1;rw[h]at h2;simp at h2;omega,by rw[uC,HP.1,HJ.1,HD.1.2.2];have:=A3.1;have:=HD.1.1;omega,by have:=A2.1;have:=HD.1;simp[HP.1,HJ.1,HD.1.2.1,HD.1.2.2]at*;omega,B0.1,A5⟩
theorem insertion_any {α:Type}(enc:α->List Value)(hk:∀x,(enc x).length=5)(h1:∀x,∀v,v∈enc x->v.oneCell'=true)(lt:α->α->Bool)(W:Stb.Wk lt)(w0 w:World)(g cap a b N:Nat)(T:TypeId)(rest:List Value)(P X S:List α)(hc:(∀wr,Aj g w0 wr->∀x y:α,Calls prog 89 #[.agg (enc x).toArray,.agg (enc y).toArray] wr fun e w'=>∃z:Int,e= .returned (iV z)/\(z<0↔lt x y=true)/\Aa wr w'))(hst:Sw w0 w g T enc rest (P++(X++S)))(ha:P.length=a)(hb:a+X.length=b)(hN:(P++(X++S)).length=N)(hsz:N<=100000):
  Calls prog 166 #[.slice (π g) N cap,iV a,iV b,.func (.func 89) #[] #[]] w fun e w'=>e= .returned (.tuple #[])/\Sw w0 w' g T enc rest (P++(Stb.stab lt X++S)):=by
 have A6:P.length+(X.length+S.length)=N:=by rw[<-hN];simp
 have HC:=zH hc;have B0:=zH (show Sw w0 w g T enc rest (P++(Stb.stab lt (X.take 1)++(X.drop 1++S)))by rw[Stb.stab_take1,<-uK (X.take 1),List.take_append_drop];exact hst);have b1:a<=100000:=ω
 have b2:b<=100000:=ω;have C7:=zH ha;have D0:=zH A6;have HB:=zH hb;clear hst hc ha hb hN A6;go_enter func166,ntmps166
 go_wp2_with fail;go_loopg [8] (b+1-a) (fun c v wr=>∃t i:Nat,1<=t/\(t<=X.length\/t=1)/\i=a+t/\c=b+1-i+1/\v= iV i/\Sw w0 wr g T enc rest (P++(Stb.stab lt (X.take t)++(X.drop t++S))))
 case atStart=>exact⟨1,a+1,Bp _,Or.inr rfl,rfl,by have:=HB.1;omega,by go_num,B0.1⟩
 clear B0;obtain⟨t,i,D8,D1,hi,rfl,rfl,hst⟩:=hrel;have D4:=HB.1;have E0:i<=100001:=by have:=D0.1;have:=C7.1;omega
 by_cases hlt:i<b
 ·have D2:(i:Int)<(b:Int):=ω
  have B5:t<X.length:=ω;obtain⟨y,hy⟩:∃y,X[t]=y:=⟨_,rfl⟩;have C4:X.drop t=y::X.drop (t+1):=by rw[<-hy];exact List.drop_eq_getElem_cons B5
  have C1:X.take (t+1)=X.take t++[y]:=by rw[uT B5,hy]
  have C6:=zH (show Stb.stab lt (X.take (t+1))=Stb.ins lt (Stb.stab lt (X.take t)) y by rw[C1,Stb.stab_snoc]);have B1:=zH (Stb.stab_srt W (X.take t));have C5:(Stb.stab lt (X.take t)).length=t:=by rw[Stb.stab_len,uJ];omega
  rw[C4]at hst;generalize Stb.stab lt (X.take t)=L at*;have B2:=zH C5;have B6:=zH B5;have HI:=zH hi;have A9:=zH (show Sw w0 wr g T enc rest (P++(L.take t++y::(L.drop t++(X.drop (t+1)++S))))by rw[uI ω,List.drop_of_length_le ω];exact hst);clear hst C4 C1 hy C5 hi D1 D4;go_wp2_with fail
  go_loopg [9] t (fun c v wr=>∃u j:Nat,u<=t/\c=0+u/\j=a+u/\v= iV j/\(∀z,z∈L.drop u->lt y z=true)/\Sw w0 wr g T enc rest (P++(L.take u++y::(L.drop u++(X.drop (t+1)++S)))))
  case atStart=>exact⟨t,i,Bp _,ω,HI.1,rfl,by intro z hz;rw[List.drop_of_length_le (by have:=B2.1;omega)]at hz;simp at hz,A9.1⟩
  clear A9;obtain⟨u,j,hu,rfl,hj,rfl,A7,hst⟩:=hrel;have A3:=zH A7;have A0:=zH hst;have D9:j<=100000:=by have:=HI.1;omega
  have wj:IntKind.i64.wrap (j:Int)=(j:Int):=by rw[IntKind.wrap_i64];omega
  have C2:(P++(L.take u++y::(L.drop u++(X.drop (t+1)++S)))).length=N:=by
   have h1:=D0.1;have h2:=B6.1;have h3:=B2.1
   simp;omega
  have HJ:=zH hj;have HU:=zH hu;clear A7 hst;by_cases hu0:0<u
  ·obtain⟨p,hp⟩:∃p,p+1=j:=⟨j-1,ω⟩
   obtain⟨q,hq⟩:∃q,q+1=u:=⟨u-1,ω⟩;have C3:(a:Int)<(j:Int):=ω
   have e1:(j:Int)-1=(p:Int):=ω;have wp:IntKind.i64.wrap (p:Int)=(p:Int):=by rw[IntKind.wrap_i64];omega
   have D5:=C7.1;have A5:q<L.length:=by have:=B2.1;omega
   have gx:(P++(L.take u++y::(L.drop u++(X.drop (t+1)++S))))[p]?=some L[q]:=by
    have h:=Hl P (L.take u) (y::(L.drop u++(X.drop (t+1)++S))) q (by rw[uJ];omega);rw[show P.length+q=p by omega]at h;rw[h,List.getElem?_take,if_pos ω];exact uB A5
   have gy:(P++(L.take u++y::(L.drop u++(X.drop (t+1)++S))))[j]?=some y:=by
    rw[uH ω,uH (by rw[uJ];omega),uJ,show j-P.length-min u L.length=0 by have:=B2.1;omega];rfl
   have A8:=zH (show iE (P++(L.take u++y::(L.drop u++(X.drop (t+1)++S)))) j p=P++(L.take q++y::(L.drop q++(X.drop (t+1)++S)))by
    have h:=Ia P L (X.drop (t+1)++S) y q A5;rw[show P.length+q=p by omega,hp,hq]at h;exact h)
   have D7:=zH (show∀z,z∈L.drop q->z=L[q]\/z∈L.drop u by
    intro z hz;rw[List.drop_eq_getElem_cons A5,hq]at hz;simpa using hz)
   have A2:=zH (fun h=>Stb.ins_stop W (y:=y) B1.1 A3.1 (by have:=B2.1;omega) (Or.inr ⟨q,hq,A5,h⟩));have bj:(j:Int)<(N:Int):=by rw[<-C2];have:=(List.getElem?_eq_some_iff.1 gy).1;omega
   have bp:(p:Int)<(N:Int):=ω;have HE:=zH (Ho gy gx);have C9:=zH (List.getElem?_eq_some_iff.1 gy).1;have C8:=zH (List.getElem?_eq_some_iff.1 gx).1;have Hx:=zH gx;have Hy:=zH gy;generalize L[q]=x at*
   generalize hrow:P++(L.take u++y::(L.drop u++(X.drop (t+1)++S)))=row at*;have HQ:=zH (And.intro hq hp);have B7:=zH hrow;clear gx gy A5 hu hq hp hj D5 hrow;go_upto_region 4 with fail
   refine wp_region_held_drew (S:=fun x=>Aa wr x) (by kernel_rfl) Ad.drew (fun _=> ?_);refine zv 0 (bs 17 1) Ad.drew ?_;refine zv 1 (bs 17 3) Ad.drew ?_;refine zv 2 (bs 17 7) Ad.drew ?_;refine zv 3 (bs 17 15) Ad.drew ?_;refine zv 4 (bs 17 31) Ad.drew ?_;refine zv 5 (bs 17 63) Ad.drew ?_;refine zv 6 (bs 17 127) Ad.drew ?_;refine zv 7 (bs 17 255) Ad.drew ?_;refine Cr (i:=8) (listed':=(bs 17 511)) (by rfl) (by kernel_rfl) (by kernel_rfl) (by kernel_rfl) _ _ (by rfl) g (j*5) (enc y) _ (by intro _ _ _ h;exact h) (by rfl) (by rfl) (fun w1 hw1=>(A0.1.ext hw1).read Hy.1 hk) underlying77 (by rfl) (by rw[hk];kernel_rfl) Ad.drew (by kernel_rfl) ?_;try simp only[ζ]
   refine zv 9 (bs 17 1023) Ad.drew ?_;refine zv 10 (bs 17 2047) Ad.drew ?_;refine zv 11 (bs 17 4095) Ad.drew ?_;refine zv 12 (bs 17 8191) Ad.drew ?_;refine Cr (i:=13) (listed':=(bs 17 16383)) (by rfl) (by kernel_rfl) (by kernel_rfl) (by kernel_rfl) _ _ (by rfl) g (p*5) (enc x) _ (by intro _ _ _ h;exact h) (by rfl) (by rfl) (fun w1 hw1=>(A0.1.ext hw1).read Hx.1 hk) underlying77 (by rfl) (by rw[hk];kernel_rfl) Ad.drew (by kernel_rfl) ?_;try simp only[ζ]
   refine mC 14 (bs 17 32767) (HC.1 _ ((A0.1.ext Ad.drew).own) y x) ?_;rintro e w2 ⟨z,rfl,hz,C0⟩;have A1:=zH (show Aa wr w2 from Ad.drew.trans C0);clear C0;refine⟨_,rfl,A1.1,?_⟩;try simp only[ζ]
   by_cases hlt:lt y x=true
   ·have B8:=zH hlt
    have A4:z<0:=hz.2 hlt;have B4:decide (z<0)=true:=by simpa using A4
    clear hz;refine zv 15 (bs 17 65535) A1.1 ?_;refine zv 16 (bs 17 131071) A1.1 ?_;refine wpAnyH_done (by kernel_rfl) ?_ _;clear hlt A4 B4;have A0:=zH (A0.1.ext A1.1);clear A1;have E2:row.length=N:=C2;generalize w2=wr at*
    go_upto_region 6 with fail;refine wp_region_held_drew (S:=fun x=>Aj g wr x) (by kernel_rfl) (Aj.refl _ _).drew (fun _=> ?_);refine zv 0 (bs 18 1) (Aj.refl _ _).drew ?_;refine zv 1 (bs 18 3) (Aj.refl _ _).drew ?_;refine zv 2 (bs 18 7) (Aj.refl _ _).drew ?_;refine zv 3 (bs 18 15) (Aj.refl _ _).drew ?_;refine zv 4 (bs 18 31) (Aj.refl _ _).drew ?_;refine zv 5 (bs 18 63) (Aj.refl _ _).drew ?_;refine zv 6 (bs 18 127) (Aj.refl _ _).drew ?_;refine zv 7 (bs 18 255) (Aj.refl _ _).drew ?_;refine zv 8 (bs 18 511) (Aj.refl _ _).drew ?_;refine zv 10 (bs 18 1535) (Aj.refl _ _).drew ?_;refine zv 11 (bs 18 3583) (Aj.refl _ _).drew ?_;refine zv 12 (bs 18 7679) (Aj.refl _ _).drew ?_;refine Gi (i:=9) (j:=13) (li:=(bs 18 8191)) (lj:=(bs 18 15871)) (listed':=(bs 18 16383)) (by rfl) (by rfl) (by kernel_rfl) (by kernel_rfl) (by kernel_rfl) (by kernel_rfl) (by kernel_rfl) (by kernel_rfl) (by kernel_rfl) 77 _ _ (by rfl) (by rfl) (by rfl) (by rfl) g (p*5) (j*5) (enc x) (enc y) _ underlying77 (by rfl) (by rfl) (by rfl) (by rfl) (by rfl) (A0.1.ext Ad.drew |>.read Hx.1 hk) (A0.1.ext Ad.drew |>.read Hy.1 hk) (by rw[hk];kernel_rfl) (by rw[hk];kernel_rfl) (Aj.refl _ _).drew (by rfl) ?_;try simp only[ζ]
    refine zv 14 (bs 18 32767) (Aj.refl _ _).drew ?_;have B3:=(A0.1.ext Ad.drew).put (i:=j) C9.1 hk x;have B9:=B3.put (i:=p) (by rw[uM];exact C8.1) hk y;refine Dc (i:=15) (listed':=(bs 18 65535)) (by rfl) (by kernel_rfl) (by rfl) 77 _ _ (by rfl) g (j*5) (enc x) (by rfl) (by rfl) (by rw[hk];exact(A0.1.ext Ad.drew).there C9.1 hk) (by rw[hk];kernel_rfl) (h1 x) (Aj.setCells_l _ _ (Aj.refl _ _).drew) (by kernel_rfl) ?_
    (try simp only[Act.put])
    refine zv 16 (bs 18 131071) (Aj.setCells_l _ _ (Aj.refl _ _).drew) ?_;refine Dc (i:=17) (listed':=(bs 18 262143)) (by rfl) (by kernel_rfl) (by rfl) 77 _ _ (by rfl) g (p*5) (enc y) (by rfl) (by rfl) (by rw[hk];exact B3.there (by rw[uM];exact C8.1) hk) (by rw[hk];kernel_rfl) (h1 y) (Aj.setCells_l _ _ (Aj.setCells_l _ _ (Aj.refl _ _).drew)) (by kernel_rfl) ?_
    (try simp only[Act.put])
    refine wpAnyH_done (by kernel_rfl) ?_ _;have D6:=zH B9;clear B3 B9;generalize (World.setCells _ g (p*5) (enc y))=w3 at*
    go_wp2_with fail;go_roundg q
    case measure=>have:=HQ.1.1;omega
    case rel=>exact⟨q,p,by have:=HQ.1;have:=HU.1;omega,ω,by have:=HQ.1;have:=HJ.1;omega,rfl,fun z hz=>(D7.1 z hz).elim (fun h=>by rw[h];exact B8.1) (A3.1 z),by rw[<-A8.1,HE.1];exact D6.1⟩
   have B8:=zH (eq_false_of_ne_true hlt);have A4:¬z<0:=fun h=>hlt (hz.1 h)
   have B4:decide (z<0)=false:=by simpa using A4
   clear hz;refine zv 15 (bs 17 65535) A1.1 ?_;refine zv 16 (bs 17 131071) A1.1 ?_;refine wpAnyH_done (by kernel_rfl) ?_ _;clear hlt A4 B4;have HR:=zH (show Sw w0 w2 g T enc rest (P++(Stb.stab lt (X.take (t+1))++(X.drop (t+1)++S)))by rw[C6.1,A2.1 B8.1];have h:=A0.1.ext A1.1;rw[<-B7.1]at h;simpa using h);go_wp2_with fail
   go_roundg (b+1-(i+1)+1)
   case measure=>omega
   case rel=>exact⟨t+1,i+1,ω,Or.inl B6.1,by have:=HI.1;omega,ω,by go_num,HR.1⟩
  obtain rfl:u=0:=ω;have C3:¬(a:Int)<(j:Int):=ω;have D3:decide ((a:Int)<(j:Int))=false:=by simpa using C3
  have A2:=zH (Stb.ins_stop W (y:=y) B1.1 A3.1 (uL _) (Or.inl rfl));go_upto_region 4 with fail;refine wp_region_held_drew (S:=fun x=>Aa wr x) (by kernel_rfl) Ad.drew (fun _=> ?_);refine zv 0 (bs 17 1) Ad.drew ?_;refine zv 1 (bs 17 3) Ad.drew ?_;refine zv 2 (bs 17 7) Ad.drew ?_;refine zv 3 (bs 17 15) Ad.drew ?_;refine zs 4 (bs 17 31) Ad.drew ?_;refine zs 5 (bs 17 63) Ad.drew ?_;refine zs 6 (bs 17 127) Ad.drew ?_;refine zs 7 (bs 17 255) Ad.drew ?_;refine zs 8 (bs 17 511) Ad.drew ?_;refine zs 9 (bs 17 1023) Ad.drew ?_;refine zs 10 (bs 17 2047) Ad.drew ?_;refine zs 11 (bs 17 4095) Ad.drew ?_;refine zs 12 (bs 17 8191) Ad.drew ?_;refine zs 13 (bs 17 16383) Ad.drew ?_;refine zs 14 (bs 17 32767) Ad.drew ?_;refine zs 15 (bs 17 65535) Ad.drew ?_;refine zv 16 (bs 17 131071) Ad.drew ?_;refine wpAnyH_done (by kernel_rfl) ?_ _;have HR:=zH (show Sw w0 wr.drew g T enc rest (P++(Stb.stab lt (X.take (t+1))++(X.drop (t+1)++S)))by rw[C6.1,A2.1];have h:=A0.1.ext Ad.drew;simpa using h);go_wp2_with fail
  go_roundg (b+1-(i+1)+1)
  case measure=>omega
  case rel=>exact⟨t+1,i+1,ω,Or.inl B6.1,by have:=HI.1;omega,ω,by go_num,HR.1⟩
 have A0:=zH (show Sw w0 wr g T enc rest (P++(Stb.stab lt X++S))by rw[uI ω,List.drop_of_length_le ω]at hst;exact hst);have E1:¬(i:Int)<(b:Int):=ω
 clear hst;go_wp2_with fail;go_end0
 exact⟨rfl,A0.1⟩
theorem symA_any {α:Type}(enc:α->List Value)(hk:∀x,(enc x).length=5)(h1:∀x,∀v,v∈enc x->v.oneCell'=true)(lt:α->α->Bool)(W:Stb.Wk lt)(w0 w:World)(g cap a m b N:Nat)(T:TypeId)(rest:List Value)(P B S:List α)(x:α)(hc:(∀wr,Aj g w0 wr->∀x y:α,Calls prog 89 #[.agg (enc x).toArray,.agg (enc y).toArray] wr fun e w'=>∃z:Int,e= .returned (iV z)/\(z<0↔lt x y=true)/\Aa wr w'))(hst:Sw w0 w g T enc rest (P++(x::(B++S))))(ha:P.length=a)(hm:a+1=m)(hb:m+B.length=b)(hB:Stb.Srt lt B)(hN:(P++(x::(B++S))).length=N)(hsz:N<=100000):
  Calls prog 167 #[.slice (π g) N cap,iV a,iV m,iV b,.func (.func 89) #[] #[]] w fun e w'=>e= .returned (.tuple #[])/\Sw w0 w' g T enc rest (P++(Stb.mrg lt [x] B++S)):=by
 have A3:P.length+(1+(B.length+S.length))=N:=by rw[<-hN];simp;omega
 have e1:(m:Int)-(a:Int)=1:=ω;have b1:a<=100000:=ω;have b2:m<=100000:=ω;have b3:b<=100000:=ω;have ba:(a:Int)<(N:Int):=ω;have D8:IntKind.i64.wrap (a:Int)=(a:Int):=by rw[IntKind.wrap_i64];omega
 have C2:(P++(x::(B++S)))[a]?=some x:=by rw[<-ha];simp
 have gz:∀t z,B[t]?=some z->(P++(x::(B++S)))[m+t]?=some z:=fun t z h=>by
  have h2:=Hl (P++[x]) B S t (List.getElem?_eq_some_iff.1 h).1;rw[show(P++[x]).length+t=m+t by simp;omega,h]at h2;simpa using h2
 have HC:=zH hc;have A5:=zH hst;have D3:=zH gz;have Hx:=zH C2;have HF:=zH (And.intro ha (And.intro hm (And.intro hb A3)));have HN:=zH hN;have D4:=zH hB;have E3:m+B.length=b:=hb;have E0:b<=N:=ω
 clear hst hc ha hm hb hN A3 gz C2 hB;go_enter func167,ntmps167;go_wp2_with fail;go_loopg [10,11] B.length (fun c u v wr=>∃s e i j:Nat,s<=e/\e<=B.length/\c=e-s/\i=m+s/\j=m+e/\u= iV i/\v= iV j/\(s=0\/∃z,B[s-1]?=some z/\lt z x=true)/\(B.length<=e\/∃z,B[e]?=some z/\lt z x=false)/\Sw w0 wr g T enc rest (P++(x::(B++S))))
 case atStart=>exact⟨0,B.length,m,b,uL _,Bp _,ω,rfl,ω,rfl,rfl,Or.inl rfl,Or.inl (Bp _),A5.1⟩
 clear A5;obtain⟨s,e,i,j,E1,C9,rfl,hi,hj,rfl,rfl,C1,C0,hst⟩:=hrel;have A0:=zH hst;have HI:=zH (And.intro hi hj);have H1:=zH C1;have H2:=zH C0;have bi:i<=100000:=ω
 have bj:j<=100000:=ω;clear hst C1 C0;by_cases hlt0:s<e
 ·have C8:(i:Int)<(j:Int):=ω
  obtain⟨ss,C6⟩:∃ss,ss=i+j:=⟨_,rfl⟩;obtain⟨h,hh⟩:∃h,h=ss/2:=⟨_,rfl⟩;have e3:(i:Int)+(j:Int)=(ss:Int):=ω
  obtain⟨c,B2⟩:∃c,h=m+c:=⟨h-m,ω⟩;have B9:s<=c/\c<e:=ω
  have wu:IntKind.u64.wrap (ss:Int)=(ss:Int):=by rw[IntKind.wrap_u64];omega
  have ws:IntKind.i64.wrap (ss:Int)=(ss:Int):=by rw[IntKind.wrap_i64];omega
  have wh:IntKind.i64.wrap (h:Int)=(h:Int):=by rw[IntKind.wrap_i64];omega
  have D5:IntKind.u64.wrap (h:Int)=(h:Int):=by rw[IntKind.wrap_u64];omega
  have e2:(ss:Int)/2=(h:Int):=ω;have bh:(h:Int)<(N:Int):=ω;obtain⟨z0,A1⟩:∃z,B[c]?=some z:=⟨_,uB ω⟩;have B3:=zH (show(P++(x::(B++S)))[h]?=some z0 by rw[B2];exact D3.1 c z0 A1);have C3:=zH A1;have HH:=zH (And.intro B2 B9);clear A1 B2 B9 C6 hh hi hj;generalize hrow:P++(x::(B++S))=row at*
  have D2:=zH hrow;clear hrow;go_upto_region 5 with fail;refine wp_region_held_drew (S:=fun x=>Aa wr x) (by kernel_rfl) Ad.drew (fun _=> ?_);refine zv 0 (bs 11 1) Ad.drew ?_;refine zv 1 (bs 11 3) Ad.drew ?_;refine zv 2 (bs 11 7) Ad.drew ?_;refine zv 3 (bs 11 15) Ad.drew ?_;refine Cr (i:=4) (listed':=(bs 11 31)) (by rfl) (by kernel_rfl) (by kernel_rfl) (by kernel_rfl) _ _ (by rfl) g (h*5) (enc z0) _ (by intro _ _ _ h;exact h) (by rfl) (by rfl) (fun w1 hw1=>(A0.1.ext hw1).read B3.1 hk) underlying77 (by rfl) (by rw[hk];kernel_rfl) Ad.drew (by kernel_rfl) ?_;try simp only[ζ]
  refine zv 5 (bs 11 63) Ad.drew ?_;refine zv 6 (bs 11 127) Ad.drew ?_;refine zv 7 (bs 11 255) Ad.drew ?_;refine Cr (i:=8) (listed':=(bs 11 511)) (by rfl) (by kernel_rfl) (by kernel_rfl) (by kernel_rfl) _ _ (by rfl) g (a*5) (enc x) _ (by intro _ _ _ h;exact h) (by rfl) (by rfl) (fun w1 hw1=>(A0.1.ext hw1).read Hx.1 hk) underlying77 (by rfl) (by rw[hk];kernel_rfl) Ad.drew (by kernel_rfl) ?_;try simp only[ζ]
  refine mC 9 (bs 11 1023) (HC.1 _ ((A0.1.ext Ad.drew).own) z0 x) ?_;rintro e w2 ⟨z,rfl,hz,B6⟩;have A4:=zH (show Aa wr w2 from Ad.drew.trans B6);clear B6;refine⟨_,rfl,A4.1,?_⟩;try simp only[ζ]
  by_cases hlt:lt z0 x=true
  ·have B4:=zH hlt
   have A2:z<0:=hz.2 hlt;have A9:decide (z<0)=true:=by simpa using A2
   clear hz;refine zv 10 (bs 11 2047) A4.1 ?_;refine wpAnyH_done (by kernel_rfl) ?_ _;clear hlt A2 A9;have A0:=zH (A0.1.ext A4.1);go_wp2_with fail
   go_roundg (e-(c+1))
   case measure=>have:=HH.1;omega
   case rel=>exact⟨c+1,e,h+1,j,by have:=HH.1;omega,C9,rfl,by have:=HH.1;omega,HI.1.2,by go_num,rfl,Or.inr ⟨z0,C3.1,B4.1⟩,H2.1,A0.1⟩
  have B4:=zH (eq_false_of_ne_true hlt);have A2:¬z<0:=fun h=>hlt (hz.1 h)
  have A9:decide (z<0)=false:=by simpa using A2
  clear hz;refine zv 10 (bs 11 2047) A4.1 ?_;refine wpAnyH_done (by kernel_rfl) ?_ _;clear hlt A2 A9;have A0:=zH (A0.1.ext A4.1);go_wp2_with fail
  go_roundg (c-s)
  case measure=>have:=HH.1;omega
  case rel=>exact⟨s,c,i,h,by have:=HH.1;omega,by have:=HH.1;omega,rfl,HI.1.1,by have:=HH.1;omega,rfl,rfl,H1.1,Or.inr ⟨z0,C3.1,B4.1⟩,A0.1⟩
 obtain rfl:s=e:=ω;have C8:¬(i:Int)<(j:Int):=ω;have HM:=zH (Stb.one_left W D4.1 H1.1 H2.1);obtain⟨im,B8⟩:∃im,im+1=i:=⟨i-1,by have:=HF.1;omega⟩;have e4:(i:Int)-1=(im:Int):=ω
 have D7:IntKind.i64.wrap (im:Int)=(im:Int):=by rw[IntKind.wrap_i64];omega
 have C4:=zH B8;clear hi hj B8 Hx;go_wp2_with fail;go_loopg [13] s (fun c v wr=>∃t k:Nat,t<=s/\c=s-t/\k=a+t/\v= iV k/\Sw w0 wr g T enc rest (P++(B.take t++x::(B.drop t++S))))
 case atStart=>exact⟨0,a,uL _,rfl,rfl,rfl,by simpa using A0.1⟩
 clear A0;obtain⟨t,k0,D9,rfl,B7,rfl,hst⟩:=hrel;by_cases hlt:t<s
 ·have hF:=HF.1
  have hI:=HI.1;have D0:=C4.1;have C7:(k0:Int)<(im:Int):=ω
  obtain⟨k1,B1⟩:∃k1,k1=k0+1:=⟨_,rfl⟩;have e5:(k0:Int)+1=(k1:Int):=ω
  have wk:IntKind.i64.wrap (k1:Int)=(k1:Int):=by rw[IntKind.wrap_i64];omega
  have D6:IntKind.i64.wrap (k0:Int)=(k0:Int):=by rw[IntKind.wrap_i64];omega
  have E4:(k1:Int)<(N:Int):=ω;have E5:(k0:Int)<(N:Int):=ω;have C5:t<B.length:=ω;have B0:=Rb P B S x t C5;rw[show P.length+t=k0 by omega,<-B1]at B0;have E2:(P++(B.take t++x::(B.drop t++S))).length=N:=by simp;omega
  have gx:(P++(B.take t++x::(B.drop t++S)))[k0]?=some x:=by
   rw[uH ω,uH (by rw[uJ];omega),uJ,show k0-P.length-min t B.length=0 by omega];rfl
  obtain⟨z0,A1⟩:∃z,(P++(B.take t++x::(B.drop t++S)))[k1]?=some z:=⟨_,uB ω⟩;have HE:=zH ((Ho gx A1).symm.trans B0);have Hx:=zH gx;have B3:=zH A1;have A7:=zH (List.getElem?_eq_some_iff.1 gx).1;have A6:=zH (List.getElem?_eq_some_iff.1 A1).1;have A0:=zH hst;generalize P++(B.take t++x::(B.drop t++S))=row at*
  have HK:=zH (And.intro B7 B1);clear gx A1 B0 hst hF hI D0 B7 B1;go_upto_region 11 with fail;refine wp_region_held_drew (S:=fun x=>Aj g wr x) (by kernel_rfl) (Aj.refl _ _).drew (fun _=> ?_);refine zv 0 (bs 18 1) (Aj.refl _ _).drew ?_;refine zv 1 (bs 18 3) (Aj.refl _ _).drew ?_;refine zv 2 (bs 18 7) (Aj.refl _ _).drew ?_;refine zv 3 (bs 18 15) (Aj.refl _ _).drew ?_;refine zv 4 (bs 18 31) (Aj.refl _ _).drew ?_;refine zv 5 (bs 18 63) (Aj.refl _ _).drew ?_;refine zv 6 (bs 18 127) (Aj.refl _ _).drew ?_;refine zv 7 (bs 18 255) (Aj.refl _ _).drew ?_;refine zv 8 (bs 18 511) (Aj.refl _ _).drew ?_;refine zv 10 (bs 18 1535) (Aj.refl _ _).drew ?_;refine zv 11 (bs 18 3583) (Aj.refl _ _).drew ?_;refine zv 12 (bs 18 7679) (Aj.refl _ _).drew ?_;refine Gi (i:=9) (j:=13) (li:=(bs 18 8191)) (lj:=(bs 18 15871)) (listed':=(bs 18 16383)) (by rfl) (by rfl) (by kernel_rfl) (by kernel_rfl) (by kernel_rfl) (by kernel_rfl) (by kernel_rfl) (by kernel_rfl) (by kernel_rfl) 77 _ _ (by rfl) (by rfl) (by rfl) (by rfl) g (k1*5) (k0*5) (enc z0) (enc x) _ underlying77 (by rfl) (by rfl) (by rfl) (by rfl) (by rfl) (A0.1.ext Ad.drew |>.read B3.1 hk) (A0.1.ext Ad.drew |>.read Hx.1 hk) (by rw[hk];kernel_rfl) (by rw[hk];kernel_rfl) (Aj.refl _ _).drew (by rfl) ?_;try simp only[ζ]
  refine zv 14 (bs 18 32767) (Aj.refl _ _).drew ?_;have A8:=(A0.1.ext Ad.drew).put (i:=k0) A7.1 hk z0;have B5:=A8.put (i:=k1) (by rw[uM];exact A6.1) hk x;refine Dc (i:=15) (listed':=(bs 18 65535)) (by rfl) (by kernel_rfl) (by rfl) 77 _ _ (by rfl) g (k0*5) (enc z0) (by rfl) (by rfl) (by rw[hk];exact(A0.1.ext Ad.drew).there A7.1 hk) (by rw[hk];kernel_rfl) (h1 z0) (Aj.setCells_l _ _ (Aj.refl _ _).drew) (by kernel_rfl) ?_
  (try simp only[Act.put])
  refine zv 16 (bs 18 131071) (Aj.setCells_l _ _ (Aj.refl _ _).drew) ?_;refine Dc (i:=17) (listed':=(bs 18 262143)) (by rfl) (by kernel_rfl) (by rfl) 77 _ _ (by rfl) g (k1*5) (enc x) (by rfl) (by rfl) (by rw[hk];exact A8.there (by rw[uM];exact A6.1) hk) (by rw[hk];kernel_rfl) (h1 x) (Aj.setCells_l _ _ (Aj.setCells_l _ _ (Aj.refl _ _).drew)) (by kernel_rfl) ?_
  (try simp only[Act.put])
  refine wpAnyH_done (by kernel_rfl) ?_ _;have D1:=zH B5;clear A8 B5;generalize (World.setCells _ g (k1*5) (enc x))=w3 at*
  go_wp2_with fail;go_roundg (s-(t+1))
  case measure=>omega
  case rel=>exact⟨t+1,k1,hlt,rfl,by have:=HK.1;omega,rfl,by rw[<-HE.1];exact D1.1⟩
 obtain rfl:t=s:=ω;have HR:=zH (show Sw w0 wr g T enc rest (P++(Stb.mrg lt [x] B++S))by rw[HM.1];simpa using hst);have C7:¬(k0:Int)<(im:Int):=by have:=HF.1;have:=HI.1;have:=C4.1;omega
 clear hst;go_wp2_with fail;refine bodyPost_ret (results_none rfl _ _ _) rfl ?_;exact⟨rfl,HR.1⟩
theorem symB_any {α:Type}(enc:α->List Value)(hk:∀x,(enc x).length=5)(h1:∀x,∀v,v∈enc x->v.oneCell'=true)(lt:α->α->Bool)(W:Stb.Wk lt)(w0 w:World)(g cap a m b N:Nat)(T:TypeId)(rest:List Value)(P A S:List α)(y:α)(hc:(∀wr,Aj g w0 wr->∀x y:α,Calls prog 89 #[.agg (enc x).toArray,.agg (enc y).toArray] wr fun e w'=>∃z:Int,e= .returned (iV z)/\(z<0↔lt x y=true)/\Aa wr w'))(hst:Sw w0 w g T enc rest (P++(A++(y::S))))(ha:P.length=a)(hm:a+A.length=m)(hb:m+1=b)(hA1:A.length≠1)(hA:Stb.Srt lt A)(hN:(P++(A++(y::S))).length=N)(hsz:N<=100000):
  Calls prog 167 #[.slice (π g) N cap,iV a,iV m,iV b,.func (.func 89) #[] #[]] w fun e w'=>e= .returned (.tuple #[])/\Sw w0 w' g T enc rest (P++(Stb.mrg lt A [y]++S)):=by
 have A4:P.length+(A.length+(1+S.length))=N:=by rw[<-hN];simp;omega
 obtain⟨d1,C7⟩:∃d1,a+d1=m:=⟨A.length,hm⟩;have e0:(m:Int)-(a:Int)=(d1:Int):=ω
 have E0:((d1:Int)==1)=false:=by simp;omega
 have wd:IntKind.i64.wrap (d1:Int)=(d1:Int):=by rw[IntKind.wrap_i64];omega
 have e1:(b:Int)-(m:Int)=1:=ω;have b1:a<=100000:=ω;have b2:m<=100000:=ω;have b3:b<=100000:=ω;have ba:(m:Int)<(N:Int):=ω;have D3:IntKind.i64.wrap (m:Int)=(m:Int):=by rw[IntKind.wrap_i64];omega
 have C2:(P++(A++(y::S)))[m]?=some y:=by
  rw[uH ω,uH ω,show m-P.length-A.length=0 by omega];rfl
 have gz:∀t z,A[t]?=some z->(P++(A++(y::S)))[a+t]?=some z:=fun t z h=>by
  have h2:=Hl P A (y::S) t (List.getElem?_eq_some_iff.1 h).1;rw[show P.length+t=a+t by omega,h]at h2;exact h2
 have HC:=zH hc;have A5:=zH hst;have C9:=zH gz;have Hy:=zH C2;have HF:=zH (And.intro ha (And.intro hm (And.intro hb A4)));have HN:=zH hN;have D0:=zH hA;have D9:a+A.length=m:=hm;have D6:m<N:=ω
 clear hst hc ha hm hb hN A4 gz C2 hA C7;go_enter func167,ntmps167;go_wp2_with fail;go_loopg [14,15] A.length (fun c u v wr=>∃s e i j:Nat,s<=e/\e<=A.length/\c=e-s/\i=a+s/\j=a+e/\u= iV i/\v= iV j/\(s=0\/∃z,A[s-1]?=some z/\lt y z=false)/\(A.length<=e\/∃z,A[e]?=some z/\lt y z=true)/\Sw w0 wr g T enc rest (P++(A++(y::S))))
 case atStart=>exact⟨0,A.length,a,m,uL _,Bp _,ω,rfl,ω,rfl,rfl,Or.inl rfl,Or.inl (Bp _),A5.1⟩
 clear A5;obtain⟨s,e,i,j,D7,B8,rfl,hi,hj,rfl,rfl,C1,C0,hst⟩:=hrel;have A0:=zH hst;have HI:=zH (And.intro hi hj);have H1:=zH C1;have H2:=zH C0;have bi:i<=100000:=ω
 have bj:j<=100000:=ω;clear hst C1 C0;by_cases hlt0:s<e
 ·have C6:(i:Int)<(j:Int):=ω
  obtain⟨ss,C4⟩:∃ss,ss=i+j:=⟨_,rfl⟩;obtain⟨h,hh⟩:∃h,h=ss/2:=⟨_,rfl⟩;have e3:(i:Int)+(j:Int)=(ss:Int):=ω
  obtain⟨c,B2⟩:∃c,h=a+c:=⟨h-a,ω⟩;have B9:s<=c/\c<e:=ω
  have wu:IntKind.u64.wrap (ss:Int)=(ss:Int):=by rw[IntKind.wrap_u64];omega
  have ws:IntKind.i64.wrap (ss:Int)=(ss:Int):=by rw[IntKind.wrap_i64];omega
  have wh:IntKind.i64.wrap (h:Int)=(h:Int):=by rw[IntKind.wrap_i64];omega
  have D1:IntKind.u64.wrap (h:Int)=(h:Int):=by rw[IntKind.wrap_u64];omega
  have e2:(ss:Int)/2=(h:Int):=ω;have bh:(h:Int)<(N:Int):=ω;obtain⟨z0,A1⟩:∃z,A[c]?=some z:=⟨_,uB ω⟩;have B3:=zH (show(P++(A++(y::S)))[h]?=some z0 by rw[B2];exact C9.1 c z0 A1);have C3:=zH A1;have HH:=zH (And.intro B2 B9);clear A1 B2 B9 C4 hh hi hj;generalize hrow:P++(A++(y::S))=row at*
  clear hrow;go_upto_region 17 with fail;refine wp_region_held_drew (S:=fun x=>Aa wr x) (by kernel_rfl) Ad.drew (fun _=> ?_);refine zv 0 (bs 12 1) Ad.drew ?_;refine zv 1 (bs 12 3) Ad.drew ?_;refine zv 2 (bs 12 7) Ad.drew ?_;refine zv 3 (bs 12 15) Ad.drew ?_;refine Cr (i:=4) (listed':=(bs 12 31)) (by rfl) (by kernel_rfl) (by kernel_rfl) (by kernel_rfl) _ _ (by rfl) g (m*5) (enc y) _ (by intro _ _ _ h;exact h) (by rfl) (by rfl) (fun w1 hw1=>(A0.1.ext hw1).read Hy.1 hk) underlying77 (by rfl) (by rw[hk];kernel_rfl) Ad.drew (by kernel_rfl) ?_;try simp only[ζ]
  refine zv 5 (bs 12 63) Ad.drew ?_;refine zv 6 (bs 12 127) Ad.drew ?_;refine zv 7 (bs 12 255) Ad.drew ?_;refine Cr (i:=8) (listed':=(bs 12 511)) (by rfl) (by kernel_rfl) (by kernel_rfl) (by kernel_rfl) _ _ (by rfl) g (h*5) (enc z0) _ (by intro _ _ _ h;exact h) (by rfl) (by rfl) (fun w1 hw1=>(A0.1.ext hw1).read B3.1 hk) underlying77 (by rfl) (by rw[hk];kernel_rfl) Ad.drew (by kernel_rfl) ?_;try simp only[ζ]
  refine mC 9 (bs 12 1023) (HC.1 _ ((A0.1.ext Ad.drew).own) y z0) ?_;rintro e w2 ⟨z,rfl,hz,B6⟩;have A2:=zH (show Aa wr w2 from Ad.drew.trans B6);clear B6;refine⟨_,rfl,A2.1,?_⟩;try simp only[ζ]
  by_cases hlt:lt y z0=true
  ·have B4:=zH hlt
   have A3:z<0:=hz.2 hlt;have A9:decide (z<0)=true:=by simpa using A3
   clear hz;refine zv 10 (bs 12 2047) A2.1 ?_;refine zv 11 (bs 12 4095) A2.1 ?_;refine wpAnyH_done (by kernel_rfl) ?_ _;clear hlt A3 A9;have A0:=zH (A0.1.ext A2.1);go_wp2_with fail
   go_roundg (c-s)
   case measure=>have:=HH.1;omega
   case rel=>exact⟨s,c,i,h,by have:=HH.1;omega,by have:=HH.1;omega,rfl,HI.1.1,by have:=HH.1;omega,rfl,rfl,H1.1,Or.inr ⟨z0,C3.1,B4.1⟩,A0.1⟩
  have B4:=zH (eq_false_of_ne_true hlt);have A3:¬z<0:=fun h=>hlt (hz.1 h)
  have A9:decide (z<0)=false:=by simpa using A3
  clear hz;refine zv 10 (bs 12 2047) A2.1 ?_;refine zv 11 (bs 12 4095) A2.1 ?_;refine wpAnyH_done (by kernel_rfl) ?_ _;clear hlt A3 A9;have A0:=zH (A0.1.ext A2.1);go_wp2_with fail
  go_roundg (e-(c+1))
  case measure=>have:=HH.1;omega
  case rel=>exact⟨c+1,e,h+1,j,by have:=HH.1;omega,B8,rfl,by have:=HH.1;omega,HI.1.2,by go_num,rfl,Or.inr ⟨z0,C3.1,B4.1⟩,H2.1,A0.1⟩
 obtain rfl:s=e:=ω;have C6:¬(i:Int)<(j:Int):=ω;have HM:=zH (Stb.one_right W D0.1 H1.1 H2.1);clear hi hj Hy;go_wp2_with fail;go_loopg [17] (A.length-s) (fun c v wr=>∃t k:Nat,s<=t/\t<=A.length/\c=t-s/\k=a+t/\v= iV k/\Sw w0 wr g T enc rest (P++(A.take t++y::(A.drop t++S))))
 case atStart=>exact⟨A.length,m,B8,Bp _,ω,ω,rfl,by simpa using A0.1⟩
 clear A0;obtain⟨t,k0,D4,D5,rfl,B7,rfl,hst⟩:=hrel;by_cases hlt:s<t
 ·have hF:=HF.1
  have hI:=HI.1;have C5:(i:Int)<(k0:Int):=ω
  obtain⟨k1,B1⟩:∃k1,k1+1=k0:=⟨k0-1,ω⟩;have e5:(k0:Int)-1=(k1:Int):=ω
  have wk:IntKind.i64.wrap (k1:Int)=(k1:Int):=by rw[IntKind.wrap_i64];omega
  have D2:IntKind.i64.wrap (k0:Int)=(k0:Int):=by rw[IntKind.wrap_i64];omega
  have E1:(k1:Int)<(N:Int):=ω;have E2:(k0:Int)<(N:Int):=ω;obtain⟨q,hq⟩:∃q,q+1=t:=⟨t-1,ω⟩;have B0:=Ia P A S y q ω;rw[show P.length+q=k1 by omega,B1,hq]at B0;have D8:(P++(A.take t++y::(A.drop t++S))).length=N:=by simp;omega
  have gx:(P++(A.take t++y::(A.drop t++S)))[k0]?=some y:=by
   rw[uH ω,uH (by rw[uJ];omega),uJ,show k0-P.length-min t A.length=0 by omega];rfl
  obtain⟨z0,A1⟩:∃z,(P++(A.take t++y::(A.drop t++S)))[k1]?=some z:=⟨_,uB ω⟩;have HE:=zH ((Ho gx A1).symm.trans B0);have Hy:=zH gx;have B3:=zH A1;have A7:=zH (List.getElem?_eq_some_iff.1 gx).1;have A6:=zH (List.getElem?_eq_some_iff.1 A1).1;have A0:=zH hst;generalize P++(A.take t++y::(A.drop t++S))=row at*
  have HK:=zH (And.intro B7 (And.intro B1 hq));clear gx A1 B0 hst hF hI B7 B1 hq;go_upto_region 23 with fail;refine wp_region_held_drew (S:=fun x=>Aj g wr x) (by kernel_rfl) (Aj.refl _ _).drew (fun _=> ?_);refine zv 0 (bs 18 1) (Aj.refl _ _).drew ?_;refine zv 1 (bs 18 3) (Aj.refl _ _).drew ?_;refine zv 2 (bs 18 7) (Aj.refl _ _).drew ?_;refine zv 3 (bs 18 15) (Aj.refl _ _).drew ?_;refine zv 4 (bs 18 31) (Aj.refl _ _).drew ?_;refine zv 5 (bs 18 63) (Aj.refl _ _).drew ?_;refine zv 6 (bs 18 127) (Aj.refl _ _).drew ?_;refine zv 7 (bs 18 255) (Aj.refl _ _).drew ?_;refine zv 8 (bs 18 511) (Aj.refl _ _).drew ?_;refine zv 10 (bs 18 1535) (Aj.refl _ _).drew ?_;refine zv 11 (bs 18 3583) (Aj.refl _ _).drew ?_;refine zv 12 (bs 18 7679) (Aj.refl _ _).drew ?_;refine Gi (i:=9) (j:=13) (li:=(bs 18 8191)) (lj:=(bs 18 15871)) (listed':=(bs 18 16383)) (by rfl) (by rfl) (by kernel_rfl) (by kernel_rfl) (by kernel_rfl) (by kernel_rfl) (by kernel_rfl) (by kernel_rfl) (by kernel_rfl) 77 _ _ (by rfl) (by rfl) (by rfl) (by rfl) g (k1*5) (k0*5) (enc z0) (enc y) _ underlying77 (by rfl) (by rfl) (by rfl) (by rfl) (by rfl) (A0.1.ext Ad.drew |>.read B3.1 hk) (A0.1.ext Ad.drew |>.read Hy.1 hk) (by rw[hk];kernel_rfl) (by rw[hk];kernel_rfl) (Aj.refl _ _).drew (by rfl) ?_;try simp only[ζ]
  refine zv 14 (bs 18 32767) (Aj.refl _ _).drew ?_;have A8:=(A0.1.ext Ad.drew).put (i:=k0) A7.1 hk z0;have B5:=A8.put (i:=k1) (by rw[uM];exact A6.1) hk y;refine Dc (i:=15) (listed':=(bs 18 65535)) (by rfl) (by kernel_rfl) (by rfl) 77 _ _ (by rfl) g (k0*5) (enc z0) (by rfl) (by rfl) (by rw[hk];exact(A0.1.ext Ad.drew).there A7.1 hk) (by rw[hk];kernel_rfl) (h1 z0) (Aj.setCells_l _ _ (Aj.refl _ _).drew) (by kernel_rfl) ?_
  (try simp only[Act.put])
  refine zv 16 (bs 18 131071) (Aj.setCells_l _ _ (Aj.refl _ _).drew) ?_;refine Dc (i:=17) (listed':=(bs 18 262143)) (by rfl) (by kernel_rfl) (by rfl) 77 _ _ (by rfl) g (k1*5) (enc y) (by rfl) (by rfl) (by rw[hk];exact A8.there (by rw[uM];exact A6.1) hk) (by rw[hk];kernel_rfl) (h1 y) (Aj.setCells_l _ _ (Aj.setCells_l _ _ (Aj.refl _ _).drew)) (by kernel_rfl) ?_
  (try simp only[Act.put])
  refine wpAnyH_done (by kernel_rfl) ?_ _;have C8:=zH B5;clear A8 B5;generalize (World.setCells _ g (k1*5) (enc y))=w3 at*
  go_wp2_with fail;go_roundg (q-s)
  case measure=>have:=HK.1;omega
  case rel=>exact⟨q,k1,by have:=HK.1;omega,by have:=HK.1;omega,rfl,by have:=HK.1;omega,rfl,by rw[<-HE.1];exact C8.1⟩
 obtain rfl:t=s:=ω;have HR:=zH (show Sw w0 wr g T enc rest (P++(Stb.mrg lt A [y]++S))by rw[HM.1];simpa using hst);have C5:¬(i:Int)<(k0:Int):=by have:=HI.1;omega
 clear hst;go_wp2_with fail;refine bodyPost_ret (results_none rfl _ _ _) rfl ?_;exact⟨rfl,HR.1⟩
theorem symC_any {α:Type}(enc:α->List Value)(hk:∀x,(enc x).length=5)(h1:∀x,∀v,v∈enc x->v.oneCell'=true)(lt:α->α->Bool)(W:Stb.Wk lt)(w0 w:World)(g cap a m b N:Nat)(T:TypeId)(rest:List Value)(P A B S:List α)(hc:(∀wr,Aj g w0 wr->∀x y:α,Calls prog 89 #[.agg (enc x).toArray,.agg (enc y).toArray] wr fun e w'=>∃z:Int,e= .returned (iV z)/\(z<0↔lt x y=true)/\Aa wr w'))(ih:(∀(P' A' B' S':List α) (a m b:Nat) (wr:World),A'≠ []->B'≠ []->A'.length+B'.length<A.length+B.length->Sw w0 wr g T enc rest (P'++(A'++(B'++S')))->P'.length=a->a+A'.length=m->m+B'.length=b->Stb.Srt lt A'->Stb.Srt lt B'->(P'++(A'++(B'++S'))).length=N->Calls prog 167 #[.slice (π g) N cap,iV a,iV m,iV b,.func (.func 89) #[] #[]] wr fun e w'=>e= .returned (.tuple #[])/\Sw w0 w' g T enc rest (P'++(Stb.mrg lt A' B'++S'))))(hst:Sw w0 w g T enc rest (P++(A++(B++S))))(ha:P.length=a)(hm:a+A.length=m)(hb:m+B.length=b)(hA0:A≠ [])(hB0:B≠ [])(hA1:A.length≠1)(hB1:B.length≠1)(hA:Stb.Srt lt A)(hB:Stb.Srt lt B)(hN:(P++(A++(B++S))).length=N)(hsz:N<=100000):
  Calls prog 167 #[.slice (π g) N cap,iV a,iV m,iV b,.func (.func 89) #[] #[]] w fun e w'=>e= .returned (.tuple #[])/\Sw w0 w' g T enc rest (P++(Stb.mrg lt A B++S)):=by
 have C1:P.length+(A.length+(B.length+S.length))=N:=by rw[<-hN];simp
 have E3:2<=A.length:=by have:A.length≠0:=fun h=>hA0 (uN h);omega
 have E1:2<=B.length:=by have:B.length≠0:=fun h=>hB0 (uN h);omega
 have e0:(m:Int)-(a:Int)=(A.length:Int):=ω;have e1:(b:Int)-(m:Int)=(B.length:Int):=ω;have G5:((A.length:Int)==1)=false:=by simp;omega
 have G4:((B.length:Int)==1)=false:=by simp;omega
 have wA:IntKind.i64.wrap (A.length:Int)=(A.length:Int):=by rw[IntKind.wrap_i64];omega
 have wB:IntKind.i64.wrap (B.length:Int)=(B.length:Int):=by rw[IntKind.wrap_i64];omega
 have b1:a<=100000:=ω;have b2:m<=100000:=ω;have b3:b<=100000:=ω;obtain⟨ss,D7⟩:∃ss,ss=a+b:=⟨_,rfl⟩;obtain⟨A3,B9⟩:∃A3,A3=ss/2:=⟨_,rfl⟩;obtain⟨M,hM⟩:∃M,a+M=A3:=⟨A3-a,ω⟩;obtain⟨n,hn⟩:∃n,n=A3+m:=⟨_,rfl⟩;obtain⟨p,hp⟩:∃p,p+1=n:=⟨n-1,ω⟩;have e3:(a:Int)+(b:Int)=(ss:Int):=ω
 have wu:IntKind.u64.wrap (ss:Int)=(ss:Int):=by rw[IntKind.wrap_u64];omega
 have ws:IntKind.i64.wrap (ss:Int)=(ss:Int):=by rw[IntKind.wrap_i64];omega
 have wh:IntKind.i64.wrap (A3:Int)=(A3:Int):=by rw[IntKind.wrap_i64];omega
 have G0:IntKind.u64.wrap (A3:Int)=(A3:Int):=by rw[IntKind.wrap_u64];omega
 have e2:(ss:Int)/2=(A3:Int):=ω;have e4:(A3:Int)+(m:Int)=(n:Int):=ω;have wn:IntKind.i64.wrap (n:Int)=(n:Int):=by rw[IntKind.wrap_i64];omega
 have e5:(n:Int)-1=(p:Int):=ω;have wp:IntKind.i64.wrap (p:Int)=(p:Int):=by rw[IntKind.wrap_i64];omega
 have HC:=zH hc;have F1:=zH ih;have C5:=zH hst;have HF:=zH (show iB P.length A.length B.length S.length a m b N ss A3 M n p from⟨ha,hm,hb,C1,E3,E1,D7,B9,hM,hn,hp⟩);have HN:=zH hN;have HS:=zH (And.intro hA hB);clear hst hc ih ha hm hb hN C1 hA hB hA0 hB0 hA1 hB1 E3 E1 D7 B9 hM hn hp;go_enter func167,ntmps167
 go_upto_if 140 with fail
 go_cut [20,21] (fun u v wx=>∃lo hi st r0:Nat,st=a+lo/\r0=a+hi/\u= iV st/\v= iV r0/\lo<=hi/\hi<=A.length/\hi<=M/\M<=lo+B.length/\(lo=0\/lo+B.length<=M)/\(A.length<=hi\/M<=hi)/\wx=w)
 case first=>as_aux_lemma=>
  by_cases hmm:A3<m
  ·have h2:(A3:Int)<(m:Int):=ω
   obtain⟨st,lo,k0,k9,k⟩:=cL hsz HF.1 hmm;have e6:(n:Int)-(b:Int)=(st:Int):=ω
   have G1:IntKind.i64.wrap (st:Int)=(st:Int):=by rw[IntKind.wrap_i64];omega
   have HK:=zH k;clear k k0 hmm;go_wp2_with fail;go_meet
   obtain⟨k1,k2,k3,k4,k5⟩:=HK.1;exact⟨lo,M,st,A3,k1,k3,rfl,rfl,k4,k5,Bp _,vA k2.symm,Or.inr (vA k2),Or.inr (Bp _),rfl⟩
  have h2:¬(A3:Int)<(m:Int):=ω;have HK:=zH (cK HF.1 hmm);clear hmm;go_wp2_with fail;go_meet
  obtain⟨k1,k2,k3⟩:=HK.1;exact⟨0,A.length,a,m,rfl,k3,rfl,rfl,uL _,Bp _,k1,by rw[uF];exact k2,Or.inl rfl,Or.inl (Bp _),rfl⟩
 obtain⟨lo,hi,st,r0,hst,D8,rfl,rfl,g1,g2,g3,g4,g5,g6,rfl⟩:=hcut;have HG:=zH (show oR A.length B.length a M lo hi st r0 from⟨hst,D8,g1,g2,g3,g4⟩);have F2:=zH (And.intro g5 g6);clear hst D8 g1 g2 g3 g4 g5 g6;go_wp2_with fail
 go_loopg [20,21] (hi-lo) (fun c u v wr=>∃s e i j:Nat,lo<=s/\s<=e/\e<=hi/\c=e-s/\i=a+s/\j=a+e/\u= iV i/\v= iV j/\(s=lo\/∃x y,A[s-1]?=some x/\B[M-s]?=some y/\lt y x=false)/\(e=hi\/∃x y,A[e]?=some x/\B[M-e-1]?=some y/\lt y x=true)/\Sw w0 wr g T enc rest (P++(A++(B++S))))
 case atStart=>exact⟨lo,hi,st,r0,Bp _,HG.1.2.2.1,Bp _,rfl,HG.1.1,HG.1.2.1,rfl,rfl,Or.inl rfl,Or.inl rfl,C5.1⟩
 case round=>as_aux_lemma=>
  clear C5;obtain⟨s,e,i,j,C0,F3,C3,rfl,C2,C6,rfl,rfl,E5,E4,hst⟩:=hrel;have A5:=zH hst;have HI:=zH (And.intro C2 (And.intro C6 (And.intro C0 C3)));have H1:=zH E5;have H2:=zH E4;clear hst E5 E4;by_cases hlt0:s<e
  ·obtain⟨sq,h,c,ph,⟨k1,k2,k3,k4,k5,k6,k7,k8,k9⟩,D9,q1,q2,q3,q4⟩:=iN hsz HF.1 HG.1 C0 C3 C2 C6 hlt0
   have F4:(i:Int)<(j:Int):=ω;have f3:(i:Int)+(j:Int)=(sq:Int):=ω;have fu:IntKind.u64.wrap (sq:Int)=(sq:Int):=by rw[IntKind.wrap_u64];omega
   have fs:IntKind.i64.wrap (sq:Int)=(sq:Int):=by rw[IntKind.wrap_i64];omega
   have fh:IntKind.i64.wrap (h:Int)=(h:Int):=by rw[IntKind.wrap_i64];omega
   have G3:IntKind.u64.wrap (h:Int)=(h:Int):=by rw[IntKind.wrap_u64];omega
   have f2:(sq:Int)/2=(h:Int):=ω;have f4:(p:Int)-(h:Int)=(ph:Int):=ω;have fp:IntKind.i64.wrap (ph:Int)=(ph:Int):=by rw[IntKind.wrap_i64];omega
   have bh:(h:Int)<(N:Int):=ω;have bp:(ph:Int)<(N:Int):=ω;have bi:i<=100000:=k8;obtain⟨x0,D4⟩:∃z,A[c]?=some z:=⟨_,uB q1⟩;obtain⟨y0,D3⟩:∃z,B[M-c-1]?=some z:=⟨_,uB q2⟩;have F6:=zH (show(P++(A++(B++S)))[h]?=some x0 by
    have q:=Hl P A (B++S) c q1;rw[q3,D4]at q;exact q)
   have F5:=zH (show(P++(A++(B++S)))[ph]?=some y0 by
    have q:=Hl (P++A) B S (M-c-1) q2;rw[uC,q4,D3]at q;simpa using q)
   have E7:=zH D4;have E6:=zH D3;have HH:=zH D9;clear D4 D3 D9 C2 C6 k1 k2 k3 k4 q1 q2 q3 q4;generalize hrow:P++(A++(B++S))=row at*
   clear hrow;go_upto_region 35 with fail;refine wp_region_held_drew (S:=fun x=>Aa wr x) (by kernel_rfl) Ad.drew (fun _=> ?_);refine zv 0 (bs 14 1) Ad.drew ?_;refine zv 1 (bs 14 3) Ad.drew ?_;refine zv 2 (bs 14 7) Ad.drew ?_;refine zv 3 (bs 14 15) Ad.drew ?_;refine zv 4 (bs 14 31) Ad.drew ?_;refine zv 5 (bs 14 63) Ad.drew ?_;refine Cr (i:=6) (listed':=(bs 14 127)) (by rfl) (by kernel_rfl) (by kernel_rfl) (by kernel_rfl) _ _ (by rfl) g (ph*5) (enc y0) _ (by intro _ _ _ h;exact h) (by rfl) (by rfl) (fun w1 hw1=>(A5.1.ext hw1).read F5.1 hk) underlying77 (by rfl) (by rw[hk];kernel_rfl) Ad.drew (by kernel_rfl) ?_;try simp only[ζ]
   refine zv 7 (bs 14 255) Ad.drew ?_;refine zv 8 (bs 14 511) Ad.drew ?_;refine zv 9 (bs 14 1023) Ad.drew ?_;refine Cr (i:=10) (listed':=(bs 14 2047)) (by rfl) (by kernel_rfl) (by kernel_rfl) (by kernel_rfl) _ _ (by rfl) g (h*5) (enc x0) _ (by intro _ _ _ h;exact h) (by rfl) (by rfl) (fun w1 hw1=>(A5.1.ext hw1).read F6.1 hk) underlying77 (by rfl) (by rw[hk];kernel_rfl) Ad.drew (by kernel_rfl) ?_;try simp only[ζ]
   refine mC 11 (bs 14 4095) (HC.1 _ ((A5.1.ext Ad.drew).own) y0 x0) ?_;rintro e w2 ⟨z,rfl,hz,D6⟩;have A7:=zH (show Aa wr w2 from Ad.drew.trans D6);clear D6;refine⟨_,rfl,A7.1,?_⟩;try simp only[ζ]
   by_cases hlt:lt y0 x0=true
   ·as_aux_lemma=>
    have B0:=zH hlt;have B7:z<0:=hz.2 hlt;have D2:decide (z<0)=true:=by simpa using B7
    clear hz;refine zv 12 (bs 14 8191) A7.1 ?_;refine zv 13 (bs 14 16383) A7.1 ?_;refine wpAnyH_done (by kernel_rfl) ?_ _;clear hlt B7 D2;have A5:=zH (A5.1.ext A7.1);go_wp2_with fail
    go_roundg (c-s)
    case measure=>have:=HH.1;omega
    case rel=>exact⟨s,c,i,h,C0,by have:=HH.1;omega,by have:=HH.1;omega,rfl,HI.1.1,by have:=HH.1;omega,rfl,rfl,H1.1,Or.inr ⟨x0,y0,E7.1,E6.1,B0.1⟩,A5.1⟩
   as_aux_lemma=>
   have B0:=zH (eq_false_of_ne_true hlt);have B7:¬z<0:=fun h=>hlt (hz.1 h)
   have D2:decide (z<0)=false:=by simpa using B7
   clear hz;refine zv 12 (bs 14 8191) A7.1 ?_;refine zv 13 (bs 14 16383) A7.1 ?_;refine wpAnyH_done (by kernel_rfl) ?_ _;clear hlt B7 D2;have A5:=zH (A5.1.ext A7.1);go_wp2_with fail
   go_roundg (e-(c+1))
   case measure=>have:=HH.1;omega
   case rel=>exact⟨c+1,e,h+1,j,by have:=HH.1;omega,by have:=HH.1;omega,C3,rfl,by have:=HH.1;omega,HI.1.2.1,by go_num,rfl,Or.inr ⟨x0,y0,E7.1,by rw[show M-(c+1)=M-c-1 by omega];exact E6.1,B0.1⟩,H2.1,A5.1⟩
  as_aux_lemma=>
  obtain rfl:s=e:=ω;have F4:¬(i:Int)<(j:Int):=ω;obtain⟨r,en,⟨k1,k2,k3,k4,k5⟩,B5,B6,D5,B4,B3⟩:=cJ hsz HF.1 HG.1 C0 C3 C2;have HM:=zH (Stb.sym_split (lt:=lt) (s:=s) (r:=r) W HS.1.1 HS.1.2 (by
   rcases H1.1 with h|⟨x,y,q1,q2,q3⟩
   ·rcases F2.1.1 with q|q
    ·exact Or.inl (ω)
    exact Or.inr (Or.inl ω)
   ·exact Or.inr (Or.inr ⟨x,y,q1,by rw[show r=M-s by omega];exact q2,q3⟩)) (by
   rcases H2.1 with h|⟨x,y,q1,q2,q3⟩
   ·rcases F2.1.2 with q|q
    ·exact Or.inr (Or.inl ω)
    exact Or.inl (ω)
   exact Or.inr (Or.inr ⟨x,y,q1,by rw[show r-1=M-s-1 by omega];exact q2,q3⟩)))
  have e6:(n:Int)-(i:Int)=(en:Int):=ω;have G2:IntKind.i64.wrap (en:Int)=(en:Int):=by rw[IntKind.wrap_i64];omega
  have E2:A.take s++A.drop s=A:=List.take_append_drop s A;have E0:B.take r++B.drop r=B:=List.take_append_drop r B;have D1:(A.take s).length=s:=by rw[uJ];exact Nat.min_eq_left k4
  have D0:(A.drop s).length=A.length-s:=List.length_drop;have C9:(B.take r).length=r:=by rw[uJ];exact Nat.min_eq_left k3
  have C8:(B.drop r).length=B.length-r:=List.length_drop;have A0:=zH (And.intro D1 (And.intro D0 (And.intro C9 C8)));have F0:=zH B5;have A4:=zH B6;have A6:=zH D5;have B0:=zH (And.intro B4 B3);have A9:=zH (show Sw w0 wr g T enc rest ((P++A.take s)++(A.drop s++(B.take r++(B.drop r++S))))by
   have h:=A5.1;rw[<-E2,<-E0]at h;simpa only[uK]using h)
  have F7:=zH (show((P++A.take s)++(A.drop s++(B.take r++(B.drop r++S)))).length=N by simp only[uC,D1,D0,C9,C8];omega);have C7:=zH (And.intro (Stb.srt_take HS.1.1 s) (And.intro (Stb.srt_drop HS.1.1 s) (And.intro (Stb.srt_take HS.1.2 r) (Stb.srt_drop HS.1.2 r))));have F9:=zH (Stb.mrg_take_nil (lt:=lt) (A:=A) (B:=B) (s:=s) (r:=r));have F8:=zH (Stb.mrg_drop_nil (lt:=lt) (A:=A) (B:=B) (s:=s) (r:=r));clear A5 C2 C6 E2 E0 D1 D0 C9 C8 H1 H2 B5 B6 D5 B4 B3 k1 k2 k3 k4 C0 C3 F3;generalize A.take s=A1 at*
  generalize A.drop s=A2 at*;generalize B.take r=B1 at*;generalize B.drop r=B2 at*;go_upto_region 39 with fail;go_cut [185] (fun u wx=>u= .bool (decide (s<A.length/\0<r))/\wx=wr)
  case first=>as_aux_lemma=>
   by_cases c:s<A.length
   ·have c2:(i:Int)<(m:Int):=Int.ofNat_lt.2 (A4.1.1.2 c)
    by_cases d:0<r
    ·have c3:(m:Int)<(en:Int):=Int.ofNat_lt.2 (A4.1.2.1.2 d)
     go_wp2_with fail;go_meet
     exact⟨by simp[c,d],rfl⟩
    have c3:¬(m:Int)<(en:Int):=fun h=>d (A4.1.2.1.1 (Int.ofNat_lt.1 h))
    go_wp2_with fail;go_meet
    exact⟨by simp[d],rfl⟩
   have c2:¬(i:Int)<(m:Int):=fun h=>c (A4.1.1.1 (Int.ofNat_lt.1 h))
   have c4:decide ((i:Int)<(m:Int))=false:=decide_eq_false c2;go_wp2_with fail;go_meet
   exact⟨by simp[c],rfl⟩
  obtain⟨rfl,rfl⟩:=hcut;go_upto_if 185 with fail
  go_cut [] (fun wx=>Sw w0 wx g T enc rest (P++(A1++(B1++(A2++(B2++S))))))
  case first=>as_aux_lemma=>
   by_cases c1:s<A.length/\0<r
   ·have cb:decide (s<A.length/\0<r)=true:=decide_eq_true c1
    have HR:=zH (rotate_any enc hk h1 w0 wc g cap i m en N T rest (P++A1) A2 B1 (B2++S) (.func (.func 89) #[] #[]) A9.1 (by rw[uC,A0.1.1];exact A6.1.1) (by rw[A0.1.2.1];exact A6.1.2.1) (by rw[A0.1.2.2.1];exact A6.1.2.2.1) (Ci (by rw[A0.1.2.1];omega)) (Ci (by rw[A0.1.2.2.1];exact c1.2)) F7.1 hsz);generalize decide (s<A.length/\0<r)=bb at*;subst cb;go_wp2_with (go_at_call 187;refine HR.1.mono ?_;rintro e w2 ⟨rfl,B8⟩)
    go_meet
    simpa only[uK]using B8
   have cb:decide (s<A.length/\0<r)=false:=decide_eq_false c1;have HE:=zH (show(P++A1)++(A2++(B1++(B2++S)))=P++(A1++(B1++(A2++(B2++S))))by
    by_cases c:s<A.length
    ·have:B1=[]:=uN (by rw[A0.1.2.2.1];omega)
     rw[this];simp
    have:A2=[]:=uN (by rw[A0.1.2.1];omega);rw[this];simp)
   generalize decide (s<A.length/\0<r)=bb at*;subst cb;go_wp2_with fail;go_meet
   rw[<-HE.1];exact A9.1
  have A8:=zH hcut;clear hcut A9;go_upto_region 41 with fail;go_cut [199] (fun u wx=>u= .bool (decide (0<s/\0<r))/\wx=wc)
  case first=>as_aux_lemma=>
   by_cases c:0<s
   ·have c2:(a:Int)<(i:Int):=Int.ofNat_lt.2 (A4.1.2.2.1.2 c)
    by_cases d:0<r
    ·have c3:(i:Int)<(A3:Int):=Int.ofNat_lt.2 (A4.1.2.2.2.1.2 d)
     go_wp2_with fail;go_meet
     exact⟨by simp[c,d],rfl⟩
    have c3:¬(i:Int)<(A3:Int):=fun h=>d (A4.1.2.2.2.1.1 (Int.ofNat_lt.1 h))
    go_wp2_with fail;go_meet
    exact⟨by simp[d],rfl⟩
   have c2:¬(a:Int)<(i:Int):=fun h=>c (A4.1.2.2.1.1 (Int.ofNat_lt.1 h))
   have c4:decide ((a:Int)<(i:Int))=false:=decide_eq_false c2;go_wp2_with fail;go_meet
   exact⟨by simp[c],rfl⟩
  obtain⟨rfl,rfl⟩:=hcut;go_upto_if 199 with fail
  go_cut [] (fun wx=>Sw w0 wx g T enc rest (P++(Stb.mrg lt A1 B1++(A2++(B2++S)))))
  case first=>as_aux_lemma=>
   by_cases c1:0<s/\0<r
   ·have cb:decide (0<s/\0<r)=true:=decide_eq_true c1
    have HR:=zH (F1.1 P A1 B1 (A2++(B2++S)) a i A3 wc (Ci (by rw[A0.1.1];exact c1.1)) (Ci (by rw[A0.1.2.2.1];exact c1.2)) (by rw[A0.1.1,A0.1.2.2.1];exact B0.1.1) A8.1 A6.1.2.2.2.2.2.2.2.2 (by rw[A0.1.1];exact A6.1.2.2.2.1) (by rw[A0.1.2.2.1];exact A6.1.2.2.2.2.1) C7.1.1 C7.1.2.2.1 (by simp only[uC,A0.1.1,A0.1.2.1,A0.1.2.2.1,A0.1.2.2.2];exact F0.1));generalize decide (0<s/\0<r)=bb at*;subst cb;go_wp2_with (go_at_call 167;refine HR.1.mono ?_;rintro e w2 ⟨rfl,B8⟩)
    go_meet
    exact B8
   have cb:decide (0<s/\0<r)=false:=decide_eq_false c1;have HE:=zH (F9.1 c1);generalize decide (0<s/\0<r)=bb at*
   subst cb;go_wp2_with fail;go_meet
   rw[HE.1];have h:=A8.1;simpa only[uK]using h
  have C4:=zH hcut;clear hcut A8;have E9:=zH (Stb.mrg_len (lt:=lt) A1 B1);have E8:=zH (show P++(Stb.mrg lt A1 B1++(Stb.mrg lt A2 B2++S))=P++(Stb.mrg lt A B++S)by rw[HM.1,uK]);go_upto_region 43 with fail
  go_cut [213] (fun u wx=>u= .bool (decide (s<A.length/\r<B.length))/\wx=wc)
  case first=>as_aux_lemma=>
   by_cases c:s<A.length
   ·have c2:(A3:Int)<(en:Int):=Int.ofNat_lt.2 (A4.1.2.2.2.2.1.2 c)
    by_cases d:r<B.length
    ·have c3:(en:Int)<(b:Int):=Int.ofNat_lt.2 (A4.1.2.2.2.2.2.2 d)
     go_wp2_with fail;go_meet
     exact⟨by simp[c,d],rfl⟩
    have c3:¬(en:Int)<(b:Int):=fun h=>d (A4.1.2.2.2.2.2.1 (Int.ofNat_lt.1 h))
    go_wp2_with fail;go_meet
    exact⟨by simp[d],rfl⟩
   have c2:¬(A3:Int)<(en:Int):=fun h=>c (A4.1.2.2.2.2.1.1 (Int.ofNat_lt.1 h))
   have c4:decide ((A3:Int)<(en:Int))=false:=decide_eq_false c2;go_wp2_with fail;go_meet
   exact⟨by simp[c],rfl⟩
  obtain⟨rfl,rfl⟩:=hcut;by_cases c1:s<A.length/\r<B.length
  ·have cb:decide (s<A.length/\r<B.length)=true:=decide_eq_true c1
   have HR:=zH (F1.1 (P++Stb.mrg lt A1 B1) A2 B2 S A3 en b wc (Ci (by rw[A0.1.2.1];omega)) (Ci (by rw[A0.1.2.2.2];omega)) (by rw[A0.1.2.1,A0.1.2.2.2];exact B0.1.2) (by rw[uK];exact C4.1) (by rw[uC,E9.1,A0.1.1,A0.1.2.2.1];exact A6.1.2.2.2.2.2.2.2.1) (by rw[A0.1.2.1];exact A6.1.2.2.2.2.2.1) (by rw[A0.1.2.2.2];exact A6.1.2.2.2.2.2.2.1) C7.1.2.1 C7.1.2.2.2 (by have h:=F0.1;simp only[uC,E9.1,A0.1.1,A0.1.2.1,A0.1.2.2.1,A0.1.2.2.2];omega));generalize decide (s<A.length/\r<B.length)=bb at*;subst cb;go_wp2_with (go_at_call 167;refine HR.1.mono ?_;rintro e w2 ⟨rfl,B8⟩)
   go_end0
   exact⟨rfl,by rw[<-E8.1,<-uK P];exact B8⟩
  have cb:decide (s<A.length/\r<B.length)=false:=decide_eq_false c1;have HE:=zH (F8.1 c1);generalize decide (s<A.length/\r<B.length)=bb at*
  subst cb;go_wp2_with fail;go_end0
  exact⟨rfl,by rw[<-E8.1,HE.1,uK];exact C4.1⟩
theorem symMerge_any {α:Type}(enc:α->List Value)(hk:∀x,(enc x).length=5)(h1:∀x,∀v,v∈enc x->v.oneCell'=true)(lt:α->α->Bool)(W:Stb.Wk lt)(w0:World)(g cap N:Nat)(T:TypeId)(rest:List Value)(hc:(∀wr,Aj g w0 wr->∀x y:α,Calls prog 89 #[.agg (enc x).toArray,.agg (enc y).toArray] wr fun e w'=>∃z:Int,e= .returned (iV z)/\(z<0↔lt x y=true)/\Aa wr w'))(hsz:N<=100000):
  ∀(n:Nat) (P A B S:List α) (a m b:Nat) (wr:World),A≠ []->B≠ []->A.length+B.length<=n->Sw w0 wr g T enc rest (P++(A++(B++S)))->P.length=a->a+A.length=m->m+B.length=b->Stb.Srt lt A->Stb.Srt lt B->(P++(A++(B++S))).length=N->Calls prog 167 #[.slice (π g) N cap,iV a,iV m,iV b,.func (.func 89) #[] #[]] wr fun e w'=>e= .returned (.tuple #[])/\Sw w0 w' g T enc rest (P++(Stb.mrg lt A B++S)):=by
 intro n;induction n with
 |zero=>intro P A B S a m b wr hA hB hl;exact absurd (uN ω) hA
 |succ n ih=>
  intro P A B S a m b wr A2 A1 hl A0 ha hm hb hA hB hN;match A,A2 with
  | [x],_=>exact symA_any enc hk h1 lt W w0 wr g cap a m b N T rest P B S x hc A0 ha hm hb hB hN hsz
  |x::x2::A,A2=>
   match B,A1 with
   | [y],_=>exact symB_any enc hk h1 lt W w0 wr g cap a m b N T rest P (x::x2::A) S y hc A0 ha hm hb (by simp) hA hN hsz
   |y::y2::B,A1=>
    exact symC_any enc hk h1 lt W w0 wr g cap a m b N T rest P (x::x2::A) (y::y2::B) S hc (fun P' A' B' S' a' m' b' w' q1 q2 q3 q4 q5 q6 q7 q8 q9 A3=>ih P' A' B' S' a' m' b' w' q1 q2 ω q4 q5 q6 q7 q8 q9 A3) A0 ha hm hb A2 A1 (by simp) (by simp) hA hB hN hsz
theorem stable_any {α:Type}(enc:α->List Value)(hk:∀x,(enc x).length=5)(h1:∀x,∀v,v∈enc x->v.oneCell'=true)(lt:α->α->Bool)(W:Stb.Wk lt)(w0 w:World)(g cap N:Nat)(T:TypeId)(rest:List Value)(xs:List α)(hc:(∀wr,Aj g w0 wr->∀x y:α,Calls prog 89 #[.agg (enc x).toArray,.agg (enc y).toArray] wr fun e w'=>∃z:Int,e= .returned (iV z)/\(z<0↔lt x y=true)/\Aa wr w'))(hst:Sw w0 w g T enc rest xs)(hN:xs.length=N)(hsz:N<=20000):
  Calls prog 134 #[.slice (π g) N cap,iV N,.func (.func 89) #[] #[]] w fun e w'=>e= .returned (.tuple #[])/\Sw w0 w' g T enc rest (Stb.stab lt xs):=by
 have HC:=zH hc;have B0:=zH hst;have HN:=zH hN;clear hst hc hN;go_enter func134,ntmps134
 go_wp2_with fail;go_loopg [7,8] (N+20) (fun c u v wr=>∃(a b:Nat) (row:List α),b=a+20/\a<=N/\c=N+20-a/\u= iV a/\v= iV b/\Stb.Fst lt 20 a xs row/\Sw w0 wr g T enc rest row)
 case atStart=>exact⟨0,20,xs,rfl,uL _,rfl,rfl,rfl,Stb.Fst.start 20 xs,B0.1⟩
 clear B0;obtain⟨a,b,row,hb,B7,rfl,rfl,rfl,hf,hst⟩:=hrel;have A1:=zH hst;have HF:=zH hf;clear hst hf;by_cases hlt:b<=N
 ·have A4:(b:Int)<=(N:Int):=ω
  obtain⟨P,X,S,rfl,hP,hX,A2⟩:=HF.1.cut (by rw[HN.1];omega);have A0:=HF.1.len;have HB:=zH (insertion_any enc hk h1 lt W w0 wr g cap a b N T rest P X S HC.1 A1.1 hP ω (by rw[A0,HN.1]) ω);have A3:=zH A2;clear hP hX A2 A0 A1;obtain⟨b2,A9⟩:∃b2,b2=b+20:=⟨_,rfl⟩;have e1:(b:Int)+20=(b2:Int):=ω
  have wb:IntKind.i64.wrap (b2:Int)=(b2:Int):=by rw[IntKind.wrap_i64];omega
  have A6:=zH (And.intro hb A9);clear hb A9;go_wp2_with (go_at_call 166;refine HB.1.mono ?_;rintro e w2 ⟨rfl,A5⟩)
  go_roundg (N+20-b)
  case measure=>have:=A6.1;omega
  case rel=>exact⟨b,b2,_,A6.1.2,hlt,rfl,rfl,rfl,by rw[A6.1.1];exact A3.1,A5⟩
 have A4:¬(b:Int)<=(N:Int):=ω;obtain⟨P,X,rfl,hP,hX,A2⟩:=HF.1.last (by rw[HN.1];omega);have A0:=HF.1.len;have HB:=zH (insertion_any enc hk h1 lt W w0 wr g cap a N N T rest P X [] HC.1 A1.1 hP (by rw[hX,HN.1]) (by rw[A0,HN.1]) ω);have A3:=zH A2;clear hP hX A2 A0 A1 hb;go_wp2_with (go_at_call 166;refine HB.1.mono ?_;rintro e w2 ⟨rfl,A5⟩)
 have B3:=zH A5;clear A5 HB HF;go_loopg [6] (2*N) (fun c v wr=>∃(s:Nat) (row:List α),20<=s/\s<=2*N+20/\c=2*N+20-s/\v= iV s/\Stb.Blks lt s xs row/\Sw w0 wr g T enc rest row)
 case atStart=>exact⟨20,_,Bp _,ω,ω,rfl,A3.1,B3.1⟩
 clear B3 A3 A4 hlt;obtain⟨s,row,B6,B5,rfl,rfl,hf,hst⟩:=hrel;have A1:=zH hst;have HF:=zH hf;clear hst hf;by_cases hlt:s<N
 ·have A4:(s:Int)<(N:Int):=ω
  obtain⟨d,hd⟩:∃d,d=2*s:=⟨_,rfl⟩;have e1:2*(s:Int)=(d:Int):=ω
  have B8:(s:Int)*2=(d:Int):=ω;have wd:IntKind.i64.wrap (d:Int)=(d:Int):=by rw[IntKind.wrap_i64];omega
  have HD:=zH hd;clear hd;go_wp2_with fail;go_loopg [7,8] (N+d) (fun c u v wr=>∃(a b:Nat) (row:List α),b=a+d/\a<=N/\c=N+d-a/\u= iV a/\v= iV b/\Stb.Half lt s a xs row/\Sw w0 wr g T enc rest row)
  case atStart=>exact⟨0,d,row,ω,uL _,rfl,rfl,rfl,HF.1.half,A1.1⟩
  clear A1 HF;obtain⟨a,b,B4,hb,B7,rfl,rfl,rfl,hf,hst⟩:=hrel;have A1:=zH hst;have HF:=zH hf;clear hst hf;by_cases hlb:b<=N
  ·have B2:(b:Int)<=(N:Int):=ω
   obtain⟨P,A,B,S,rfl,hP,hA,hB,A8,A7,A2⟩:=HF.1.cut W ω (by rw[HN.1];have:=HD.1;omega);have A0:=HF.1.len;obtain⟨m,hm⟩:∃m,m=a+s:=⟨_,rfl⟩;have e2:(a:Int)+(s:Int)=(m:Int):=ω
   have wm:IntKind.i64.wrap (m:Int)=(m:Int):=by rw[IntKind.wrap_i64];omega
   have HB:=zH (symMerge_any enc hk h1 lt W w0 g cap N T rest HC.1 ω _ P A B S a m b wr (Ci ω) (Ci ω) (Bp _) A1.1 hP (by rw[hA,hm]) (by have:=HD.1;omega) A8 A7 (by rw[A0,HN.1]));obtain⟨b2,A9⟩:∃b2,b2=b+d:=⟨_,rfl⟩;have e3:(b:Int)+(d:Int)=(b2:Int):=ω
   have wb:IntKind.i64.wrap (b2:Int)=(b2:Int):=by rw[IntKind.wrap_i64];omega
   have A6:=zH (And.intro hb A9);have A3:=zH A2;clear hP hA hB A8 A7 A2 A0 A1 hb A9 hm;go_wp2_with (go_at_call 167;refine HB.1.mono ?_;rintro e w2 ⟨rfl,A5⟩)
   go_roundg (N+d-b)
   case measure=>have:=A6.1;omega
   case rel=>exact⟨b,b2,_,A6.1.2,hlb,rfl,rfl,rfl,by rw[A6.1.1,HD.1];exact A3.1,A5⟩
  have B2:¬(b:Int)<=(N:Int):=ω;obtain⟨m,hm⟩:∃m,m=a+s:=⟨_,rfl⟩;have e2:(a:Int)+(s:Int)=(m:Int):=ω
  have wm:IntKind.i64.wrap (m:Int)=(m:Int):=by rw[IntKind.wrap_i64];omega
  by_cases hmN:m<N
  ·have B1:(m:Int)<(N:Int):=ω
   obtain⟨P,A,B,rfl,hP,hA,hB,A8,A7,A2⟩:=HF.1.last W (by rw[HN.1];have:=HD.1;omega) (by rw[HN.1];omega);have A0:=HF.1.len;rw[HN.1]at hB;have HB:=zH (symMerge_any enc hk h1 lt W w0 g cap N T rest HC.1 ω _ P A B [] a m N wr (Ci ω) (Ci ω) (Bp _) A1.1 hP (by rw[hA,hm]) ω A8 A7 (by rw[A0,HN.1]));have A3:=zH A2;clear hP hA hB A8 A7 A2 A0 A1 hb hm;go_wp2_with (go_at_call 167;refine HB.1.mono ?_;rintro e w2 ⟨rfl,A5⟩)
   go_roundg (2*N+20-d)
   case measure=>have:=HD.1;omega
   case rel=>exact⟨d,_,by have:=HD.1;omega,by have:=HD.1;omega,rfl,rfl,by rw[HD.1];exact A3.1,A5⟩
  have B1:¬(m:Int)<(N:Int):=ω;have A3:=zH (HF.1.none (by rw[HN.1];have:=HD.1;omega) (by rw[HN.1];omega));clear hb hm;go_wp2_with fail;go_roundg (2*N+20-d)
  case measure=>have:=HD.1;omega
  case rel=>exact⟨d,_,by have:=HD.1;omega,by have:=HD.1;omega,rfl,rfl,by rw[HD.1];exact A3.1,A1.1⟩
 have A4:¬(s:Int)<(N:Int):=ω;have HR:=zH (HF.1.all (by rw[HN.1];omega));go_wp2_with fail;go_end0
 exact⟨rfl,by rw[<-HR.1];exact A1.1⟩
theorem sortStable_any {α:Type}(enc:α->List Value)(hk:∀x,(enc x).length=5)(h1:∀x,∀v,v∈enc x->v.oneCell'=true)(lt:α->α->Bool)(W:Stb.Wk lt)(w0 w:World)(g cap N:Nat)(T:TypeId)(rest:List Value)(xs:List α)(hc:(∀wr,Aj g w0 wr->∀x y:α,Calls prog 89 #[.agg (enc x).toArray,.agg (enc y).toArray] wr fun e w'=>∃z:Int,e= .returned (iV z)/\(z<0↔lt x y=true)/\Aa wr w'))(hst:Sw w0 w g T enc rest xs)(hN:xs.length=N)(hsz:N<=20000):
  Calls prog 88 #[.slice (π g) N cap,.func (.func 89) #[] #[]] w fun e w'=>e= .returned (.tuple #[])/\Sw w0 w' g T enc rest (Stb.stab lt xs):=by
 have HB:=zH (stable_any enc hk h1 lt W w0 w g cap N T rest xs hc hst hN hsz);clear hc hst hN;go_enter func88,ntmps88;go_wp2_with (go_at_call 134;refine HB.1.mono ?_;rintro e w2 ⟨rfl,A0⟩)
 go_end0
 exact⟨rfl,A0⟩
theorem insertion_none (v c:Value)(w:World):Calls prog 166 #[v,iV 0,iV 0,c] w fun e w'=>e= .returned (.tuple #[])/\w=w':=by
  go_enter func166,ntmps166;go_wp2_with fail;apply wp_loop_rounds 1;rw[rounds_succ];go_wp2_with fail;go_end0
  exact⟨rfl,rfl⟩
theorem stable_none (v c:Value)(w:World):Calls prog 134 #[v,iV 0,c] w fun e w'=>e= .returned (.tuple #[])/\w=w':=by
  go_enter func134,ntmps134;go_wp2_with fail;apply wp_loop_rounds 1;rw[rounds_succ];go_wp2_with (go_at_call 166;refine(insertion_none _ _ _).mono ?_;rintro e w2 ⟨rfl,rfl⟩)
  apply wp_loop_rounds 1;rw[rounds_succ];go_wp2_with fail;go_end0
  exact⟨rfl,rfl⟩
theorem sortStable_none (A:Option Addr)(cap:Nat)(c:Value)(w:World):Calls prog 88 #[.slice A 0 cap,c] w fun e w'=>e= .returned (.tuple #[])/\w=w':=by
  go_enter func88,ntmps88;go_wp2_with (go_at_call 134;refine(stable_none _ _ _).mono ?_;rintro e w2 ⟨rfl,rfl⟩)
  go_end0
  exact⟨rfl,rfl⟩
end mrk
section
open Go.RowKit Go.Shelf
section
variable {P:Program} {n l:Nat} {Q:Exit->Act->World->Prop}
theorem eW {row:String}{args:Array Value}{w:World}{R:Value->World->Prop}(h:Rows P row args w R):RowsIn (Fence.wide.inRound l) n P row args w R:=fun c cs _=>
  let ⟨v,w',r,s⟩:=h c cs
  ⟨v,w',r,stepsIn_wide.2 s⟩
theorem cZ {o:Oper}{a:Act}{w:World}{K:Act->World->Prop}(ho:∀c,o.op≠ .defer c)(_hQ:¬LetsOut Q)(h:o.wp P a w K Q):o.wpIn (Fence.wide.inRound l) n P a w K Q:=by
 unfold Oper.wp at h;refine⟨fun _ _=>trivial,?_⟩;rw[Oper.semAt_eq _ _ _ ho];generalize (execOp a.eval o).run P w=r at h;cases r with
 |ok x w'=>
  cases x<;>simp only[Oper.upon]at h<;>simp only[Oper.uponIn];case value=>exact h
  case skip=>exact h
  case defer=>exact h
  case enter=>exact⟨fun hd=>by simp[Fence.wide]at hd,CallsIn.inRound l (callsIn_wide.2 h)⟩
  case row=>exact⟨fun hd=>by simp[Fence.wide]at hd,eW h⟩
 |halt x w'=>cases x<;>simp only[Oper.upon]at h<;>simp only[Oper.uponIn]<;>exact h
def Kc (ops:List Oper):Bool:=ops.all fun o=>match o.op with| .defer _=>false|_=>true
theorem Od {ops:List Oper}(h:Kc ops=true){o:Oper}(ho:o∈ops):∀c,o.op≠ .defer c:=by
  intro c e;have:=List.all_eq_true.1 h o ho;rw[e]at this;cases this
theorem Ou {md:Region.Mode}{ops:Array Oper}(hd:Kc ops.toList=true)(hQ:¬LetsOut Q):∀(fuel:Nat) (listed:Array Bool) (a:Act) (w:World),wpAny P md ops Q fuel listed a w->wpAnyIn (Fence.wide.inRound l) n P md ops Q fuel listed a w
  |0,_,_,_,h=>h
  | fuel+1,listed,a,w,h=>⟨h.1,fun i hi=>by
    have h2:=h.2 i hi;unfold wpOp at h2;unfold wpOpIn;cases ho:ops[i]?with
    |none=>rw[ho]at h2;exact Ou hd hQ fuel _ _ _ h2
    | some o=>
      rw[ho]at h2;simp only at h2⊢;split
      · rename_i hw
        rw[if_pos hw]at h2;rcases h2 with h2|⟨_,h3⟩
        · exact Oper.wpIn_mono (fun a' w' h4=>Ou hd hQ fuel _ _ _ h4) (cZ (Od hd (by
            have h5:=Array.mem_of_getElem? ho;exact h5.1)) hQ h2)
        exact absurd h3 hQ
      rename_i hw;rw[if_neg hw]at h2;exact⟨fun _ _=>trivial,Ou hd hQ fuel _ _ _ h2⟩⟩
theorem Pd {ops:Array Oper}(hQ:¬LetsOut Q):∀(rest:List Oper) (_:Kc rest=true) (a:Act) (w:World),wpList P ops Q rest a w->wpListIn (Fence.wide.inRound l) n P ops Q rest a w
 | [],_,_,_,h=>h
 |o::rest,hd,a,w,h=>by
  unfold wpList at h;unfold wpListIn;have hd2:Kc rest=true:=by
   unfold Kc at hd⊢;rw[List.all_cons,vC]at hd;exact hd.2
  split
  ·rename_i hw
   rw[if_pos hw]at h;rcases h with h|⟨_,h3⟩
   ·exact Oper.wpIn_mono (fun a' w' h4=>Pd hQ rest hd2 a' w' h4) (cZ (Od hd (by simp)) hQ h)
   exact absurd h3 hQ
  rename_i hw;rw[if_neg hw]at h;exact⟨fun _ _=>trivial,Pd hQ rest hd2 _ _ h⟩
theorem Kr {id:Nat}{ops:Array Oper}{S:World->Prop}{a:Act}{w:World}(hm:P.follows .mixedOrders=true)(hd:Kc ops.toList=true)(hQ:¬LetsOut Q)(hS:S w.drew)
    (h:S w.drew->wpAnyH P .any ops Q S ops.size (Array.replicate ops.size false) a w.drew):(Code.region id ops true).wpIn (Fence.wide.inRound l) n P Q a w:=
  wpIn_region_any hm (Ou hd hQ _ _ _ _ (wpAny_of_held _ _ _ _ (h hS)))
theorem Ac {id:Nat}{ops:List Oper}{a:Act}{w:World}(hd:Kc ops=true)(hQ:¬LetsOut Q)(h:wpList P ops.toArray Q ops a w):(Code.region id ops.toArray false).wpIn (Fence.wide.inRound l) n P Q a w:=
  wpIn_region_lit (Pd hQ _ hd _ _ h)
end
end
section
structure Cd where
  a:RV
  q:Rat
  up:Int
def Cd.cells (e:Cd):List Value:=[.bool e.a.n,.slice e.a.p e.a.l e.a.c,.bool e.a.m,.slice e.a.p2 e.a.l2 e.a.c2,iV e.up]
theorem Cd.len (e:Cd):e.cells.length=5:=rfl
theorem Cd.one (e:Cd):∀v,v∈e.cells->v.oneCell'=true:=by simp[Cd.cells,Value.oneCell']
theorem Cd.noU (e:Cd):Aq e.cells:=by simp[Aq,Cd.cells]
def Cd.vl (e:Cd):QI:=(e.q,e.up)
def Cd.Ok (L:Nat)(w:World)(e:Cd):Prop:=e.a.Is w e.q/\Nm.rl e.q<=L/\ -1<=e.up/\e.up<=1
theorem Cd.Ok.dig {L:Nat}{w w':World}{e:Cd}(h:e.Ok L w)(d:Af w w'):e.Ok L w':=⟨h.1.dig d,h.2⟩
theorem nE (es:List Cd):Aq (es.flatMap Cd.cells):=by
  intro x hx;obtain⟨e,_,he⟩:=List.mem_flatMap.1 hx;exact Cd.noU e x he
theorem sD {α:Type}(f:α->QI):Stb.Wk (fun x y:α=>Xc (f x) (f y)):=⟨fun _ _ h=>tC.1 _ _ h,fun _ _ _ h1 h2=>tC.2 _ _ _ h1 h2⟩
def Qh (e f:Cd):Bool:=Xc e.vl f.vl
theorem Af.kept {w w':World}{r:Option Nat}(hg:w.grownBy w' r)(hr:∀k,r=some k->∃o:Obj,w.heap[k]?=some o/\o.isCells=false):Af w w':=by
 intro v xs h;obtain⟨p,A1,rfl,hc,hd,hp⟩:=h;refine⟨p,A1,rfl,hc,hd,fun h0=> ?_⟩;obtain⟨b,o,rfl,hb⟩:=hp h0;refine⟨b,o,rfl,fun i hi=> ?_⟩;have h1:=hb i hi;have A0:¬(some b=r):=fun e=>by
  obtain⟨ob,h2,h3⟩:=hr b e.symm;cases ob with
  |cells cs t fz=>cases h3
  |_=>simp[World.cell?,h2]at h1
 rw[World.cell?_of_block (hg.block b (World.block_lt_of_cell? w ⟨b,o+i,none⟩ h1) A0)];exact h1
theorem Hp.kept {w0 w w':World}{m:List Dk}{r:Option Nat}(h:Hp w0 w m)(hg:w.grownBy w' r)(hr:∀k,r=some k->w0.heap.size<=k/\∃o:Obj,w.heap[k]?=some o/\o.isCells=false):Hp w0 w' m:=by
 refine⟨h.ext.grown hg (fun k hk=>(hr k hk).1),fun i e he=>(h.all i e he).kept hg (fun k hk hrk=> ?_),h.apart⟩;obtain⟨o,h2,h3⟩:=(hr k hrk).2;cases e with
 |blk g t cs=>
  injection hk with hk
  subst hk;have:=h.blk he;unfold Ak at this;rw[h2]at this;injection this with this
  rw[this]at h3;cases h3
 |row t size v n xs=>
  obtain⟨h4,⟨rfl,_⟩|⟨g,A0,rest,rfl,a,hb,c⟩⟩:=h.row he
  ·simp[Dk.own,Value.ownBlock]at hk
  have hk:g=k:=by simpa[Dk.own,Value.ownBlock]using hk
  subst hk;unfold Ak at hb;rw[h2]at hb;injection hb with hb
  rw[hb]at h3;cases h3
def Ef (y:Rat)(e:(Int×Int)×(Int×Int)):Option QI:=
  if (e.1.2:Rat)<y/\y<(e.2.2:Rat)then some (Hn e.1.1 e.1.2 e.2.1 e.2.2 y,1)
  else if (e.2.2:Rat)<y/\y<(e.1.2:Rat)then some (Hn e.1.1 e.1.2 e.2.1 e.2.2 y,-1)else none
def Sm (y:Rat)(rs:List Ba):List QI:=(Ca rs).filterMap (Ef y)
def Fm (y:Rat)(rs:List Ba):List QI:=Stb.stab Xc (Sm y (if Hc rs=true then rs else[]))
theorem aQ {ax ay bx bY:Int}{y:Rat}{L:Nat}(ha:Co ax ay=true)(hb:Co bx bY=true)(hy:Nm.rl y<=L):Nm.rl (Hn ax ay bx bY y)<=L+8:=by
 unfold Co at ha hb;simp only[vC,decide_eq_true_eq]at ha hb;unfold Hn;have q1:=Nm.rl_sub y (ay:Rat);have q2:=Nm.rl_div ((1:Int):Rat) ((bY-ay:Int):Rat);have q3:=Nm.rl_mul (y-(ay:Rat)) (((1:Int):Rat)/((bY-ay:Int):Rat));have q4:=Nm.rl_mul ((y-(ay:Rat))*(((1:Int):Rat)/((bY-ay:Int):Rat))) ((bx-ax:Int):Rat);have q5:=Nm.rl_add (ax:Rat) ((y-(ay:Rat))*(((1:Int):Rat)/((bY-ay:Int):Rat))*((bx-ax:Int):Rat));have e1:=mH ax ω;have e2:=mH ay ω;have e3:=mH (bY-ay) ω;have e4:=mH (bx-ax) ω;have e5:=mH 1 ω;omega
theorem aJ (L:Nat)(v:Value)(es:List Cd)(base:Nat)(w:World)(h:Bh w base 77 5 v es.length (es.flatMap Cd.cells))(hok:∀e,e∈es->e.Ok L w)
  (hcmp:∀(w:World) (e f:Cd),e.Ok L w->f.Ok L w->Calls prog 89 #[.agg e.cells.toArray,.agg f.cells.toArray] w fun x w'=>∃z:Int,x= .returned (iV z)/\(z<0↔Qh e f=true)/\Aa w w')
  (hn:es.length<=20000):
  Calls prog 88 #[v,.func (.func 89) #[] #[]] w fun e w'=>
   e= .returned (.tuple #[])/\Bh w' base 77 5 v es.length ((Stb.stab Qh es).flatMap Cd.cells)/\w.grownBy w' v.ownBlock:=by
 rcases h.2 with⟨rfl,h0⟩|⟨g,cap,rest,rfl,hb,hg,hc1,hc2,hc3,hc4⟩
 ·have:es=[]:=uN h0
  subst this;refine(mrk.sortStable_none none 0 _ w).mono ?_;rintro e w' ⟨rfl,rfl⟩;exact⟨rfl,h,World.grownBy.refl _ _⟩
 have A4:∃xs:List {e:Cd//e.Ok L w},xs.map Subtype.val=es:=by
  clear h hg hc1 hc3 hn hc4;induction es with
  |nil=>exact⟨[],rfl⟩
  |cons e es ih=>
   obtain⟨xs,hx⟩:=ih (fun f hf=>hok f (by simp[hf]));exact⟨⟨e,hok e (by simp)⟩::xs,by rw[List.map_cons,hx]⟩
 obtain⟨xs,rfl⟩:=A4;have A5:xs.flatMap (fun x=>x.1.cells)=(xs.map Subtype.val).flatMap Cd.cells:=by rw[List.flatMap_map]
 have A0:xs.length=(xs.map Subtype.val).length:=by rw[uU]
 refine(mrk.sortStable_any (fun x: {e:Cd//e.Ok L w}=>x.1.cells) (fun _=>rfl) (fun x=>x.1.one) (fun x y=>Qh x.1 y.1) (sD (fun x: {e:Cd//e.Ok L w}=>x.1.vl)) w w g cap _ 77 rest xs (fun wr o x y=> ?_) ⟨by rw[A5];exact hg,Aj.refl _ _⟩ A0 hn).mono ?_
 ·have d:Af w wr:=Af.of_own hg hc4.arr o
  exact hcmp wr x.1 y.1 (x.2.dig d) (y.2.dig d)
 rintro e w' ⟨rfl,A2⟩;have hm:(Stb.stab (fun x y: {e:Cd//e.Ok L w}=>Qh x.1 y.1) xs).map Subtype.val=Stb.stab Qh (xs.map Subtype.val):=No Subtype.val (lt':=Qh) (fun _ _=>rfl) xs;have A3:(Stb.stab Qh (xs.map Subtype.val)).length=(xs.map Subtype.val).length:=Stb.stab_len _;have A1:∀es:List Cd,(es.flatMap Cd.cells).length=es.length*5:=fun es=>Du Cd.len es
 refine⟨rfl,⟨by rw[A1,A3],Or.inr ⟨g,cap,rest,rfl,hb,?_,hc1,hc2,?_,?_⟩⟩,?_⟩
 ·have h3:=A2.blk
  rw[show(Stb.stab (fun x y: {e:Cd//e.Ok L w}=>Qh x.1 y.1) xs).flatMap (fun x=>x.1.cells)=(Stb.stab Qh (xs.map Subtype.val)).flatMap Cd.cells by rw[<-hm,List.flatMap_map]]at h3;exact h3
 ·rw[A1,A3,<-A1];exact hc3
 ·exact(nE _).app hc4.right
 have:=A2.own;simpa[Value.ownBlock,Aj]using this
end
section
theorem Zo {y:Rat}{a b:Int×Int}(h:(a.2:Rat)<y/\y<(b.2:Rat)):Ef y (a,b)=some (Hn a.1 a.2 b.1 b.2 y,1):=if_pos h
theorem Sn {y:Rat}{a b:Int×Int}(h:(b.2:Rat)<y/\y<(a.2:Rat)):Ef y (a,b)=some (Hn a.1 a.2 b.1 b.2 y,-1):=by
  unfold Ef;rw[if_neg (fun k=>by have h1:=h.1;have h2:=h.2;have k1:=k.1;have k2:=k.2;grind),if_pos h]
theorem Zp {y:Rat}{a b:Int×Int}(h1:¬((a.2:Rat)<y/\y<(b.2:Rat)))(h2:¬((b.2:Rat)<y/\y<(a.2:Rat))):Ef y (a,b)=none:=by
  unfold Ef;rw[if_neg h1,if_neg h2]
theorem Vw (a b:Rat):a<b\/a=b\/b<a:=by grind
theorem Qo {p q:Rat}(h:p<q):Df p q= -1:=by
  have h1:=rcmp_lt.2 h;unfold Df at h1⊢;have:=Int.sign_trichotomy (p.num*q.den-q.num*p.den);omega
theorem Qn {p q:Rat}(h:q<p):Df p q=1:=by
  have h1:=Hu.2 h;unfold Df at h1⊢;have:=Int.sign_trichotomy (p.num*q.den-q.num*p.den);omega
theorem bT {p q y:Rat}(h1:¬(p<y/\y<q))(h2:¬(q<y/\y<p)):0<=Df p y*Df q y/\Df p y*Df q y<=1:=by
  rcases Vw p y with a|a|a
  · rw[Qo a]
    rcases Vw q y with b|b|b
    · rw[Qo b];decide
    · rw[rcmp_eq.2 b];decide
    exact absurd ⟨a,b⟩ h1
  · rw[rcmp_eq.2 a];simp
  rw[Qn a];rcases Vw q y with b|b|b
  · exact absurd ⟨b,a⟩ h2
  · rw[rcmp_eq.2 b];decide
  rw[Qn b];decide
theorem Nl {y:Rat}{a b:Int}(h:((a:Rat)<y/\y<(b:Rat))\/((b:Rat)<y/\y<(a:Rat))):a≠b/\((min a b:Int):Rat)<=y/\y<=((max a b:Int):Rat):=by
  rcases h with⟨h1,h2⟩|⟨h1,h2⟩
  · have A0:a<b:=by exact_mod_cast (show(a:Rat)<(b:Rat)by grind)
    rw[Int.min_eq_left ω,Int.max_eq_right ω];exact⟨ω,by grind,by grind⟩
  have A0:b<a:=by exact_mod_cast (show(b:Rat)<(a:Rat)by grind)
  rw[Int.min_eq_right ω,Int.max_eq_left ω];exact⟨ω,by grind,by grind⟩
end
section
open Go.RowKit Go.Shelf
attribute [local go_sem] Oper.semAt_some
attribute [local go_sem ↓] Go.wp_at_zero Go.wp_at_succ Dy Dx Aw Av
def Ij (x:Int×Int):Value:= .agg #[iV x.1,iV x.2]
def Fz (ok:Nat->Prop)(w:World)(v:Value)(rs:List Ba):Prop:=
  ∃(A:Option Addr) (cap:Nat),v= .slice A rs.length cap/\(0<rs.length->∃g off,A=some ⟨g,off,none⟩/\ok g/\∀i r,rs[i]?=some r->∃B cb,w.cell? ⟨g,off+i,none⟩=some (.slice B r.length cb)/\Gl w (.slice B r.length cb) r/\∀A,B=some A->ok A.block)
theorem gU (m:Nat)(hm:1<=m)(l Bx N:Nat)(G:Nat->Prop)(u:Value)(rs:List Ba)(J Jx:List ((Int×Int)×(Int×Int))->World->Prop)(w:World)
  (hcb:w.cell? ⟨Bx,0,none⟩=some u)(_hGb:¬G Bx)(hR:Fz (fun k=>¬G k) w u rs)(hrl:∀r,r∈rs->r.length<=4096)(hrs:rs.length<=1048576)
  (hJ:∀s A B,J s A->Aa A B->J s B)
  (hY:∀pre x W,J pre W->pre.length<N->x∈Ca rs->YieldAt Fence.wide (m-1) prog l #[Ij x.1,Ij x.2] W fun e W'=>(e= .returned τ/\J (pre++[x]) W'/\Fr G W W')\/(e= .returned φ/\Jx (pre++[x]) W'))
  (hN:(Ca rs).length<=N)(h0:J [] w):
  CallsIn Fence.wide m prog 103 #[.func (.yield l) #[] #[],.pointer (π Bx)] w fun e W'=>(∃v,e= .returned v)/\
   ((∃ys,ys=Ca rs/\J ys W')\/(∃pre,pre<+:Ca rs/\Jx pre W')):=by
 obtain⟨A,D7,rfl,hA⟩:=hR;have HA:=zH hA;have HJ:=zH hJ;have HY:=zH hY;have D2:=zH hrl;clear hA hJ hY hrl;refine callsIn_of_wp func103 rfl trivial ?_ rfl;simp only[ntmps103,List.size_toArray,uY,List.length_nil,Nat.reduceAdd,Nat.reduceSub,Array.replicate_succ,Array.replicate_zero,List.push_toArray,List.append_toArray,uS,uR];gi_wp2
 gi_loopw [10] (fun i wr=>∃k:Nat,k<=rs.length/\i= iV k/\Fr G w wr/\J (Ca (rs.take k)) wr) (fun i _=>rs.length-(intOf i).toNat)
 case atStart=>exact⟨0,uL _,rfl,Fr.of_ext Ad,h0⟩
 obtain⟨k,hk,rfl,A5,hj⟩:=hrel;have B7:=zH A5;have C1:=zH hj;clear A5 hj;by_cases hlt:k<rs.length
 ·obtain⟨r,hr⟩:∃r,rs[k]?=some r:=⟨_,uB hlt⟩
  obtain⟨g,D3,rfl,hg,h1⟩:=HA.1 ω;obtain⟨B,cb,B9,B8,hB⟩:=h1 k r hr;have c1:=B7.1.cell B9 hg;have C7:(k:Int)<(rs.length:Int):=ω
  have HP:=zH B8;have HB:=zH hB;have HR:=zH hr;have D4:=D2.1 r (uD hr);clear h1 B9 B8 hB hr;gi_wp2
  generalize wr=W0 at*;gi_loopw [16] (fun i wr=>∃j:Nat,j<=r.length/\i= iV j/\Fr G W0 wr/\J (Ca (rs.take k)++Ed r j) wr) (fun i _=>r.length-(intOf i).toNat)
  case atStart=>exact⟨0,uL _,rfl,Fr.of_ext Ad,by have h:=C1.1;rwa[show Ed r 0=[]from rfl,vB]⟩
  obtain⟨j,D6,rfl,A5,hj⟩:=hrel;have B0:=zH A5;have B6:=zH hj;clear A5 hj;by_cases hjt:j<r.length
  ·have C9:(j:Int)<(r.length:Int):=ω
   obtain⟨a,ha⟩:∃a,r[j]?=some a:=⟨_,uB hjt⟩;have A4:(j+1)%r.length<r.length:=Nat.mod_lt _ ω;obtain⟨b,hb⟩:∃b,r[(j+1)%r.length]?=some b:=⟨_,uB A4⟩;have C0:=zH (Qa ha hb);have B1:∃g2 A0,B=some ⟨g2,A0,none⟩/\¬G g2/\Sy w g2 A0 r:=by
    obtain⟨A2,c2,C4,h2⟩:=HP.1;injection C4 with e1 _ _
    obtain⟨g2,A0,h3,h4⟩:=h2 (fun e=>by rw[e]at hjt;simp at hjt);exact⟨g2,A0,e1.trans h3,HB.1 _ (e1.trans h3),h4⟩
   obtain⟨g2,A0,rfl,A8,B2⟩:=B1;have A9:=zH (B7.1.trans B0.1);have B4:∀i p,r[i]?=some p->r.getD i (0,0)=p:=fun i p h=>by rw[uE,h];rfl
   have A7:=B2 j hjt;have A6:=B2 _ A4;rw[B4 j a ha]at A7;rw[B4 _ b hb]at A6;have x0:=A9.1.cell A7.1 A8;have x1:=A9.1.cell A7.2 A8;have y0:=A9.1.cell A6.1 A8;have y1:=A9.1.cell A6.2 A8;have wj:IntKind.i64.wrap ((j:Int)+1)=(j:Int)+1:=by rw[IntKind.wrap_i64];omega
   have C5:((j:Int)+1).tmod (r.length:Int)=(((j+1)%r.length:Nat):Int):=by rw[Int.tmod_eq_emod_of_nonneg ω];simp
   have D9:=zH ha;have D8:=zH hb;clear B2 A7 A6 ha hb B4;generalize hM:(j+1)%r.length=M at*
   clear hM;obtain⟨a0,a1⟩:=a;obtain⟨b0,b1⟩:=b;dsimp only at x0 x1 y0 y1
   by_cases hab:(a0,a1)=(b0,b1)
   ·injection hab with e0 e1
    subst e0;subst e1;have C6:(a0==a0&&a1==a1)=true:=by simp
    have A1:=zH (C0.1.trans (if_pos rfl));have C3:=((Aa.refl wr).alloc (.cells #[iV a0,iV a1] 24)).get y0;have C2:=((Aa.refl wr).alloc (.cells #[iV a0,iV a1] 24)).get y1;have A3:Aa wr ((wr.alloc (.cells #[iV a0,iV a1] 24)).alloc (.cells #[iV a0,iV a1] 24)):=((Aa.refl wr).alloc _).alloc _;gi_wp2
    refine⟨fun _ h=>(by cases h),?_⟩;gi_wp2
    go_roundw
    case rel=>exact⟨j+1,hjt,by go_num,B0.1.trans (Fr.of_ext A3),by rw[Jp A1.1];exact HJ.1 _ _ _ B6.1 A3⟩
    case measure=>simp[intOf];omega
   have C6:(a0==b0&&a1==b1)=false:=by
    rw[Bool.and_eq_false_iff,beq_eq_false_iff_ne,beq_eq_false_iff_ne];by_cases h0:a0=b0
    ·exact .inr fun h1=>hab (by rw[h0,h1])
    exact .inl h0
   have A1:=zH (C0.1.trans (if_neg hab));clear hab;have C3:=((Aa.refl wr).alloc (.cells #[iV a0,iV a1] 24)).get y0;have C2:=((Aa.refl wr).alloc (.cells #[iV a0,iV a1] 24)).get y1;have A3:Aa wr ((wr.alloc (.cells #[iV a0,iV a1] 24)).alloc (.cells #[iV b0,iV b1] 24)):=((Aa.refl wr).alloc _).alloc _;have B3:(Ca (rs.take k)++Ed r j).length<N:=by
    have h1:=(Ma HR.1 (show j+1<=r.length by omega)).length_le;rw[Et A1.1]at h1;simp at h1⊢;omega
   obtain⟨fn,tmps,assign,body,hy,D0⟩:=HY.1 _ ((a0,a1),(b0,b1)) _ (HJ.1 _ _ _ B6.1 A3) B3 (by
    have h1:=Ma HR.1 (show j+1<=r.length by omega);rw[Et A1.1]at h1;exact h1.subset (by simp))
   dsimp only[Ij]at hy
   gi_wp2
   refine D0.mono ?_;rintro e W3 (⟨rfl,D1,C8⟩|⟨rfl,B5⟩)
   ·gi_wp2
    go_roundw
    case rel=>exact⟨j+1,hjt,by go_num,(B0.1.trans (Fr.of_ext A3)).trans C8,by rw[Et A1.1,<-uK];exact D1⟩
    case measure=>simp[intOf];omega
   gi_wp2
   refine bodyPost_ret (results_none rfl _ _ _) rfl ?_;exact⟨⟨_,rfl⟩,.inr ⟨_,by have h:=Ma HR.1 (show j+1<=r.length by omega);rwa[Et A1.1,<-uK]at h,B5⟩⟩
  have D5:¬(j:Int)<(r.length:Int):=ω;gi_wp2
  go_roundw
  case rel=>exact⟨k+1,ω,by go_num,B7.1.trans B0.1,by rw[Ll HR.1];have h:=B6.1;rwa[show j=r.length by omega]at h⟩
  case measure=>simp[intOf];omega
 gi_wp2
 go_end0
 have e:k=rs.length:=ω;subst e;exact⟨⟨_,rfl⟩,.inl ⟨_,rfl,by have h:=C1.1;rwa[uI (Bp _)]at h⟩⟩
end
section
attribute [local go_sem ↓] Go.wp_at_zero Go.wp_at_succ Dy Dx Aw Av
theorem Fz.ext {ok:Nat->Prop}{w w':World}{v:Value}{rs:List Ba}(h:Fz ok w v rs)(x:Aa w w'):Fz ok w' v rs:=by
  obtain⟨A,A1,h1,h2⟩:=h;refine⟨A,A1,h1,fun h0=> ?_⟩;obtain⟨g,A0,h3,h4,h5⟩:=h2 h0;refine⟨g,A0,h3,h4,fun i r hr=> ?_⟩;obtain⟨B,cb,h6,h7,h8⟩:=h5 i r hr;exact⟨B,cb,x.get h6,h7.ext x,h8⟩
theorem Fz.imp {ok ok':Nat->Prop}{w:World}{v:Value}{rs:List Ba}(h:Fz ok w v rs)(hi:∀k,ok k->ok' k):Fz ok' w v rs:=by
  obtain⟨A,A1,h1,h2⟩:=h;refine⟨A,A1,h1,fun h0=> ?_⟩;obtain⟨g,A0,h3,h4,h5⟩:=h2 h0;refine⟨g,A0,h3,hi _ h4,fun i r hr=> ?_⟩;obtain⟨B,cb,h6,h7,h8⟩:=h5 i r hr;exact⟨B,cb,h6,h7,fun A hA=>hi _ (h8 A hA)⟩
theorem Tr.ringsO {b0:Nat}{w:World}{v:Value}{rs:List Ba}(h:Tr b0 w v rs):Fz (fun k=>b0<=k/\k<w.heap.size) w v rs:=by
 obtain⟨vs,h1,h2,h3⟩:=h;obtain⟨_,⟨rfl,hz⟩|⟨g,A0,rest,rfl,hb,hB,_⟩⟩:=h1
 ·exact⟨none,0,by rw[hz],fun h=>ω⟩
 refine⟨_,A0,rfl,fun _=>⟨g,0,rfl,⟨hb,hB.lt⟩,fun i r hr=> ?_⟩⟩;obtain⟨B,cb,h4,h5,h6,h7⟩:=h3 i r hr;refine⟨B,cb,?_,h5,fun A hA=>⟨h7 A hA,(h6 A hA).2⟩⟩;rw[uF,hB.cell,uO,uP (by have:=(List.getElem?_eq_some_iff.1 h4).1;exact this)];exact h4
theorem Fz.nil (ok:Nat->Prop)(w:World):Fz ok w (.slice none 0 0) []:=⟨none,0,rfl,fun h=>by simp at h⟩
theorem Vo (u:Value)(rs:List Ba)(w:World)(hu:Cn w u rs)(hv:Hc rs=false)(hn:rs.length<=1048576)(hr:∀r,r∈rs->r.length<=1048576):
  Calls prog 102 #[u,.agg #[iV 0,iV 0]] w fun e w'=>e= .returned (.slice none 0 0)/\Aa w w':=by
 have HC:=zH (fun W (hW:Aa w W)=>Dq u rs W (hu.ext hW) hn hr);have HV:=zH hv;obtain⟨Au,cu,rfl,_⟩:=hu;clear hv hr;go_enter func102,ntmps102
 have hE:Aa w (w.alloc (.cells #[iV 0,iV 0] 24)):=Ad.alloc _;go_upto_if 13 with(go_at_call 43;refine(HC.1 _ hE).mono ?_;rintro e w1 ⟨rfl,A0⟩)
 have A1:(!Hc rs)=true:=by rw[HV.1];rfl
 rw[A1];go_wp2_with fail;go_ret;exact⟨rfl,hE.trans A0⟩
theorem Ve (u:Value)(rs:List Ba)(w:World)(hu:Cn w u rs)(hn:rs.length<=1048576)(hr:∀r,r∈rs->r.length<=1048576):
  Calls prog 59 #[u] w fun e w'=>∃Bx v,e= .returned (.func (.func 103) #[] #[.pointer (π Bx)])/\w.heap.size<=Bx/\Bx<w'.heap.size/\
   w'.cell? ⟨Bx,0,none⟩=some v/\Fz (fun k=>w.heap.size<=k/\k<w'.heap.size) w' v (if Hc rs=true then rs else[])/\Aa w w':=by
 have HC:Calls prog 102 #[u,.agg #[iV 0,iV 0]] w fun e w'=>∃A n c,e= .returned (.slice A n c)/\Fz (fun k=>w.heap.size<=k/\k<w'.heap.size) w' (.slice A n c) (if Hc rs=true then rs else[])/\Aa w w':=by
  by_cases h:Hc rs=true
  ·rw[if_pos h]
   refine(Tf u rs w hu h hn).mono ?_;rintro e w' ⟨v,rfl,h2,h3⟩;have h4:=h2.ringsO;obtain⟨A,c,rfl,_⟩:=id h4;exact⟨A,_,c,rfl,h4,h3⟩
  rw[if_neg h];refine(Vo u rs w hu (by simpa using h) hn hr).mono ?_;rintro e w' ⟨rfl,h3⟩;exact⟨none,0,0,rfl,Fz.nil _ _,h3⟩
 generalize (if Hc rs=true then rs else[])=qs at HC⊢;have A1:=zH HC;clear HC hu hr;go_enter func59,ntmps59;go_wp2_with (go_at_call 102;refine A1.1.mono ?_;rintro e w1 ⟨A,n,c,rfl,hR,hx⟩)
 go_ret;have A0:Aa w1 (w1.alloc (.cells #[.slice A n c] 22)):=Ad.alloc _;refine⟨_,_,rfl,hx.size,by simp,?_,(hR.ext A0).imp (fun k h=>⟨h.1,vF h.2 A0.size⟩),hx.trans A0⟩;exact(Ak.new w1 _ _).cell 0
end
section
open Go.RowKit Go.Shelf
attribute [local go_sem] Oper.semAt_some
abbrev Dd:=(Int×Int)×(Int×Int)
def tH (e:Dd):Prop:=Co e.1.1 e.1.2=true/\Co e.2.1 e.2.2=true
abbrev Xg:={e:Dd//tH e}
def rJ (x:Xg):Array Value:=#[Ij x.1.1,Ij x.1.2]
theorem Si {rs:List Ba}(h:Hc rs=true):∀e,e∈Ca rs->tH e:=by
 intro e he;obtain⟨r,hr,h2⟩:=List.mem_flatMap.1 he;obtain⟨i,_,h3⟩:=List.mem_filterMap.1 h2;unfold Hc at h;rw[vC]at h;have h4:=List.all_eq_true.1 h.2 r hr;unfold Cz at h4;have hp:∀(j:Nat) (p:Int×Int),r[j]?=some p->Co p.1 p.2=true:=fun j p hj=>List.all_eq_true.1 h4 p (uD hj)
 unfold Lm at h3;split at h3
 ·rename_i a b ha hb
  split at h3
  ·cases h3
  injection h3 with h3
  subst h3;exact⟨hp _ _ ha,hp _ _ hb⟩
 cases h3
theorem Fr.putObj {G:Nat->Prop}(W:World)(l:Nat)(o':Obj)(h:G l\/W.heap.size<=l):Fr G W (W.putObj l o'):=
  Fr.trans_new (Fr.of_ext (Aa.refl W)) (grownBy_putObj' W l o') (fun j hj=>by injection hj with hj;subst hj;exact h)
theorem Sj {n p0 p1:Nat}{g:Operand}{assign body:Code}{Q:Exit->Act->World->Prop}{a:Act}{W1:World}(hn:2<=n)(G:Nat->Prop)(Bx:Nat)(u:Value)(rs:List Ba)
  (hg:a.eval g= .func (.func 103) #[] #[.pointer (π Bx)])(hcb:W1.cell? ⟨Bx,0,none⟩=some u)(hGb:¬G Bx)(hR:Fz (fun k=>¬G k) W1 u rs)(hrs:rs.length<=1048576)(hok:Hc rs=true)
  (hG:∀k,W1.heap.size<=k->G k)
  (I:List Xg->World->Prop)(hI:OwnFrom W1.heap.size I)(h0:I [] W1)(Ax:Xg->Act->World->Prop)(hAx:∀x a',OwnFrom W1.heap.size (fun(_:Unit) W=>Ax x a' W))
  (hassign:∀(l:Nat) (pre:List Xg) (x:Xg) (W:World) (K:Act->World->Prop),I pre W->(∀a' W',KeepsFrom W1.heap.size W W'->Fr G W W'->I pre W'->Ax x a' W'->K a' W')->
   assign.wpIn (Fence.wide.inRound l) (n-1-1) prog (Exit.then K (fun _ _ _=>False)) {tmps:=(a.tmps.setIfInBounds p0 (Ij x.1.1)).setIfInBounds p1 (Ij x.1.2),defers:=[]} W)
  (hbody:∀(l:Nat) (pre:List Xg) (x:Xg) (a':Act) (W:World),I pre W->Ax x a' W->pre.length<4096->
   body.wpIn (Fence.wide.inRound l) (n-1-1) prog (ownPostG W1.heap.size (Fr G) I (fun _ _ _=>False) (pre++[x]) W) a' W)
  (hdone:∀(D:Nat) (xs:List Xg) (W:World),W1.heap.size<=D->xs.map Subtype.val=Ca rs->I xs W->W.heap[D]?=some (.deferred (some []))->Q .normal {a with defers:={target:= .collected D,args:=#[]}::a.defers} W):
  (Code.rangeFunc g #[p0,p1] assign body).wpIn Fence.wide n prog Q a W1:=by
 have A0:SeqStopsK Fence.wide (n-1) prog 103 #[.pointer (π Bx)] rJ (Fr G) (fun xs=>xs.map Subtype.val=Ca rs) (fun pre=>pre.map Subtype.val<+:Ca rs) 4096 W1:=by
  intro l J Jx W hW A6 A5 hY A7;have hx:Aa W1 W:=hW;have A4:=hR.ext hx;have A3:∀r,r∈rs->r.length<=4096:=fun r hr=>by
   obtain⟨k,hk⟩:=List.mem_iff_getElem?.1 hr;have h1:=Fi hk;have h2:=Ez rs (k+1);have h3:=Ey hok;omega
  have hN:(Ca rs).length<=4096:=Ar (Ep rs) (Ey hok);have A8:∀(s:List Xg) (A B:World),J s A->Aa A B->J s B:=fun s A B h x=>A6 s A B none h (Bg _ x) (fun r e=>by cases e)
  refine(gU (n-1) ω l Bx 4096 G u rs (fun s W=>∃xs:List Xg,xs.map Subtype.val=s/\J xs W) (fun s W=>∃xs:List Xg,xs.map Subtype.val=s/\Jx xs W) W (hx.get hcb) hGb A4 A3 hrs
   (fun s A B h x=>by obtain⟨xs,h1,h2⟩:=h;exact⟨xs,h1,A8 _ _ _ h2 x⟩) ?_ hN ⟨[],rfl,A7⟩).mono ?_
  ·rintro pre x W2 ⟨xs,rfl,h2⟩ A2 A1
   refine(hY xs ⟨x,Si hok x A1⟩ W2 h2 (by simpa using A2)).mono ?_;rintro e W3 (⟨rfl,h3,h4⟩|⟨rfl,h3⟩)
   ·exact .inl ⟨rfl,⟨_,by simp,h3⟩,h4⟩
   exact .inr ⟨rfl,⟨_,by simp,h3⟩⟩
  rintro e W2 ⟨h1,⟨ys,rfl,xs,h2,h3⟩|⟨pre,h2,xs,h3,h4⟩⟩
  ·exact⟨h1,.inl ⟨xs,h2,h3⟩⟩
  exact⟨h1,.inr ⟨xs,by show xs.map Subtype.val<+:Ca rs;rw[h3];exact h2,h4⟩⟩
 refine wpIn_rangeFunc_ownH rfl ω (gf:=103) (lb:=#[.pointer (π Bx)]) hg trivial (enters_of func103 kR rfl)
  A0 (fun h k=>Fr.trans h k) (fun W l o o' hl _ _ _=>Fr.putObj W l o' (.inl (hG l hl))) (Below.refl _ _) (fun _=>rfl) I (fun _ _ _=>False) hI (fun _ _ _ _ _ hs _ _=>hs) h0 Ax hAx ?assign ?body ?done ?stop
 case assign=>
  intro l pre x W K hi hK;have e:((#[p0,p1]:Array Tmp).zip (rJ x)).foldl (fun t (p,v)=>t.setIfInBounds p v) a.tmps=(a.tmps.setIfInBounds p0 (Ij x.1.1)).setIfInBounds p1 (Ij x.1.2):=by simp[rJ]
  rw[e];exact hassign l pre x W K hi hK
 case body=>exact fun l pre x a' W _ _ hi ha hlt=>hbody l pre x a' W hi ha hlt
 case done=>exact fun D xs W hD hs hi hK=>hdone D xs W hD hs hi hK
 case stop=>exact fun D c pre W _ _ h _=>h.elim
theorem KeepsFrom.of_fr {B:Nat}{G:Nat->Prop}{W W':World}(h:Fr G W W')(hG:∀k,G k->∀o:Obj,W.heap[k]?=some o->o.isCells=true):KeepsFrom B W W':=
  ⟨h.size,fun k o _ hk ho=>by
    have A0:k<W.heap.size:=(Array.getElem?_eq_some_iff.1 hk).1;rw[h.block k A0 (fun g=>by rw[hG k g o hk]at ho;cases ho)];exact hk⟩
theorem Fr.imp {G G':Nat->Prop}{W W':World}(h:Fr G W W')(hG:∀k,G k->G' k):Fr G' W W':=⟨h.os,h.tape,h.output,h.size,fun k hk hn=>h.block k hk (fun g=>hn (hG k g))⟩
theorem Hp.cells {w0 w:World}{m:List Dk}{i k:Nat}{e:Dk}(h:Hp w0 w m)(hi:m[i]?=some e)(hk:e.own=some k):∀o:Obj,w.heap[k]?=some o->o.isCells=true:=by
 intro o ho;cases e with
 |blk g t cs=>
  injection hk with hk
  subst hk;have:=h.blk hi;unfold Ak at this;rw[this]at ho;injection ho with ho
  rw[<-ho];rfl
 |row t size v n xs=>
  obtain⟨h4,⟨rfl,_⟩|⟨g,A0,rest,rfl,a,hb,c⟩⟩:=h.row hi
  ·simp[Dk.own,Value.ownBlock]at hk
  have hk:g=k:=by simpa[Dk.own,Value.ownBlock]using hk
  subst hk;unfold Ak at hb;rw[hb]at ho;injection ho with ho
  rw[<-ho];rfl
def Dk.typ:Dk->TypeId
  | .blk _ t _=>t
  | .row t _ _ _ _=>t
theorem Hp.typ {w0 w:World}{m:List Dk}{i g:Nat}{e:Dk}{T:TypeId}{cs:Array Value}(h:Hp w0 w m)(hi:m[i]?=some e)(hb:Ak w g T cs)(hk:e.own=some g):e.typ=T:=by
 unfold Ak at hb;cases e with
 |blk g' t cs'=>
  injection hk with hk
  subst hk;have:=h.blk hi;unfold Ak at this;rw[this]at hb;injection hb with hb
  injection hb with _ hb _
 |row t size v n xs=>
  obtain⟨h4,⟨rfl,_⟩|⟨g',A1,rest,rfl,a,A0,c⟩⟩:=h.row hi
  ·simp[Dk.own,Value.ownBlock]at hk
  have hk:g'=g:=by simpa[Dk.own,Value.ownBlock]using hk
  subst hk;unfold Ak at A0;rw[A0]at hb;injection hb with hb
  injection hb with _ hb _
theorem Hp.addTyp2 {w0 w:World}{m:List Dk}{X Y:Nat}{T:TypeId}{zs us:List Value}(h:Hp w0 w m)(B1:Ak w X T zs.toArray)(B2:Ak w Y T us.toArray)(hne:X≠Y)(z1:w0.heap.size<=X)(z2:w0.heap.size<=Y)(n1:Aq zs)(n2:Aq us)
  (ht:∀e,e∈m->e.typ≠T):Hp w0 w (m++[.blk X T zs]++[.blk Y T us]):=by
 have h1:Hp w0 w (m++[.blk X T zs]):=h.add ⟨z1,B1,n1⟩ (fun i f hf k hk e=>by
  injection e with e
  subst e;exact ht f (uD hf) (h.typ hf B1 hk))
 refine h1.add ⟨z2,B2,n2⟩ (fun i f hf k hk e=> ?_);injection e with e
 subst e;rcases List.mem_append.1 (uD hf)with hm|hm
 ·obtain⟨j,hj⟩:=List.mem_iff_getElem?.1 hm
  exact ht f hm (h.typ hj B2 hk)
 simp at hm;subst hm;injection hk with hk
 exact hne hk
theorem Ak.kept {w w':World}{g:Nat}{t:TypeId}{cs:Array Value}{r:Option Nat}(h:Ak w g t cs)(hg:w.grownBy w' r)(hr:∀k,r=some k->∃o:Obj,w.heap[k]?=some o/\o.isCells=false):Ak w' g t cs:=
  h.grown hg (fun e=>by
    obtain⟨o,h2,h3⟩:=hr g e;unfold Ak at h;rw[h]at h2;injection h2 with h2
    rw[<-h2]at h3;cases h3)
end
section
attribute [local go_sem ↓] Go.wp_at_zero Go.wp_at_succ Aw Av
theorem qY {P:Program}{ρ:Operand->Value}{o:Oper}{w:World}{A B E:Int}{t t':TypeId}{x y:Operand}(ho:o.op= .binOp .rem t x y t')(hx:ρ x= iV A)(hy:ρ y= iV B)(hB:B≠0)(hE:A.tmod B=E)(_h1: -9223372036854775808<=E)(_h2:E<=9223372036854775807):(execOp ρ o).run P w= .ok (.value (iV E)) w:=by
  unfold execOp;simp only[ho,hx,hy];simp[go_sem,hB,hE]
theorem Jt {ρ:Operand->Value}{o:Oper}{w:World}{a b c d:Int}{bb:Bool}{t':TypeId}{x y:Operand}(ho:o.op= .binOp .neq 24 x y t')(hx:ρ x= .agg #[iV a,iV b])(hy:ρ y= .agg #[iV c,iV d])(h:(!(a==c&&b==d))=bb):
    (execOp ρ o).run prog w= .ok (.value (.bool bb)) w:=by
  subst h;unfold execOp;simp only[ho,hx,hy];simp[go_sem,Dx]
def Iu (e:Dd):List Value:=[iV e.1.1,iV e.1.2,iV e.2.1,iV e.2.2]
theorem Gt (e:Dd):(Iu e).length=4:=rfl
theorem Ei {w:World}{g o:Nat}{v:Value}(h:w.cell? ⟨g,o,none⟩=some v):w.rangeAt g o [v]:=by
  intro j u hj;match j,hj with
  |0,hj=>injection hj with hj;rw[<-hj];exact h
  |k+1,hj=>simp at hj
theorem Yj {w:World}{g off i:Nat}{ps:List (Int×Int)}{a:Int×Int}(h:Sy w g off ps)(hi:ps[i]?=some a):w.rangeAt g (off+i*2) [iV a.1,iV a.2]:=by
  have hl:=(List.getElem?_eq_some_iff.1 hi).1;have h1:=h i hl;have e:ps.getD i (0,0)=a:=by rw[uE,hi];rfl
  rw[e]at h1;intro j u hj;match j,hj with
  |0,hj=>injection hj with hj;rw[<-hj];exact h1.1
  |1,hj=>injection hj with hj;rw[<-hj];exact h1.2
  |k+2,hj=>simp at hj
theorem bO {rs:List Ba}{k n:Nat}{r:Ba}(hok:Hc rs=true)(h:rs[k]?=some r)(hn:n<=r.length):(Ca (rs.take k)++Ed r n).length<=4096:=
  Ar (Ma h hn).length_le (Ar (Ep rs) (Ey hok))
def Ab (rs:List Ba):List Dd:=Ca (if Hc rs=true then rs else[])
theorem Mb {rs:List Ba}(h:Hc rs=true):Ab rs=Ca rs:=by unfold Ab;rw[if_pos h]
theorem Pk {rs:List Ba}(h:¬Hc rs=true):Ab rs=[]:=by unfold Ab;rw[if_neg h];rfl
theorem Rn (u:Value)(rs:List Ba)(w:World)(hu:Cn w u rs)(hn:rs.length<=1048576)(hr:∀r,r∈rs->r.length<=1048576):
  Calls prog 112 #[u] w fun e w'=>∃A n c,e= .returned (.slice A n c)/\n=(Ab rs).length/\Bh w' w.heap.size 92 4 (.slice A n c) n (List.flatMap Iu (Ab rs))/\Aa w w':=by
 have HU:=zH hu;have HN:=zH hn;have HR:=zH hr;obtain⟨A,cu,rfl,hA⟩:=hu;have HA:=zH hA;clear hA hr;go_enter func112,ntmps112
 have H0:=zH (Hp.start w);by_cases c1:Hc rs=true
 ·have HV:=zH c1
  clear c1;go_upto_region 0 with fail;apply wl;refine Ds Ai _ ?_;go_upto_region 1 with fail;apply wl;refine Ds Ai _ ?_;have H4:=zH (show Hp w w [ro 92 4 none 0 0 Iu ([])]from H0.1.addNil 92 4);go_upto_region 2 with fail
  apply wl;refine Ds Ai _ ?_;refine zc (Cy _ rs _ (HU.1.ext H4.1.ext) HN.1 HR.1) ?_;rintro e w6 ⟨rfl,hx⟩;have H7:=zH (H4.1.step hx);clear hx;refine⟨.bool true,by rw[HV.1],?_⟩;try simp only[ζ]
  apply zq φ;go_wp2_with fail;go_loopg [3,4] (rs.length) (fun cq G1 G0 wr=>∃(i:Nat) (m:Nat) (es:List Dd) (A1:Option Addr) (c1:Nat),cq=rs.length-i/\G1= .slice A1 m c1/\G0= iV (i:Int)/\(i<=rs.length)/\(m=es.length)/\(es=Ca (rs.take i))/\Hp w wr [.row 92 4 (.slice A1 m c1) (m) (List.flatMap Iu es)]/\Af w6 wr)
  case atStart=>exact⟨0,0,[],none,0,rfl,rfl,rfl,uL _,rfl,rfl,H7.1,Af.refl _⟩
  obtain⟨i,m,es,A1,c1,rfl,rfl,rfl,A9,B7,B0,C0,C1⟩:=hrel;generalize wr=F7 at*;have G7:=zH A9;clear A9;have HM:=zH B7;clear B7;have E8:=zH B0;clear B0;have D0:=zH C0;have H9:=zH C1;clear C0 C1 H7;rcases Cm (i<rs.length)with HLT|HLT
  ·have B3:=HLT.1
   have G3:(i:Int)<(rs.length:Int):=ω;obtain⟨r,A4⟩:∃r,rs[i]?=some r:=⟨_,uB B3⟩;have E5:=zH A4;have I4:=HR.1 r (uD A4);obtain⟨g,A0,rfl,E2⟩:=HA.1 ω;obtain⟨B,cb,C7,J1,G4,G2,C6⟩:=E2 i r A4;injection G2 with e1_ e2_ e3_
   subst e1_;have C3:=zH C7;have G5:=zH C6;clear A4 E2 C7 C6 e2_ e3_;go_upto_region 7 with fail
   apply wl;apply zq (iV 0);go_wp2_with fail;go_loopg [3,5] (r.length) (fun cq F9 F8 wr=>∃(k:Nat) (m2:Nat) (B4:List Dd) (A2:Option Addr) (c2:Nat),cq=r.length-k/\F9= .slice A2 m2 c2/\F8= iV (k:Int)/\(k<=r.length)/\(m2=B4.length)/\(B4=Ca (rs.take i)++Ed r k)/\Hp w wr [.row 92 4 (.slice A2 m2 c2) (m2) (List.flatMap Iu B4)]/\Af F7 wr)
   case atStart=>exact⟨0,m,es,A1,c1,rfl,rfl,rfl,uL _,HM.1,(by rw[E8.1];simp[Ed]),D0.1,Af.refl _⟩
   obtain⟨k,m2,B4,A2,c2,rfl,rfl,rfl,A8,A7,A3,C0,C1⟩:=hrel;generalize wr=I3 at*;have G6:=zH A8;clear A8;have C8:=zH A7;clear A7;have A6:=zH A3;clear A3;have B6:=zH C0;have D9:=zH C1;clear C0 C1 D0;rcases Cm (k<r.length)with HLU|HLU
   ·have B2:=HLU.1
    have E1:r≠ []:=by intro h_;rw[h_]at B2;simp at B2
    obtain⟨gr,B1,rfl,A5⟩:=G5.1 E1;have J0:=zH A5;obtain⟨⟨a0,a1⟩,D4⟩:∃a,r[k]?=some a:=⟨_,uB B2⟩;have B9:(k+1)%r.length<r.length:=Nat.mod_lt _ ω;obtain⟨⟨b0,b1⟩,D3⟩:∃b,r[(k+1)%r.length]?=some b:=⟨_,uB B9⟩;have F0:=zH (Qa D4 D3);have E6:=zH (Yj A5 D4);have E7:=zH (Yj A5 D3);have D5:=zH (show(((k+1:Nat):Int)).tmod (r.length:Int)=(((k+1)%r.length:Nat):Int)by rw[Int.tmod_eq_emod_of_nonneg ω];simp);have B5:=zH (show m2<=4096 by rw[C8.1,A6.1];exact bO HV.1 E5.1 (vO B2));clear D4 D3 A5 E1;dsimp only at E6 E7
    generalize hj_:(k+1)%r.length=j at*;clear hj_;go_upto_region 8 with fail;apply wl;refine Dh Ai (iV (k:Int)) _ (iV (i:Int)) ?_;apply zp (.pointer (some ⟨g,A0+i,none⟩)) (by exact Eo (k:=i) underlying22 (l:=B3) (f:=(show A0+i=A0+i*1 by omega)));refine ze g (A0+i) (.slice (some ⟨gr,B1,none⟩) r.length cb) (Ei (B6.1.ext.get C3.1)) ?_;apply zq (iV ((r.length:Nat):Int));apply zp τ (by exact Dw (e:=(Ay (by have B8:=B5.1;omega))));go_upto_region 10 with fail;apply wl;refine Bw Ai _ (iV (i:Int)) ?_;apply zp (.pointer (some ⟨g,A0+i,none⟩)) (by exact Eo (k:=i) underlying22 (l:=B3) (f:=(show A0+i=A0+i*1 by omega)));refine ze g (A0+i) (.slice (some ⟨gr,B1,none⟩) r.length cb) (Ei (B6.1.ext.get C3.1)) ?_;apply zq (iV (k:Int));apply zp (.pointer (some ⟨gr,B1+k*2,none⟩)) (by exact Eo (k:=k) underlying43 (l:=B2) (f:=rfl));refine zd gr (B1+k*2) [iV a0,iV a1] (Be E6.1 B6.1.ext) underlying24 ?_;apply Cl 24 [iV 0,iV 0] B6.1;intro I8 I2 H3 F5;apply Ck 1 [iV a0,iV a1] H3.1;intro D1 C9 F4;go_upto_region 11 with fail;refine zy ?_;have H2:=zH (C9.1.step (Aa.refl D1).drew);have F3:=zH (Af.of_ext (w:=D1) zb);refine Jl Ai zb (bs 16 3) 0 1 _ (iV (i:Int)) ?_;refine zu 2 (bs 16 7) (v:= .pointer (some ⟨g,A0+i,none⟩)) zb ?_ (hv:=by intro w C5;exact Eo (k:=i) underlying22 (l:=B3) (f:=(show A0+i=A0+i*1 by omega)));refine zf 3 (bs 16 15) g (A0+i) (.slice (some ⟨gr,B1,none⟩) r.length cb) (Ei (C9.1.ext.get C3.1)) zb ?_;refine zx 4 (bs 16 31) (iV (k:Int)) zb ?_;refine zu 5 (bs 16 63) (v:= iV ((k+1:Nat):Int)) zb ?_ (hv:=by intro w C5;exact Ie (by have B8:=B5.1;omega));refine Jl Ai zb (bs 16 255) 6 7 _ (iV (i:Int)) ?_;refine zu 8 (bs 16 511) (v:= .pointer (some ⟨g,A0+i,none⟩)) zb ?_ (hv:=by intro w C5;exact Eo (k:=i) underlying22 (l:=B3) (f:=(show A0+i=A0+i*1 by omega)));refine zf 9 (bs 16 1023) g (A0+i) (.slice (some ⟨gr,B1,none⟩) r.length cb) (Ei (C9.1.ext.get C3.1)) zb ?_;refine zx 10 (bs 16 2047) (iV ((r.length:Nat):Int)) zb ?_;refine zu 11 (bs 16 4095) (v:= iV (j:Int)) zb ?_ (hv:=by intro w C5;exact qY rR rR rR ω D5.1 ω ω);refine zo 12 (bs 16 8191) (v:= .pointer (some ⟨gr,B1+j*2,none⟩)) zb ?_ (hv:=by intro w C5;exact Eo (k:=j) underlying43 (l:=B9) (f:=rfl));refine zg 13 (bs 16 16383) gr (B1+j*2) [iV b0,iV b1] (Be E7.1 C9.1.ext) underlying24 zb ?_;refine Za (T:=24) (zs:=[iV 0,iV 0]) (i:=14) (listed':=(bs 16 32767)) rR kR rR (by go_simp) kR H2.1 (by simp[Aq]) ?_;intro I7 F6 hh hx D2;have H1:=hN hh;have F2:=zH (show Af D1.drew F6 from Af.of_ext hx);have E4:=zH (zb.trans hx);have H5:=zH (Ar zb.size D2);clear hh hx D2;refine⟨E4.1,?_⟩;try simp only[ζ]
    refine bS 2 15 (bs 16 65535) [iV b0,iV b1] H1.1 E4.1 H5.1 ?_;intro E0 C4 F1 I9;refine wpAnyH_done kR ?_ _;rcases Cm ((a0,a1)=(b0,b1))with C|C
    ·go_upto_region 12 with fail
     apply wl;refine Bw C4.1 _ _ ?_;apply zp φ (by exact Jt rR rR rR (by have h_:=C.1;injection h_ with C7 C6;simp[C7,C6]));have D8:=tD (tD (tD (tD (tD D9 F5) F4) F3) F2) F1;go_wp2_with fail
     go_roundg (r.length-(k+1))
     case measure=>exact(by have B8:=B5.1;omega)
     case rel=>exact⟨k+1,m2,B4,A2,c2,rfl,rfl,(by go_num),B2,C8.1,(by rw[A6.1,Jp (F0.1.trans (if_pos C.1))]),C4.1.take 1,D8.1⟩
    go_upto_region 12 with fail;apply wl;refine Bw C4.1 _ _ ?_;apply zp τ (by exact Jt rR rR rR (by have h_:=C.1;simp only[Bool.not_eq_true',Bool.and_eq_false_iff,beq_eq_false_iff_ne];exact(Classical.em (a0=b0)).elim (fun q_=> .inr (fun q2_=>h_ (by rw[q_,q2_]))) .inl));go_upto_region 13 with fail;apply wl;refine Fp C4.1 _ _ _ _ ?_;refine zp (w':=(E0.alloc (.cells ([iV a0,iV a1,iV b0,iV b1]:List Value).toArray 92))) (.slice (π E0.heap.size) 1 1) (by go_simp) ?_;refine He rR _ _ _ rR sJ rR C4.1 (ix:=0) rR 1 1 [iV a0,iV a1,iV b0,iV b1] rR rfl (by simp[Value.oneCell']) (by simp[Aq]) dC (by unfold maxLen;exact(by have B8:=B5.1;omega)) (by have B8:=B5.1;omega) ?_;intro E3 C2 I1 hf hh hd hg;have H6:=zH hf;clear hf;rw[show List.flatMap Iu B4++[iV a0,iV a1,iV b0,iV b1]=_ from Do Iu _ ((a0,a1),(b0,b1))]at hh;have G9:=hN hh;have H8:=zH (hd);clear hh hd hg;try simp only[ζ]
    apply zq (.slice (π E3) (m2+1) C2);have D7:=tD (tD (tD (tD (tD (tD D9 F5) F4) F3) F2) F1) H8;go_wp2_with fail
    go_roundg (r.length-(k+1))
    case measure=>exact(by have B8:=B5.1;omega)
    case rel=>exact⟨k+1,m2+1,B4++[((a0,a1),(b0,b1))],some ⟨E3,0,none⟩,C2,rfl,rfl,(by go_num),B2,(by rw[uC,C8.1];rfl),(by rw[A6.1,Et (F0.1.trans (if_neg C.1)),uK]),G9.1.take 1,D7.1⟩
   have B2:=HLU.1;have I5:=G6.1;obtain rfl:k=r.length:=ω
   go_upto_region 8 with fail;apply wl;refine Dh Ai (iV ((r.length:Nat):Int)) _ (iV (i:Int)) ?_;apply zp (.pointer (some ⟨g,A0+i,none⟩)) (by exact Eo (k:=i) underlying22 (l:=B3) (f:=(show A0+i=A0+i*1 by omega)));refine ze g (A0+i) (.slice B r.length cb) (Ei (B6.1.ext.get C3.1)) ?_;apply zq (iV ((r.length:Nat):Int));apply zp φ (by exact Dw (e:=(Al (Int.lt_irrefl _))));have D6:=tD H9 D9;go_wp2_with fail
   go_roundg (rs.length-(i+1))
   case measure=>exact(ω)
   case rel=>exact⟨i+1,m2,B4,A2,c2,rfl,rfl,(by go_num),B3,C8.1,(by rw[A6.1,Ll E5.1]),B6.1,D6.1⟩
  have B3:=HLT.1;have I6:=G7.1;obtain rfl:i=rs.length:=ω
  have D2:¬(rs.length:Int)<(rs.length:Int):=ω;have E9:=zH (show es=Ab rs by rw[E8.1,vJ,Mb HV.1]);go_upto_region 14 with fail;apply wl;refine Bw Ai _ _ ?_;go_wp2_with fail;go_ret;exact⟨A1,m,c1,rfl,by rw[HM.1,E9.1],by rw[<-E9.1];exact D0.1.row (i:=0) (by rfl),D0.1.ext⟩
 have HV:=zH c1;clear c1;go_upto_region 0 with fail;apply wl;refine Ds Ai _ ?_;go_upto_region 1 with fail;apply wl;refine Ds Ai _ ?_;go_upto_region 2 with fail;apply wl;refine Ds Ai _ ?_;refine zc (Cy _ rs _ (HU.1.ext H0.1.ext) HN.1 HR.1) ?_;rintro e I0 ⟨rfl,hx⟩;have G8:=zH (H0.1.step hx);clear hx;refine⟨.bool false,by rw[Bool.eq_false_iff.2 HV.1],?_⟩;try simp only[ζ]
 apply zq τ;go_upto_region 3 with fail;apply wl;refine Bw Ai _ _ ?_;go_wp2_with fail;go_ret;exact⟨none,0,0,rfl,by rw[Pk HV.1];rfl,by rw[Pk HV.1];exact Bh.nil _ _ _ _,G8.1.ext⟩
end
end Go.Proofs.YthlfilomhgeheaaGreat
