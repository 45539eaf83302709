/- Contracts that the claim stands on: XBase to XRatC. -/
import Derived.Test.YtdkfmkeaaeooeaaGreatProg
import Derived.WalkKit
import Derived.WalkSpells
import Derived.WalkLawsBesides
import Derived.Lib.Hide
import Derived.Deep.QuietTactic
import Derived.BigQuiet
import Derived.Deep.RegionHeld3
import Derived.Deep.DrawnRows
import Derived.Deep.Draws
import Derived.Outline
import Derived.IntWalk
import Derived.Deep.OwnRows
import Derived.Maps.AppendAt
import Derived.WalkMore
import Derived.Laws.BitsAllLaws
import Derived.Lib.BitFns
import Derived.Lib.ItoaNum
import Derived.Shelf.Small.Bits
import Derived.ArgAppend
import Derived.Deep.LoopGhost
set_option maxRecDepth 100000
set_option maxHeartbeats 4000000
namespace Go.Proofs.YtdkfmkeaaeooeaaGreat
open Go.RowKit
section
theorem zH {p:Prop}(h:p):Hid p:=Lib.hid h
theorem zA {α:Type}(l:List α)(i:Nat)(a:α):l.toArray.setIfInBounds i a=(l.set i a).toArray:=List.setIfInBounds_toArray l i a
theorem zB {α:Type}{x:α}{xs:List α}{a:α}:(x::xs).set 0 a=a::xs:=List.set_cons_zero
theorem zC {α:Type}{x:α}{xs:List α}{i:Nat}{a:α}:(x::xs).set (i+1) a=x::xs.set i a:=List.set_cons_succ
def Ext (w w':World):Prop:=Below w.heap.size w w'
theorem Ext.below {w w':World}(h:Ext w w'):Below w.heap.size w w':=h
theorem Ext.refl (w:World):Ext w w:=Below.refl _ _
theorem Ext.trans {a b c:World}(h:Ext a b)(k:Ext b c):Ext a c:=Below.trans h (Below.mono k h.size)
theorem Ext.via {a b c:World}(k:Ext b c)(h:Ext a b):Ext a c:=h.trans k
theorem Ext.drew {a w:World}(h:Ext a w):Ext a w.drew:=Below.drew h
theorem Ext.drewN {a w:World}(h:Ext a w)(n:Nat):Ext a (w.drewN n):=⟨h.os,h.tape,h.output,h.size,h.block⟩
theorem Ext.alloc {a w:World}(h:Ext a w)(o:Obj):Ext a (w.alloc o):=Below.alloc h h.size o
theorem Ext.setCell {a w:World}(h:Ext a w){p:Addr}(hp:a.heap.size<=p.block)(u:Value):Ext a (w.setCell p u):=Below.setCell h hp u
theorem Ext.grown {a w w':World}{row:Option Nat}(h:Ext a w)(hg:w.grownBy w' row)(hr:∀k,row=some k->a.heap.size<=k):Ext a w':=Below.grown h hg h.size hr
theorem Ext.size {a w:World}(h:Ext a w):a.heap.size<=w.heap.size:=Below.size h
theorem Ext.cell {a w:World}(h:Ext a w){p:Addr}(hp:p.block<a.heap.size):w.cell? p=a.cell? p:=Below.cell h hp
theorem Ext.frozen {a w:World}(h:Ext a w){p:Addr}(hp:p.block<a.heap.size):w.frozen? p=a.frozen? p:=Below.frozen h hp
theorem Ext.get {a w:World}(h:Ext a w){p:Addr}{v:Value}(hc:a.cell? p=some v):w.cell? p=some v:=
  (h.cell (World.block_lt_of_cell? a p hc)).trans hc
theorem ret_int {k:IntKind}{a b:Int}(h:a=b):Ending.returned (.int k a)= .returned (.int k b):=by rw[h]
def Own (g:Nat)(w w':World):Prop:=w.grownBy w' (some g)
theorem Own.refl (g:Nat)(w:World):Own g w w:=World.grownBy.refl w _
theorem Own.drew {g:Nat}{a w:World}(h:Own g a w):Own g a w.drew:=⟨h.os,h.tape,h.output,h.size,h.block⟩
theorem Own.drewN {g:Nat}{a w:World}(h:Own g a w)(n:Nat):Own g a (w.drewN n):=⟨h.os,h.tape,h.output,h.size,h.block⟩
theorem Own.size {g:Nat}{a w:World}(h:Own g a w):a.heap.size<=w.heap.size:=World.grownBy.size h
theorem Own.alloc {g:Nat}{a w:World}(h:Own g a w)(o:Obj):Own g a (w.alloc o):=
  ⟨h.os,h.tape,h.output,Nat.le_trans h.size (by simp),fun i hi hne=>(Below.heap_alloc w o i (Nat.lt_of_lt_of_le hi h.size)).trans (h.block i hi hne)⟩
theorem Own.set {g:Nat}{a w:World}(h:Own g a w){p:Addr}(hp:p.block=g\/a.heap.size<=p.block)(u:Value):Own g a (w.setCell p u):=
  ⟨h.os,h.tape,h.output,by simpa[World.setCell]using h.size,fun i hi hne=>(Below.heap_setCell w p u i (by
    rintro rfl;rcases hp with hp|hp
    · exact hne (by rw[hp])
    omega)).trans (h.block i hi hne)⟩
theorem Own.set_at {g:Nat}{a w:World}(h:Own g a w)(o:Nat)(s:Option Nat)(u:Value):Own g a (w.setCell ⟨g,o,s⟩ u):=h.set (.inl rfl) u
theorem Own.then_ext {g:Nat}{a b c:World}(h:Own g a b)(k:Ext b c):Own g a c:=
  ⟨k.os.trans h.os,k.tape.trans h.tape,k.output.trans h.output,Nat.le_trans h.size k.size,fun i hi hn=>(k.block i (Nat.lt_of_lt_of_le hi h.size)).trans (h.block i hi hn)⟩
theorem Own.via {g:Nat}{a b c:World}(k:Ext b c)(h:Own g a b):Own g a c:=h.then_ext k
theorem Own.of_ext {g:Nat}{a b:World}(h:Ext a b):Own g a b:=(Own.refl g a).then_ext h
theorem Own.cell {g:Nat}{a w:World}(h:Own g a w){p:Addr}(hp:p.block<a.heap.size)(hne:p.block≠g):w.cell? p=a.cell? p:=
  World.cell?_of_block (h.block p.block hp (fun e=>hne (by injection e)))
theorem Own.get {g:Nat}{a w:World}(h:Own g a w){p:Addr}{v:Value}(hc:a.cell? p=some v)(hne:p.block≠g):w.cell? p=some v:=
  (h.cell (World.block_lt_of_cell? a p hc) hne).trans hc
theorem Own.ext {g:Nat}{w a b:World}(h:Own g a b)(e:Ext w a)(hg:w.heap.size<=g):Ext w b:=
  ⟨h.os.trans e.os,h.tape.trans e.tape,h.output.trans e.output,Nat.le_trans e.size h.size,fun k hk=>(h.block k (Nat.lt_of_lt_of_le hk e.size) (fun x=>by injection x;omega)).trans (e.block k hk)⟩
def Blk (w:World)(g:Nat)(t:TypeId)(cs:Array Value):Prop:=w.heap[g]?=some (.cells cs t (0,0))
section
variable {w w':World} {g:Nat} {t:TypeId} {cs:Array Value}
theorem Blk.lt (h:Blk w g t cs):g<w.heap.size:=by
  rcases Nat.lt_or_ge g w.heap.size with hlt|hge
  · exact hlt
  unfold Blk at h;rw[Array.getElem?_eq_none hge]at h;cases h
theorem Blk.cell (h:Blk w g t cs)(i:Nat):w.cell? ⟨g,i,none⟩=cs[i]?:=cell_of_row w g i cs t (0,0) h
theorem Blk.frozen (h:Blk w g t cs)(i:Nat):w.frozen? ⟨g,i,none⟩=false:=by
  unfold Blk at h;simp[World.frozen?,h]
theorem Blk.new (w:World)(t:TypeId)(cs:Array Value):Blk (w.alloc (.cells cs t)) w.heap.size t cs:=heap_alloc_new w _
theorem Blk.drew (h:Blk w g t cs):Blk w.drew g t cs:=h
theorem Blk.drewN (h:Blk w g t cs)(n:Nat):Blk (w.drewN n) g t cs:=h
theorem Blk.alloc (h:Blk w g t cs)(o:Obj):Blk (w.alloc o) g t cs:=(Below.heap_alloc w o g h.lt).trans h
theorem Blk.set_ (h:Blk w g t cs)(i:Nat)(u:Value):Blk (w.setCell ⟨g,i,none⟩ u) g t (cs.setIfInBounds i u):=by
  unfold Blk at h⊢;simp[World.setCell,Array.getElem?_modify,h]
theorem Blk.far (h:Blk w g t cs){p:Addr}(hp:g≠p.block)(u:Value):Blk (w.setCell p u) g t cs:=(Below.heap_setCell w p u g hp).trans h
theorem Blk.ext (h:Blk w g t cs)(hb:Ext w w'):Blk w' g t cs:=(Below.block hb g h.lt).trans h
end
theorem run_eql_point (a b c d:Int)(w:World):
    (binOp .eql 23 (.agg #[.int .i64 a,.int .i64 b]) (.agg #[.int .i64 c,.int .i64 d])).run Tryz.prog w= .ok (.bool (a==c&&b==d)) w:=by
  by_cases h:a=c<;>by_cases h2:b=d<;>simp[go_sem,h,h2]
theorem run_neq_point (a b c d:Int)(w:World):
    (binOp .neq 23 (.agg #[.int .i64 a,.int .i64 b]) (.agg #[.int .i64 c,.int .i64 d])).run Tryz.prog w= .ok (.bool (!(a==c&&b==d))) w:=by
  by_cases h:a=c<;>by_cases h2:b=d<;>simp[go_sem,h,h2]
theorem run_max_ii (ts:Array TypeId)(t:TypeId)(k k':IntKind)(x y:Int)(w:World):(Builtin.max_ ts t #[.int k x,.int k' y]).run Tryz.prog w= .ok (.int k (max x y)) w:=by
  rw[run_max_int2];congr 2;by_cases h:x<y
  · rw[if_pos h];omega
  rw[if_neg h];omega
theorem run_min_ii (ts:Array TypeId)(t:TypeId)(k k':IntKind)(x y:Int)(w:World):(Builtin.min_ ts t #[.int k x,.int k' y]).run Tryz.prog w= .ok (.int k (min x y)) w:=by
  simp only[Builtin.min_,Builtin.min2,List.foldlM_cons,List.foldlM_nil];simp;by_cases h:y<x
  · rw[if_pos h];omega
  rw[if_neg h];omega
end
namespace Nm
def val:List Nat->Nat
  | []=>0
  |x::xs=>x+4294967296*val xs
def digs (n:Nat):List Nat:=if n=0 then[]else(n%4294967296)::digs (n/4294967296)
termination_by n
decreasing_by omega
def Dg (xs:List Nat):Prop:=∀x,x∈xs->x<4294967296
def nl (n:Nat):Nat:=(digs n).length
theorem digs_zero:digs 0=[]:=by rw[digs];simp
theorem digs_pos {n:Nat}(h:n≠0):digs n=(n%4294967296)::digs (n/4294967296):=by rw[digs,if_neg h]
theorem digs_one {n:Nat}(h:n≠0)(hn:n<4294967296):digs n=[n]:=by
  rw[digs_pos h,Nat.mod_eq_of_lt hn,Nat.div_eq_of_lt hn,digs_zero]
theorem val_nil:val []=0:=rfl
theorem val_cons (x:Nat)(xs:List Nat):val (x::xs)=x+4294967296*val xs:=rfl
theorem val_digs (n:Nat):val (digs n)=n:=by
  induction n using Nat.strongRecOn with
  | _ n ih=>
    by_cases h:n=0
    · subst h;rw[digs_zero];rfl
    rw[digs_pos h,val_cons,ih (n/4294967296) (by omega)];omega
theorem dg_digs (n:Nat):Dg (digs n):=by
  induction n using Nat.strongRecOn with
  | _ n ih=>
    by_cases h:n=0
    · subst h;rw[digs_zero];intro x hx;cases hx
    rw[digs_pos h];intro x hx;rcases List.mem_cons.1 hx with rfl|hx
    · exact Nat.mod_lt _ (by omega)
    exact ih (n/4294967296) (by omega) x hx
theorem Dg.tail {x:Nat}{xs:List Nat}(h:Dg (x::xs)):Dg xs:=fun y hy=>h y (List.mem_cons_of_mem _ hy)
theorem Dg.head {x:Nat}{xs:List Nat}(h:Dg (x::xs)):x<4294967296:=h x List.mem_cons_self
theorem Dg.nil:Dg []:=fun _ h=>by cases h
theorem Dg.cons {x:Nat}{xs:List Nat}(hx:x<4294967296)(h:Dg xs):Dg (x::xs):=fun y hy=>by
  rcases List.mem_cons.1 hy with rfl|hy
  · exact hx
  exact h y hy
theorem Dg.take {xs:List Nat}(h:Dg xs)(k:Nat):Dg (xs.take k):=fun y hy=>h y (List.mem_of_mem_take hy)
theorem Dg.drop {xs:List Nat}(h:Dg xs)(k:Nat):Dg (xs.drop k):=fun y hy=>h y (List.mem_of_mem_drop hy)
theorem Dg.append {xs ys:List Nat}(h:Dg xs)(k:Dg ys):Dg (xs++ys):=fun y hy=>by
  rcases List.mem_append.1 hy with hy|hy
  · exact h y hy
  exact k y hy
theorem Dg.zeros (k:Nat):Dg (List.replicate k 0):=fun y hy=>by
  rw[List.mem_replicate]at hy;omega
theorem Dg.set {xs:List Nat}(h:Dg xs)(i:Nat){d:Nat}(hd:d<4294967296):Dg (xs.set i d):=fun y hy=>by
  rcases List.mem_or_eq_of_mem_set hy with hy|rfl
  · exact h y hy
  exact hd
theorem Dg.getD {xs:List Nat}(h:Dg xs)(i:Nat):xs.getD i 0<4294967296:=by
  rw[List.getD_eq_getElem?_getD];by_cases hi:i<xs.length
  · rw[List.getElem?_eq_getElem hi];exact h _ (List.getElem_mem hi)
  rw[List.getElem?_eq_none (by omega)];simp
theorem Dg.get {xs:List Nat}(h:Dg xs){i:Nat}(hi:i<xs.length):xs[i]<4294967296:=h _ (List.getElem_mem hi)
theorem val_append (xs ys:List Nat):val (xs++ys)=val xs+4294967296^xs.length*val ys:=by
  induction xs with
  |nil=>simp[val]
  | cons x xs ih=>
    rw[List.cons_append,val_cons,val_cons,ih,List.length_cons,Nat.pow_succ,Nat.mul_add];have:4294967296*(4294967296^xs.length*val ys)=4294967296^xs.length*4294967296*val ys:=by
      rw[<-Nat.mul_assoc,Nat.mul_comm 4294967296 (4294967296^xs.length)]
    omega
theorem val_zeros (k:Nat):val (List.replicate k 0)=0:=by
  induction k with
  |zero=>rfl
  |succ k ih=>rw[List.replicate_succ,val_cons,ih]
theorem pow_pos32 (k:Nat):0<4294967296^k:=Nat.pow_pos (by omega)
theorem val_lt {xs:List Nat}(h:Dg xs):val xs<4294967296^xs.length:=by
  induction xs with
  |nil=>simp[val]
  | cons x xs ih=>
    have:=ih h.tail;have hx:=h.head;rw[val_cons,List.length_cons,Nat.pow_succ];have:4294967296*(val xs+1)<=4294967296*4294967296^xs.length:=Nat.mul_le_mul_left _ this;rw[Nat.mul_comm (4294967296^xs.length)];omega
theorem val_split (xs:List Nat)(k:Nat)(hk:k<=xs.length):val xs=val (xs.take k)+4294967296^k*val (xs.drop k):=by
  have:=val_append (xs.take k) (xs.drop k);rwa[List.take_append_drop,List.length_take,Nat.min_eq_left hk]at this
theorem val_take_succ {xs:List Nat}{i:Nat}(hi:i<xs.length):val (xs.take (i+1))=val (xs.take i)+4294967296^i*xs[i]:=by
  rw[List.take_succ_eq_append_getElem hi,val_append,List.length_take,Nat.min_eq_left (by omega)];simp[val]
theorem val_drop {xs:List Nat}{i:Nat}(hi:i<xs.length):val (xs.drop i)=xs[i]+4294967296*val (xs.drop (i+1)):=by
  rw[List.drop_eq_getElem_cons hi,val_cons]
theorem val_set {xs:List Nat}{i:Nat}(hi:i<xs.length)(d:Nat):val (xs.set i d)+4294967296^i*xs[i]=val xs+4294967296^i*d:=by
  induction xs generalizing i with
  |nil=>simp at hi
  | cons x xs ih=>
    match i with
    |0=>simp only[List.set_cons_zero,val_cons,List.getElem_cons_zero,Nat.pow_zero,Nat.one_mul];omega
    | i+1=>
      have hi':i<xs.length:=by simpa using hi
      have:=ih hi';simp only[List.set_cons_succ,val_cons,List.getElem_cons_succ,Nat.pow_succ];have e1:4294967296^i*4294967296*xs[i]=4294967296*(4294967296^i*xs[i]):=by rw[Nat.mul_right_comm,Nat.mul_comm]
      have e2:4294967296^i*4294967296*d=4294967296*(4294967296^i*d):=by rw[Nat.mul_right_comm,Nat.mul_comm]
      rw[e1,e2];omega
def Tight (xs:List Nat):Prop:=∀h:xs≠ [],xs.getLast h≠0
theorem Tight.val_pos {xs:List Nat}(t:Tight xs)(h:xs≠ []):4294967296^(xs.length-1)<=val xs:=by
  induction xs with
  |nil=>exact absurd rfl h
  | cons x xs ih=>
    by_cases he:xs=[]
    · subst he
      have:=t (by simp);simp only[List.getLast_singleton]at this;simp[val];omega
    have:=ih (fun h'=>by have:=t (by simp);rwa[List.getLast_cons he]at this) he;have hl:0<xs.length:=List.length_pos_iff.2 he;rw[List.length_cons,val_cons,Nat.add_sub_cancel];have e:xs.length=(xs.length-1)+1:=by omega
    rw[e,Nat.pow_succ,Nat.mul_comm];have:=Nat.mul_le_mul_left 4294967296 this;omega
theorem digs_val {xs:List Nat}(h:Dg xs)(t:Tight xs):digs (val xs)=xs:=by
  induction xs with
  |nil=>exact digs_zero
  | cons x xs ih=>
    have hv:val (x::xs)≠0:=by
      have:=t.val_pos (by simp);have:=pow_pos32 ((x::xs).length-1);omega
    have hx:=h.head;rw[digs_pos hv,val_cons];have e1:(x+4294967296*val xs)%4294967296=x:=by omega
    have e2:(x+4294967296*val xs)/4294967296=val xs:=by omega
    rw[e1,e2,ih h.tail];intro h';have:=t (by simp);rwa[List.getLast_cons h']at this
theorem tight_digs (n:Nat):Tight (digs n):=by
  induction n using Nat.strongRecOn with
  | _ n ih=>
    intro hne;by_cases h:n=0
    · subst h;exact absurd digs_zero hne
    by_cases h2:digs (n/4294967296)=[]
    · have hz:n/4294967296=0:=by rw[<-val_digs (n/4294967296),h2];rfl
      simp only[digs_pos h,h2,List.getLast_singleton];omega
    have:=ih (n/4294967296) (by omega) h2;simp only[digs_pos h];rwa[List.getLast_cons h2]
theorem nl_zero:nl 0=0:=by unfold nl;rw[digs_zero];rfl
theorem nl_eq_zero {n:Nat}:nl n=0↔n=0:=by
  constructor
  · intro h;have h2:digs n=[]:=List.eq_nil_of_length_eq_zero h;rw[<-val_digs n,h2];rfl
  rintro rfl;exact nl_zero
theorem lt_pow_nl (n:Nat):n<4294967296^nl n:=by
  have:=val_lt (dg_digs n);rwa[val_digs]at this
theorem pow_le_of_nl {n:Nat}(h:n≠0):4294967296^(nl n-1)<=n:=by
  have:=(tight_digs n).val_pos (fun e=>h (nl_eq_zero.1 (by unfold nl;rw[e];rfl)));rwa[val_digs]at this
theorem nl_le {n k:Nat}(h:n<4294967296^k):nl n<=k:=by
  by_cases hn:n=0
  · subst hn;rw[nl_zero];omega
  have:=pow_le_of_nl hn;rcases Nat.lt_or_ge k (nl n)with hk|hk
  · have:4294967296^k<=4294967296^(nl n-1):=Nat.pow_le_pow_right (by omega) (by omega)
    omega
  exact hk
theorem nl_mono {a b:Nat}(h:a<=b):nl a<=nl b:=nl_le (Nat.lt_of_le_of_lt h (lt_pow_nl b))
theorem nl_mul (a b:Nat):nl (a*b)<=nl a+nl b:=by
  apply nl_le;rw[Nat.pow_add];exact Nat.mul_lt_mul'' (lt_pow_nl a) (lt_pow_nl b)
theorem nl_add (a b:Nat):nl (a+b)<=max (nl a) (nl b)+1:=by
  apply nl_le;have h1:4294967296^nl a<=4294967296^max (nl a) (nl b):=Nat.pow_le_pow_right (by omega) (by omega);have h2:4294967296^nl b<=4294967296^max (nl a) (nl b):=Nat.pow_le_pow_right (by omega) (by omega);have:=lt_pow_nl a;have:=lt_pow_nl b;rw[Nat.pow_succ];omega
theorem nl_val {xs:List Nat}(h:Dg xs):nl (val xs)<=xs.length:=nl_le (val_lt h)
theorem nl_one {n:Nat}(h:n≠0)(hn:n<4294967296):nl n=1:=by unfold nl;rw[digs_one h hn];rfl
theorem digs_take {xs:List Nat}(h:Dg xs)(n:Nat)(hn:n<=xs.length)(hz:val (xs.drop n)=0)(ht:n=0\/xs.getD (n-1) 0≠0):digs (val xs)=xs.take n:=by
  rw[val_split xs n hn,hz,Nat.mul_zero,Nat.add_zero];apply digs_val (h.take n);intro hne;rcases ht with rfl|ht
  · exact absurd (List.take_zero) hne
  have hl:(xs.take n).length=n:=by rw[List.length_take];omega
  have hn0:0<n:=by
    rcases Nat.eq_zero_or_pos n with h0|h0
    · subst h0;exact absurd (List.take_zero) hne
    exact h0
  rw[List.getLast_eq_getElem];simp only[hl,List.getElem_take];rw[List.getD_eq_getElem?_getD,List.getElem?_eq_getElem (by omega)]at ht;exact ht
theorem val_lt_of {xs ys:List Nat}{i:Nat}(hx:Dg xs)(hl:xs.length=ys.length)(hi:i<xs.length)(he:xs.drop (i+1)=ys.drop (i+1))(hlt:xs.getD i 0<ys.getD i 0):val xs<val ys:=by
  have hi2:i<ys.length:=by omega
  rw[val_split xs i (by omega),val_split ys i (by omega),val_drop hi,val_drop hi2,he];rw[List.getD_eq_getElem?_getD,List.getElem?_eq_getElem hi,List.getD_eq_getElem?_getD,List.getElem?_eq_getElem hi2]at hlt;simp only[Option.getD_some]at hlt;have h1:val (xs.take i)<4294967296^i:=by
    have:=val_lt (hx.take i);rwa[List.length_take,Nat.min_eq_left (by omega)]at this
  have h2:4294967296^i*(xs[i]+4294967296*val (ys.drop (i+1))+1)<=4294967296^i*(ys[i]+4294967296*val (ys.drop (i+1))):=Nat.mul_le_mul_left _ (by omega);rw[Nat.mul_add _ _ 1,Nat.mul_one]at h2;omega
theorem digs_lt_of_len {a b:Nat}(h:nl a<nl b):a<b:=by
  rcases Nat.lt_or_ge a b with h1|h1
  · exact h1
  have:=nl_mono h1;omega
theorem val_take_succD (xs:List Nat)(i:Nat):val (xs.take (i+1))=val (xs.take i)+4294967296^i*xs.getD i 0:=by
  by_cases hi:i<xs.length
  · rw[val_take_succ hi,List.getD_eq_getElem?_getD,List.getElem?_eq_getElem hi];rfl
  rw[List.take_of_length_le (by omega),List.take_of_length_le (by omega),List.getD_eq_getElem?_getD,List.getElem?_eq_none (by omega)];rfl
theorem val_set_take {os:List Nat}{i:Nat}(hi:i<os.length)(d:Nat):val ((os.set i d).take (i+1))=val (os.take i)+4294967296^i*d:=by
  have hi':i<(os.set i d).length:=by rw[List.length_set];exact hi
  rw[val_take_succ hi',List.take_set_of_le (Nat.le_refl _),List.getElem_set_self]
theorem val_take_len {xs:List Nat}{k:Nat}(h:xs.length<=k):val (xs.take k)=val xs:=by rw[List.take_of_length_le h]
theorem val_lt_pow {xs:List Nat}(h:Dg xs){k:Nat}(hk:xs.length<=k):val xs<4294967296^k:=
  Nat.lt_of_lt_of_le (val_lt h) (Nat.pow_le_pow_right (by omega) hk)
theorem val_take_lt {xs:List Nat}(h:Dg xs)(k:Nat):val (xs.take k)<4294967296^k:=
  val_lt_pow (h.take k) (by rw[List.length_take];omega)
theorem round_arith {p vt c xv yv x y d c2:Nat}(h:vt+p*c=xv+yv)(e:c+(x+y)=d+4294967296*c2):vt+p*d+p*4294967296*c2=xv+p*x+(yv+p*y):=by
  have e2:p*(c+(x+y))=p*(d+4294967296*c2):=congrArg (p* ·) e;rw[Nat.mul_add,Nat.mul_add,Nat.mul_add,<-Nat.mul_assoc]at e2;omega
theorem add_round {xs ys os:List Nat}{i c:Nat}(hi:i<os.length)(h:val (os.take i)+4294967296^i*c=val (xs.take i)+val (ys.take i))(x y:Nat)(hx:xs.getD i 0=x)(hy:ys.getD i 0=y):
    val ((os.set i ((c+(x+y))%4294967296)).take (i+1))+4294967296^(i+1)*((c+(x+y))/4294967296)=val (xs.take (i+1))+val (ys.take (i+1)):=by
  rw[val_set_take hi,val_take_succD,val_take_succD,Nat.pow_succ,hx,hy];exact round_arith h (Nat.mod_add_div _ _).symm
theorem carry_none {p c a b o:Nat}(k1:a<p)(k2:b<p)(h:o+p*4294967296*c=a+b):o=a+b:=by
  rcases Nat.eq_zero_or_pos c with h0|h0
  · rw[h0,Nat.mul_zero,Nat.add_zero]at h
    exact h
  have h4:p*4294967296<=p*4294967296*c:=Nat.le_mul_of_pos_right _ h0;generalize p*4294967296*c=z at h h4
  omega
theorem add_done {xs ys os:List Nat}{n c:Nat}(hx:Dg xs)(hy:Dg ys)(hn:os.length=n+1)(h1:xs.length<=n)(h2:ys.length<=n)(h:val (os.take (n+1))+4294967296^(n+1)*c=val (xs.take (n+1))+val (ys.take (n+1))):
    val os=val xs+val ys:=by
  rw[val_take_len (Nat.le_of_eq hn),val_take_len (Nat.le_succ_of_le h1),val_take_len (Nat.le_succ_of_le h2)]at h;rw[Nat.pow_succ]at h;exact carry_none (val_lt_pow hx h1) (val_lt_pow hy h2) h
theorem sub_arith {p vt s xv yv x y d s2 b2:Nat}(h:vt+yv=xv+p*s2)(hs:s2=s)(e:x+4294967296*b2=d+y+s):vt+p*d+(yv+p*y)=xv+p*x+p*4294967296*b2:=by
  subst hs;have e2:p*(x+4294967296*b2)=p*(d+y+s2):=congrArg (p* ·) e;rw[Nat.mul_add,Nat.mul_add,Nat.mul_add,<-Nat.mul_assoc]at e2;generalize p*4294967296*b2=z at e2⊢
  omega
theorem sub_round {xs ys os:List Nat}{i s:Nat}(hi:i<os.length)(h:val (os.take i)+val (ys.take i)=val (xs.take i)+4294967296^i*s)(x y d b:Nat)(hx:xs.getD i 0=x)(hy:ys.getD i 0=y)(e:x+4294967296*b=d+y+s):
    val ((os.set i d).take (i+1))+val (ys.take (i+1))=val (xs.take (i+1))+4294967296^(i+1)*b:=by
  rw[val_set_take hi,val_take_succD,val_take_succD,Nat.pow_succ,hx,hy];exact sub_arith h rfl e
theorem borrow_none {p a b o s:Nat}(hba:b<=a)(ho:o<p)(h:o+b=a+p*s):o=a-b:=by
  rcases Nat.eq_zero_or_pos s with h0|h0
  · rw[h0,Nat.mul_zero,Nat.add_zero]at h
    omega
  have h4:p<=p*s:=Nat.le_mul_of_pos_right _ h0;generalize p*s=z at h h4
  omega
theorem val_take_of_lt {xs:List Nat}{n:Nat}(h:val xs<4294967296^n):val (xs.take n)=val xs:=by
  rcases Nat.le_total xs.length n with hl|hl
  · exact val_take_len hl
  rw[val_split xs n hl]at h⊢;rcases Nat.eq_zero_or_pos (val (xs.drop n))with h0|h0
  · rw[h0,Nat.mul_zero,Nat.add_zero]
  have h4:4294967296^n<=4294967296^n*val (xs.drop n):=Nat.le_mul_of_pos_right _ h0;omega
theorem sub_done {xs ys os:List Nat}{n s:Nat}(ho:Dg os)(hn:os.length=n)(h1:val (xs.take n)=val xs)(h2:val (ys.take n)=val ys)(hle:val ys<=val xs)(h:val (os.take n)+val (ys.take n)=val (xs.take n)+4294967296^n*s):
    val os=val xs-val ys:=by
  rw[val_take_len (Nat.le_of_eq hn),h2,h1]at h;exact borrow_none hle (val_lt_pow ho (Nat.le_of_eq hn)) h
def Zeros (os:List Nat)(m:Nat):Prop:=∀j,m<=j->os.getD j 0=0
theorem Zeros.all (n m:Nat):Zeros (List.replicate n 0) m:=fun j _=>by
  rw[List.getD_eq_getElem?_getD,List.getElem?_replicate];split<;>rfl
theorem Zeros.mono {os:List Nat}{m k:Nat}(h:Zeros os m)(hk:m<=k):Zeros os k:=fun j hj=>h j (Nat.le_trans hk hj)
theorem Zeros.set {os:List Nat}{m i d:Nat}(h:Zeros os m)(hi:i<m):Zeros (os.set i d) m:=fun j hj=>by
  have:=h j hj;rw[List.getD_eq_getElem?_getD]at this⊢;rwa[List.getElem?_set_ne (by omega)]
theorem val_setD {xs:List Nat}{i:Nat}(hi:i<xs.length)(d o:Nat)(ho:xs.getD i 0=o):val (xs.set i d)+4294967296^i*o=val xs+4294967296^i*d:=by
  have:=val_set hi d;rw[List.getD_eq_getElem?_getD,List.getElem?_eq_getElem hi]at ho;simp only[Option.getD_some]at ho;rwa[ho]at this
theorem mul_arith {P q v1 v0 o d c c2 x y base t:Nat}(h:v0+P*c=base+q*(x*t))(hs:v1+P*o=v0+P*d)(e:c+(x*y+o)=d+4294967296*c2):v1+P*4294967296*c2=base+q*(x*t)+P*(x*y):=by
  have e2:P*(c+(x*y+o))=P*(d+4294967296*c2):=congrArg (P* ·) e;rw[Nat.mul_add,Nat.mul_add,Nat.mul_add,<-Nat.mul_assoc P 4294967296]at e2;generalize P*4294967296*c2=z at e2⊢
  generalize P*(x*y)=z2 at e2⊢
  omega
theorem mul_round {ys os:List Nat}{i k c x base:Nat}(hi:i+k<os.length)(h:val os+4294967296^(i+k)*c=base+4294967296^i*(x*val (ys.take k)))(y o d c2:Nat)(hy:ys.getD k 0=y)(ho:os.getD (i+k) 0=o)(e:c+(x*y+o)=d+4294967296*c2):
    val (os.set (i+k) d)+4294967296^(i+(k+1))*c2=base+4294967296^i*(x*val (ys.take (k+1))):=by
  have:=mul_arith h (val_setD hi d o ho) e;rw[val_take_succD,hy,<-Nat.add_assoc,Nat.pow_succ,this,Nat.mul_add,Nat.mul_add,Nat.add_assoc];congr 2;rw[Nat.pow_add,<-Nat.mul_assoc x,Nat.mul_comm x (4294967296^k),Nat.mul_assoc,Nat.mul_assoc]
theorem mul_row {xs ys os:List Nat}{i c x:Nat}(hi:i+ys.length<os.length)(hz:Zeros os (i+ys.length))(hx:xs.getD i 0=x)(h:val os+4294967296^(i+ys.length)*c=val (xs.take i)*val ys+4294967296^i*(x*val (ys.take ys.length))):
    val (os.set (i+ys.length) c)=val (xs.take (i+1))*val ys:=by
  have h2:=val_setD hi c 0 (hz _ (Nat.le_refl _));rw[Nat.mul_zero,Nat.add_zero]at h2;rw[h2,h,List.take_length,val_take_succD,hx,Nat.add_mul,Nat.mul_assoc]
theorem mul_skip {xs ys os:List Nat}{i:Nat}(hx:xs.getD i 0=0)(h:val os=val (xs.take i)*val ys):val os=val (xs.take (i+1))*val ys:=by
  rw[val_take_succD,hx,Nat.mul_zero,Nat.add_zero,h]
theorem mul_start {x base:Nat}{ys os:List Nat}{i:Nat}(h:val os=base):val os+4294967296^(i+0)*0=base+4294967296^i*(x*val (ys.take 0)):=by
  rw[List.take_zero,h];simp[val]
theorem digit_mul {x y:Nat}(hx:x<4294967296)(hy:y<4294967296):x*y<=18446744065119617025:=
  Nat.mul_le_mul (show x<=4294967295 by omega) (show y<=4294967295 by omega)
end Nm
section
attribute [local go_sem ↓] Go.wp_at_zero Go.wp_at_succ
def DigS (w:World)(v:Value)(xs:List Nat):Prop:=
  ∃p cap,v= .slice p xs.length cap/\xs.length<=cap/\Nm.Dg xs/\(0<xs.length->∃b o,p=some ⟨b,o,none⟩/\∀i,i<xs.length->w.cell? ⟨b,o+i,none⟩=some (.int .u32 (xs.getD i 0:Nat)))
theorem DigS.ext {w w':World}{v:Value}{xs:List Nat}(h:DigS w v xs)(e:Ext w w'):DigS w' v xs:=by
  obtain⟨p,cap,rfl,hc,hd,hp⟩:=h;refine⟨p,cap,rfl,hc,hd,fun h0=> ?_⟩;obtain⟨b,o,rfl,hb⟩:=hp h0;exact⟨b,o,rfl,fun i hi=>e.get (hb i hi)⟩
theorem DigS.dg {w:World}{v:Value}{xs:List Nat}(h:DigS w v xs):Nm.Dg xs:=by
  obtain⟨p,cap,rfl,hc,hd,hp⟩:=h;exact hd
def NatIn (L:Nat)(w:World)(v:Value)(n:Nat):Prop:=∃xs,DigS w v xs/\Nm.val xs=n/\xs.length<=L
def NatC (w:World)(v:Value)(n:Nat):Prop:=DigS w v (Nm.digs n)
theorem NatIn.ext {L:Nat}{w w':World}{v:Value}{n:Nat}(h:NatIn L w v n)(e:Ext w w'):NatIn L w' v n:=by
  obtain⟨xs,h1,h2⟩:=h;exact⟨xs,h1.ext e,h2⟩
theorem NatC.ext {w w':World}{v:Value}{n:Nat}(h:NatC w v n)(e:Ext w w'):NatC w' v n:=DigS.ext h e
theorem NatC.isIn {L:Nat}{w:World}{v:Value}{n:Nat}(h:NatC w v n)(hl:Nm.nl n<=L):NatIn L w v n:=⟨_,h,Nm.val_digs n,hl⟩
theorem NatIn.mono {L M:Nat}{w:World}{v:Value}{n:Nat}(h:NatIn L w v n)(hl:L<=M):NatIn M w v n:=by
  obtain⟨xs,h1,h2,h3⟩:=h;exact⟨xs,h1,h2,Nat.le_trans h3 hl⟩
theorem NatIn.nl {L:Nat}{w:World}{v:Value}{n:Nat}(h:NatIn L w v n):Nm.nl n<=L:=by
  obtain⟨xs,h1,rfl,h3⟩:=h;exact Nat.le_trans (Nm.nl_val h1.dg) h3
def RetC (n:Nat)(w:World)(e:Ending)(w':World):Prop:=∃v,e= .returned v/\NatC w' v n/\Ext w w'
def RetQ (n:Nat)(w:World)(e:Ending)(w':World):Prop:=∃v,e= .returned v/\NatC w v n/\w=w'
def RetT (n:Nat)(w:World)(e:Ending)(w':World):Prop:=∃p,e= .returned (.slice p (Nm.digs n).length (Nm.digs n).length)/\NatC w (.slice p (Nm.digs n).length (Nm.digs n).length) n/\w=w'
def RetF (n:Nat)(w:World)(e:Ending)(w':World):Prop:=∃p,e= .returned (.slice p (Nm.digs n).length (Nm.digs n).length)/\NatC w' (.slice p (Nm.digs n).length (Nm.digs n).length) n/\Ext w w'
theorem RetF.c {n:Nat}{w w':World}{e:Ending}(h:RetF n w e w'):RetC n w e w':=by
  obtain⟨p,h1,h2,h3⟩:=h;exact⟨_,h1,h2,h3⟩
theorem take_slice {w:World}{p:Option Addr}{xs:List Nat}(k:Nat)(hk:k<=xs.length)(hd:Nm.Dg xs)
    (hp:0<xs.length->∃b o,p=some ⟨b,o,none⟩/\∀i,i<xs.length->w.cell? ⟨b,o+i,none⟩=some (.int .u32 (xs.getD i 0:Nat))):DigS w (.slice p k k) (xs.take k):=by
  have hl:(xs.take k).length=k:=by rw[List.length_take];omega
  refine⟨p,k,by rw[hl],by omega,hd.take k,fun h0=> ?_⟩;obtain⟨b,o,h1,h2⟩:=hp (by omega);refine⟨b,o,h1,fun i hi=> ?_⟩;rw[h2 i (by omega),List.getD_eq_getElem?_getD,List.getD_eq_getElem?_getD,List.getElem?_take_of_lt (by omega)]
theorem val_drop_zero {xs:List Nat}{j:Nat}(hj:j<xs.length)(h0:xs.getD j 0=0)(hz:Nm.val (xs.drop (j+1))=0):Nm.val (xs.drop j)=0:=by
  rw[Nm.val_drop hj,hz];rw[List.getD_eq_getElem?_getD,List.getElem?_eq_getElem hj]at h0;simpa using h0
theorem short_tight (v:Value)(xs:List Nat)(w:World)(h:DigS w v xs)(hn:xs.length<=1000000):
    Calls Tryz.prog 123 #[v] w (RetT (Nm.val xs) w):=by
  obtain⟨p,cap,rfl,hc,hd,hp⟩:=h;have HP:=zH hp;clear hp;go_enter Tryz.func123,Tryz.ntmps123
  go_wp2_with fail
  go_loop [3] (fun i=>∃k:Nat,k<=xs.length/\i= .int .i64 k/\Nm.val (xs.drop k)=0) (fun i=>(intOf i).toNat)
  case atStart=>exact⟨xs.length,Nat.le_refl _,rfl,by simp[Nm.val]⟩
  obtain⟨k,hk,rfl,hz⟩:=hrel;have HZ:=zH hz;clear hz;match k,hk,HZ with
  | 0,hk,HZ=>
    go_wp2_with fail
    go_ret
    unfold RetT NatC;rw[Nm.digs_take hd 0 hk HZ.out (.inl rfl),List.length_take,Nat.min_eq_left hk];exact⟨_,rfl,take_slice 0 hk hd HP.out,rfl⟩
  | j+1,hk,HZ=>
    obtain⟨b,o,rfl,hb⟩:=HP.out (by omega);have c0:=hb j (by omega);clear hb;generalize hx:xs.getD j 0=x at c0
    have HX:=zH hx;clear hx;by_cases h0:x=0
    · subst h0
      go_wp2_with fail
      go_round
      case rel=>exact⟨j,by omega,rfl,val_drop_zero (by omega) HX.out HZ.out⟩
      case measure=>simp[intOf]<;>omega
    have hb0:((x:Int)==0)=false:=by simp;omega
    have H0:=zH h0;clear h0;go_wp2_with fail
    go_ret
    unfold RetT NatC;rw[Nm.digs_take hd (j+1) hk HZ.out (.inr (by rw[Nat.add_sub_cancel,HX.out];exact H0.out)),List.length_take,Nat.min_eq_left hk];exact⟨_,rfl,take_slice (j+1) hk hd HP.out,rfl⟩
theorem short_any (v:Value)(xs:List Nat)(w:World)(h:DigS w v xs)(hn:xs.length<=1000000):
    Calls Tryz.prog 123 #[v] w (RetQ (Nm.val xs) w):=
  (short_tight v xs w h hn).mono fun _ _ ⟨_,h1,h2,h3⟩=>⟨_,h1,h2,h3⟩
theorem digit_any (v:Value)(xs:List Nat)(i:Int)(w:World)(h:DigS w v xs)(h0:0<=i)(hi:i<=2000000):
    Calls Tryz.prog 131 #[v,.int .i64 i] w fun e w'=>e= .returned (.int .u64 (xs.getD i.toNat 0:Nat))/\w=w':=by
  obtain⟨p,cap,rfl,hc,hd,hp⟩:=h;obtain⟨k,rfl⟩:=Int.eq_ofNat_of_zero_le h0;rw[Int.toNat_natCast];have hlt:=hd.getD k;by_cases hk:k<xs.length
  · obtain⟨b,o,rfl,hb⟩:=hp (by omega)
    have c0:=hb k hk;clear hb hp hd;generalize xs.getD k 0=x at c0 hlt
    go_enter Tryz.func131,Tryz.ntmps131
    go_wp2_with fail
    go_ret
    exact⟨rfl,rfl⟩
  have e:xs.getD k 0=0:=by rw[List.getD_eq_getElem?_getD,List.getElem?_eq_none (by omega)];rfl
  rw[e];clear hp hd hlt e;go_enter Tryz.func131,Tryz.ntmps131
  go_wp2_with fail
  go_ret
  exact⟨rfl,rfl⟩
end
section
attribute [local go_sem ↓] Go.wp_at_zero Go.wp_at_succ run_max_ii run_min_ii
theorem infoU:(Tryz.prog.info? 96).map (fun i=>(i.zero,i.size,i.bytes))=some (some (.int .u32 0),1,4):=by kernel_rfl
theorem int_eq {k:IntKind}{a b:Int}(h:a=b):Value.int k a=Value.int k b:=by rw[h]
def cellsU (xs:List Nat):List Value:=xs.map fun x:Nat=>Value.int .u32 (x:Int)
theorem cellsU_length (xs:List Nat):(cellsU xs).length=xs.length:=by simp[cellsU]
theorem cellsU_get (xs:List Nat)(i:Nat)(h:i<xs.length):(cellsU xs)[i]?=some (.int .u32 (xs.getD i 0:Nat)):=by
  unfold cellsU;rw[List.getElem?_map,List.getElem?_eq_getElem h,List.getD_eq_getElem?_getD,List.getElem?_eq_getElem h];rfl
theorem cellsU_one (xs:List Nat):∀u∈cellsU xs,u.oneCell'=true:=by
  intro u hu;obtain⟨x,_,rfl⟩:=List.mem_map.1 hu;rfl
theorem cellsU_append (xs ys:List Nat):cellsU (xs++ys)=cellsU xs++cellsU ys:=by simp[cellsU]
def BlkU (w:World)(g:Nat)(os:List Nat):Prop:=Blk w g 96 (cellsU os).toArray
theorem BlkU.cell {w:World}{g:Nat}{os:List Nat}(h:BlkU w g os){i:Nat}(hi:i<os.length):w.cell? ⟨g,i,none⟩=some (.int .u32 (os.getD i 0:Nat)):=by
  rw[Blk.cell h i,List.getElem?_toArray,cellsU_get os i hi]
theorem BlkU.frozen {w:World}{g:Nat}{os:List Nat}(h:BlkU w g os)(i:Nat):w.frozen? ⟨g,i,none⟩=false:=Blk.frozen h i
theorem BlkU.set {w:World}{g:Nat}{os:List Nat}(h:BlkU w g os)(i d:Nat):BlkU (w.setCell ⟨g,i,none⟩ (.int .u32 (d:Int))) g (os.set i d):=by
  have e:(cellsU (os.set i d)).toArray=(cellsU os).toArray.setIfInBounds i (.int .u32 (d:Int)):=by
    simp[cellsU,List.map_set]
  unfold BlkU;rw[e];exact Blk.set_ h i _
theorem BlkU.setI {w:World}{g:Nat}{os:List Nat}(h:BlkU w g os)(i d:Nat){d':Int}(hd:d'=(d:Int)):BlkU (w.setCell ⟨g,i,none⟩ (.int .u32 d')) g (os.set i d):=by
  subst hd;exact h.set i d
theorem BlkU.ext {w w':World}{g:Nat}{os:List Nat}(h:BlkU w g os)(e:Ext w w'):BlkU w' g os:=Blk.ext h e
theorem BlkU.drew {w:World}{g:Nat}{os:List Nat}(h:BlkU w g os):BlkU w.drew g os:=h
theorem BlkU.dig {w:World}{g:Nat}{os:List Nat}(h:BlkU w g os)(hd:Nm.Dg os)(cap:Nat)(hc:os.length<=cap):DigS w (.slice (some ⟨g,0,none⟩) os.length cap) os:=
  ⟨_,cap,rfl,hc,hd,fun _=>⟨g,0,rfl,fun i hi=>by rw[Nat.zero_add];exact h.cell hi⟩⟩
def BlkX (w:World)(g:Nat)(os:List Nat)(rest:List Value):Prop:=Blk w g 96 (cellsU os++rest).toArray
theorem BlkX.cell {w:World}{g:Nat}{os:List Nat}{rest:List Value}(h:BlkX w g os rest){i:Nat}(hi:i<os.length):w.cell? ⟨g,i,none⟩=some (.int .u32 (os.getD i 0:Nat)):=by
  rw[Blk.cell h i,List.getElem?_toArray,List.getElem?_append_left (by rw[cellsU_length];exact hi),cellsU_get os i hi]
theorem BlkX.frozen {w:World}{g:Nat}{os:List Nat}{rest:List Value}(h:BlkX w g os rest)(i:Nat):w.frozen? ⟨g,i,none⟩=false:=Blk.frozen h i
theorem BlkX.set {w:World}{g:Nat}{os:List Nat}{rest:List Value}(h:BlkX w g os rest)(i d:Nat)(hi:i<os.length):BlkX (w.setCell ⟨g,i,none⟩ (.int .u32 (d:Int))) g (os.set i d) rest:=by
  have e:(cellsU (os.set i d)++rest).toArray=(cellsU os++rest).toArray.setIfInBounds i (.int .u32 (d:Int)):=by
    have:i<(cellsU os).length:=by rw[cellsU_length];exact hi
    simp only[List.setIfInBounds_toArray,List.set_append_left _ _ this];simp[cellsU,List.map_set]
  unfold BlkX;rw[e];exact Blk.set_ h i _
theorem BlkX.setI {w:World}{g:Nat}{os:List Nat}{rest:List Value}(h:BlkX w g os rest)(i d:Nat)(hi:i<os.length){d':Int}(hd:d'=(d:Int)):BlkX (w.setCell ⟨g,i,none⟩ (.int .u32 d')) g (os.set i d) rest:=by
  subst hd;exact h.set i d hi
theorem BlkX.ext {w w':World}{g:Nat}{os:List Nat}{rest:List Value}(h:BlkX w g os rest)(e:Ext w w'):BlkX w' g os rest:=Blk.ext h e
theorem BlkX.drewN {w:World}{g:Nat}{os:List Nat}{rest:List Value}(h:BlkX w g os rest)(n:Nat):BlkX (w.drewN n) g os rest:=h
theorem BlkX.far {w:World}{g:Nat}{os:List Nat}{rest:List Value}(h:BlkX w g os rest){p:Addr}(hp:g≠p.block)(u:Value):BlkX (w.setCell p u) g os rest:=Blk.far h hp u
theorem BlkU.far {w:World}{g:Nat}{os:List Nat}(h:BlkU w g os){p:Addr}(hp:g≠p.block)(u:Value):BlkU (w.setCell p u) g os:=Blk.far h hp u
theorem BlkU.own {w w':World}{g g':Nat}{os:List Nat}(h:BlkU w g os)(e:Own g' w w')(hne:g≠g'):BlkU w' g os:=
  (e.block g (Blk.lt h) (fun x=>hne (by injection x))).trans h
theorem BlkX.part {w:World}{g k n cap:Nat}{pre seg post:List Nat}{rest:List Value}(h:BlkX w g (pre++(seg++post)) rest)(hk:pre.length=k)(hn:seg.length=n)(hc:n<=cap)(hd:Nm.Dg seg):DigS w (.slice (some ⟨g,k,none⟩) n cap) seg:=by
  refine⟨_,cap,by rw[hn],by omega,hd,fun _=>⟨g,k,rfl,fun i hi=> ?_⟩⟩;have:=h.cell (i:=k+i) (by rw[List.length_append,List.length_append];omega);rw[this];subst hk;rw[List.getD_eq_getElem?_getD,List.getD_eq_getElem?_getD,List.getElem?_append_right (by omega),Nat.add_sub_cancel_left,List.getElem?_append_left hi]
theorem owns_blkX {w:World}{base:Nat}{v:Value}{xs:List Nat}(h:w.ownsRow base 96 1 v xs.length (cellsU xs))(h0:xs≠ []):∃g cap rest,v= .slice (some ⟨g,0,none⟩) xs.length cap/\base<=g/\xs.length<=cap/\BlkX w g xs rest:=by
  rcases h.2 with⟨rfl,hx⟩|⟨g,cap,cur,rfl,hg,hh,hc,hm,hs,ht⟩
  · exact absurd (List.eq_nil_of_length_eq_zero hx) h0
  refine⟨g,cap,cur.toList.drop xs.length,rfl,hg,hc,?_⟩;rw[Nat.mul_one]at ht;unfold BlkX Blk;rw[hh,<-ht,List.take_append_drop]
theorem madeU (n:Nat):madeCells #[Value.int .u32 0] n=(cellsU (List.replicate n 0)).toArray:=by
  apply Array.ext
  · rw[size_madeCells];simp[cellsU]
  intro i h1 h2;rw[size_madeCells]at h1;simp[madeCells,cellsU,Nat.mod_one]
theorem mk_digits (n:Nat)(hn:n<=4000000)(m:Int)(hm:m=(n:Int))(w:World):
    (Instr.makeSlice 26 (.int .i64 m) (.int .i64 m)).run Tryz.prog w= .ok (.slice (some ⟨w.heap.size,0,none⟩) n n) (w.alloc (.cells (cellsU (List.replicate n 0)).toArray 96)):=by
  subst hm;rw[<-madeU];exact run_make_row' 26 96 (.int .u32 0) 4 Tryz.underlying26 infoU rfl .i64 .i64 n (by omega) (by omega) w
theorem blkU_new (w:World)(os:List Nat):BlkU (w.alloc (.cells (cellsU os).toArray 96)) w.heap.size os:=Blk.new w _ _
theorem owns_dig {w:World}{base:Nat}{v:Value}{xs:List Nat}(h:w.ownsRow base 96 1 v xs.length (cellsU xs))(hd:Nm.Dg xs):DigS w v xs:=by
  rcases h.2 with⟨rfl,hx⟩|⟨g,cap,cur,rfl,hg,hh,hc,hm,hs,ht⟩
  · have:xs=[]:=List.eq_nil_of_length_eq_zero hx
    subst this;exact⟨none,0,rfl,Nat.le_refl _,hd,fun h0=>absurd rfl (Nat.ne_of_lt h0).symm⟩
  refine⟨_,cap,rfl,hc,hd,fun _=>⟨g,0,rfl,fun i hi=> ?_⟩⟩;have c:=World.ownsRow.cells h (g:=g) rfl _ _ (cellsU_get xs i hi);rwa[Addr.add_lit]at c
theorem clone_any (v:Value)(xs:List Nat)(w:World)(h:DigS w v xs)(hn:xs.length<=4000000):
    Calls Tryz.prog 125 #[v] w fun e w'=>∃v',e= .returned v'/\DigS w' v' xs/\Ext w w':=by
  obtain⟨p,cap,rfl,hc,hd,hp⟩:=h;have q22:∀(w:World) (a:Option Addr) (n c n' c':Nat),(binOp .eql 26 (.slice a n c) (.slice none n' c')).run Tryz.prog w= .ok (.bool a.isNone) w:=fun w a n c n' c'=>Lib.run_eql_slice_nil w _ _ a n c n' c' Tryz.underlying26
  have u22:∀w,Sem.run Tryz.prog (underlying 26) w= .ok (TypeDesc.slice 96) w:=run_underlying Tryz.underlying26;match p,hp with
  | none,hp=>
    have hx:xs=[]:=by
      rcases Nat.eq_zero_or_pos xs.length with h0|h0
      · exact List.eq_nil_of_length_eq_zero h0
      obtain⟨b,o,h1,_⟩:=hp h0;cases h1
    subst hx;clear hp;go_enter Tryz.func125,Tryz.ntmps125
    go_wp2_with fail
    go_ret
    exact⟨_,rfl,⟨none,0,rfl,Nat.le_refl _,hd,fun h0=>absurd rfl (Nat.ne_of_lt h0).symm⟩,Ext.refl _⟩
  | some a,hp=>
    obtain⟨i0,hi,hz0,hz1,hz2⟩:=info_parts infoU;have hcells:∀W,Ext w W->∀j u,(cellsU xs)[j]?=some u->W.cell? (a.add j)=some u:=by
      intro W hW j u hj;have hjl:j<xs.length:=by
        have:=(List.getElem?_eq_some_iff.1 hj).1;rwa[cellsU_length]at this
      obtain⟨b,o,h1,h2⟩:=hp (by omega);obtain rfl:a=⟨b,o,none⟩:=Option.some.inj h1;rw[cellsU_get xs j hjl]at hj;rw[Addr.add_lit,hW.get (h2 j hjl)];exact hj
    have HC:=zH hcells;clear hcells hp;go_enter Tryz.func125,Tryz.ntmps125
    go_wp2_with (at_builtin;refine wpList_append_own _ rfl _ _ 26 rfl w.heap.size 96 i0 (.int .u32 0) 1 4 Tryz.underlying26 hi hz0 hz1 hz2 rfl (by decide) _ _ _ rfl (World.ownsRow_made w #[] 0 (Nat.le_refl _) (Nat.zero_le _) rfl) a xs.length cap (cellsU xs) rfl (by rw[cellsU_length];omega) (HC.out _ ((Ext.refl _).alloc _)) (cellsU_one xs) (by unfold maxLen;omega) (by omega) (by simp) ?_;intro v' w1 hown hgrow hnil)
    go_ret
    refine⟨v',rfl,owns_dig (base:=w.heap.size) (by simpa using hown) hd,?_⟩;exact((Ext.refl w).alloc _).grown hgrow (fun k hk=>by cases hk;exact Nat.le_refl _)
theorem normalize_any (v:Value)(L n:Nat)(w:World)(h:NatIn L w v n)(hL:L<=1000000):
    Calls Tryz.prog 106 #[v] w (RetC n w):=by
  obtain⟨xs,hx,rfl,hl⟩:=h;have hlen:(Nm.digs (Nm.val xs)).length<=xs.length:=Nm.nl_val hx.dg;have S1:=zH (short_any v xs w hx (by omega));clear hx;go_enter Tryz.func106,Tryz.ntmps106
  go_wp2_with fail
  refine S1.out.mono ?_;rintro e w' ⟨u,rfl,hu,rfl⟩;have C1:=zH (clone_any u _ w hu (by omega));clear hu;go_wp2_with fail
  refine C1.out.mono ?_;rintro e w' ⟨u2,rfl,hu2,hE⟩;go_wp2_with fail
  go_ret
  exact⟨u2,rfl,hu2,hE⟩
theorem add_any (u v:Value)(L a b:Nat)(w:World)(hu:NatIn L w u a)(hv:NatIn L w v b)(hL:L<=400000):
    Calls Tryz.prog 107 #[u,v] w (RetC (a+b) w):=by
  obtain⟨xs,hx,rfl,hxl⟩:=hu;obtain⟨ys,hy,rfl,hyl⟩:=hv;have hdx:=hx.dg;have hdy:=hy.dg;obtain⟨n,hn⟩:∃n,n=max xs.length ys.length:=⟨_,rfl⟩;have hm:max (xs.length:Int) (ys.length:Int)+1=((n+1:Nat):Int):=by omega
  have hmk:=fun w=>mk_digits (n+1) (by omega) (max (xs.length:Int) (ys.length:Int)+1) hm w
  have hx1:xs.length<=n:=by omega
  have hy1:ys.length<=n:=by omega
  have hn1:n<=400000:=by omega
  clear hm hn;have HX:=zH hx;have HY:=zH hy;obtain⟨p,cp,rfl,_,_,_⟩:=hx;obtain⟨q,cq,rfl,_,_,_⟩:=hy;have HDX:=zH hdx;have HDY:=zH hdy;clear hdx hdy;go_enter Tryz.func107,Tryz.ntmps107
  go_wp2_with fail
  clear hmk;go_loopw [6,17] (fun c i wr=>∃k s:Nat,∃os:List Nat,k<=n+1/\i= .int .i64 k/\c= .int .u64 s/\s<=1/\os.length=n+1/\Nm.Dg os/\BlkU wr w.heap.size os/\Nm.val (os.take k)+4294967296^k*s=Nm.val (xs.take k)+Nm.val (ys.take k)/\Ext w wr) (fun _ i _=>n+1-(intOf i).toNat)
  case atStart=>exact⟨0,0,List.replicate (n+1) 0,Nat.zero_le _,rfl,rfl,by omega,by simp,Nm.Dg.zeros _,blkU_new _ _,by simp[Nm.val],(Ext.refl _).alloc _⟩
  obtain⟨k,s,os,hk,rfl,rfl,hs,hol,hod,hb,hv,he⟩:=hrel;have HV:=zH hv;have HO:=zH hod;have HL:=zH hol;clear hv hod hol;by_cases hlt:k<n+1
  · have D1:=zH (digit_any _ xs k wr (HX.out.ext he) (by omega) (by omega))
    have D2:=zH (digit_any _ ys k wr (HY.out.ext he) (by omega) (by omega));have b1:=HDX.out.getD k;have b2:=HDY.out.getD k;have hc0:=hb.cell (i:=k) (by rw[HL.out];exact hlt);have hf0:=hb.frozen k;have HR:=zH (Nm.add_round (by rw[HL.out];exact hlt) HV.out);rw[Int.toNat_natCast]at D1 D2;generalize hgx:xs.getD k 0=x at D1 b1
    generalize hgy:ys.getD k 0=y at D2 b2
    have HR2:=zH (HR.out x y hgx hgy);clear hgx hgy HR;go_wp2_with fail
    refine D1.out.mono ?_;rintro e w1 ⟨rfl,rfl⟩;go_wp2_with fail
    refine D2.out.mono ?_;rintro e w1 ⟨rfl,rfl⟩;go_wp2_with fail
    go_roundw
    case rel=>exact⟨k+1,(s+(x+y))/4294967296,os.set k ((s+(x+y))%4294967296),by omega,by go_num,int_eq (by omega),by omega,by rw[List.length_set];exact HL.out,HO.out.set _ (by omega),hb.setI k _ (by omega),HR2.out,he.setCell (Nat.le_refl _) _⟩
    case measure=>simp[intOf]<;>omega
  obtain rfl:k=n+1:=by omega
  have hv:=Nm.add_done HDX.out HDY.out HL.out hx1 hy1 HV.out;have S1:=zH (short_any (.slice (some ⟨w.heap.size,0,none⟩) os.length (n+1)) os wr (hb.dig HO.out (n+1) (Nat.le_of_eq HL.out)) (by rw[HL.out];omega));rw[HL.out,hv]at S1;clear hv;go_wp2_with fail
  refine S1.out.mono ?_;rintro e w1 ⟨v,rfl,hc,rfl⟩;go_wp2_with fail
  go_ret
  exact⟨v,rfl,hc,he⟩
def cmpV (a b:Int):Int:=if a<b then-1 else if b<a then 1 else 0
theorem cmpV_lt {a b:Int}(h:a<b):cmpV a b= -1:=by unfold cmpV;rw[if_pos h]
theorem cmpV_gt {a b:Int}(h:b<a):cmpV a b=1:=by unfold cmpV;rw[if_neg (by omega),if_pos h]
theorem cmpV_eq (a:Int):cmpV a a=0:=by unfold cmpV;rw[if_neg (by omega),if_neg (by omega)]
theorem drop_same {xs ys:List Nat}{j:Nat}(h1:j<xs.length)(h2:j<ys.length)(h:xs.drop (j+1)=ys.drop (j+1))(he:xs.getD j 0=ys.getD j 0):xs.drop j=ys.drop j:=by
  rw[List.drop_eq_getElem_cons h1,List.drop_eq_getElem_cons h2,h];rw[List.getD_eq_getElem?_getD,List.getElem?_eq_getElem h1,List.getD_eq_getElem?_getD,List.getElem?_eq_getElem h2]at he;simp only[Option.getD_some]at he;rw[he]
def RetCmp (c:Int)(w:World)(e:Ending)(w':World):Prop:=e= .returned (.int .i64 c)/\Ext w w'
theorem cmp_any (u v:Value)(L a b:Nat)(w:World)(hu:NatIn L w u a)(hv:NatIn L w v b)(hL:L<=1000000):
    Calls Tryz.prog 124 #[u,v] w (RetCmp (cmpV a b) w):=by
  obtain⟨xs0,hx0,rfl,hxl0⟩:=hu;obtain⟨ys0,hy0,rfl,hyl0⟩:=hv;have S1:=zH (short_any u xs0 w hx0 (by omega));have S2:=zH (short_any v ys0 w hy0 (by omega));have l1:(Nm.digs (Nm.val xs0)).length<=1000000:=Nat.le_trans (Nm.nl_val hx0.dg) (by omega);have l2:(Nm.digs (Nm.val ys0)).length<=1000000:=Nat.le_trans (Nm.nl_val hy0.dg) (by omega);have v1:=Nm.val_digs (Nm.val xs0);have v2:=Nm.val_digs (Nm.val ys0);have d1:=Nm.dg_digs (Nm.val xs0);have d2:=Nm.dg_digs (Nm.val ys0);have nlt:∀a b:Nat,(Nm.digs a).length<(Nm.digs b).length->a<b:=fun a b h=>Nm.digs_lt_of_len h
  clear hx0 hy0;unfold RetQ NatC at S1 S2;have n1:=nlt (Nm.val xs0) (Nm.val ys0);have n2:=nlt (Nm.val ys0) (Nm.val xs0);clear nlt;rw[<-v1,<-v2];have V1:=zH v1;have V2:=zH v2;clear v1 v2;generalize Nm.digs (Nm.val xs0)=xs at S1 l1 d1 n1 n2 V1⊢
  generalize Nm.digs (Nm.val ys0)=ys at S2 l2 d2 n1 n2 V2⊢
  rw[<-V1.out,<-V2.out]at n1 n2;have HD1:=zH d1;have HD2:=zH d2;clear V1 V2 d1 d2;go_enter Tryz.func124,Tryz.ntmps124
  go_wp2_with fail
  refine S1.out.mono ?_;rintro e w1 ⟨u1,rfl,hx,rfl⟩;go_wp2_with fail
  refine S2.out.mono ?_;rintro e w1 ⟨v1,rfl,hy,rfl⟩;clear S1 S2;obtain⟨p,cp,rfl,hcp,_,hpx⟩:=hx;obtain⟨q,cq,rfl,hcq,_,hqy⟩:=hy;have HX:=zH hpx;have HY:=zH hqy;clear hpx hqy;by_cases hl:xs.length=ys.length
  · have b1:((xs.length:Int) != (ys.length:Int))=false:=by simp[hl]
    have HL:=zH hl;clear n1 n2 hl;go_wp2_with fail
    go_loopw [5] (fun i wr=>∃k:Nat,k<=xs.length/\i= .int .i64 ((k:Int)-1)/\xs.drop k=ys.drop k/\Ext w wr) (fun i _=>(intOf i+1).toNat)
    case atStart=>exact⟨xs.length,Nat.le_refl _,rfl,by rw[List.drop_eq_nil_of_le (Nat.le_refl _),List.drop_eq_nil_of_le (by rw[HL.out];exact Nat.le_refl _)],Ext.refl _⟩
    obtain⟨k,hk,rfl,hz,he⟩:=hrel;have HZ:=zH hz;clear hz;match k,hk,HZ with
    | 0,hk,HZ=>
      have hxy:xs=ys:=HZ.out;subst hxy;go_wp2_with fail
      go_ret
      exact⟨ret_int (cmpV_eq _).symm,he⟩
    | j+1,hk,HZ=>
      obtain⟨b,o,rfl,hb⟩:=HX.out (by omega);obtain⟨b',o',rfl,hb'⟩:=HY.out (by rw[<-HL.out];omega);have c0:=he.get (hb j (by omega));have c1:=he.get (hb' j (by rw[<-HL.out];omega));clear hb hb';generalize hgx:xs.getD j 0=x at c0
      generalize hgy:ys.getD j 0=y at c1
      have HGX:=zH hgx;have HGY:=zH hgy;clear hgx hgy;have i0:(0:Int)<=(j:Int):=by omega
      have i1:(j:Int)<(xs.length:Int):=by omega
      have i2:(j:Int)<(ys.length:Int):=by rw[<-HL.out];omega
      rcases Nat.lt_trichotomy x y with hlt|heq|hgt
      · have HR:=zH (Nm.val_lt_of HD1.out HL.out (by omega) HZ.out (by rw[HGX.out,HGY.out];exact hlt))
        go_wp2_with fail
        go_quiet (fail)
        go_wp2_with fail
        go_ret
        exact⟨ret_int (cmpV_lt (Int.ofNat_lt.2 HR.out)).symm,he.drewN _⟩
      · subst heq
        have HR:=zH (drop_same (by omega) (by rw[<-HL.out];omega) HZ.out (HGX.out.trans HGY.out.symm));go_wp2_with fail
        go_quiet (fail)
        go_wp2_with fail
        go_quiet (fail)
        go_wp2_with fail
        go_roundw
        case rel=>exact⟨j,by omega,by go_num,HR.out,he.drewN _⟩
        case measure=>simp[intOf]<;>omega
      have HR:=zH (Nm.val_lt_of HD2.out HL.out.symm (by rw[<-HL.out];omega) HZ.out.symm (by rw[HGX.out,HGY.out];exact hgt));go_wp2_with fail
      go_quiet (fail)
      go_wp2_with fail
      go_quiet (fail)
      go_wp2_with fail
      go_ret
      exact⟨ret_int (cmpV_gt (Int.ofNat_lt.2 HR.out)).symm,(he.drewN _).drewN _⟩
  have b1:((xs.length:Int) != (ys.length:Int))=true:=by simp;omega
  rcases Nat.lt_or_ge xs.length ys.length with h|h
  · have HR:=zH (n1 h)
    clear n1 n2;go_wp2_with fail
    go_ret
    exact⟨ret_int (cmpV_lt (Int.ofNat_lt.2 HR.out)).symm,Ext.refl _⟩
  have hgt:ys.length<xs.length:=by omega
  have HR:=zH (n2 hgt);clear n1 n2;go_wp2_with fail
  go_ret
  exact⟨ret_int (cmpV_gt (Int.ofNat_lt.2 HR.out)).symm,Ext.refl _⟩
def RetSub (a b:Nat)(w:World)(e:Ending)(w':World):Prop:=
  (b<=a/\∃v,e= .returned (.tuple #[v,.bool true])/\NatC w' v (a-b)/\Ext w w')\/(a<b/\e= .returned (.tuple #[.slice none 0 0,.bool false])/\Ext w w')
theorem sub_any (u v:Value)(L a b:Nat)(w:World)(hu:NatIn L w u a)(hv:NatIn L w v b)(hL:L<=400000):
    Calls Tryz.prog 108 #[u,v] w (RetSub a b w):=by
  have C1:=zH (cmp_any u v L a b w hu hv (by omega));by_cases hab:a<b
  · have b1:decide (cmpV (a:Int) (b:Int)<0)=true:=by rw[cmpV_lt (by omega)];rfl
    rw[cmpV_lt (by omega)]at C1;clear b1;have HAB:=zH hab;clear hab hu hv;go_enter Tryz.func108,Tryz.ntmps108
    go_wp2_with fail
    refine C1.out.mono ?_;rintro e w1 ⟨rfl,he⟩;go_wp2_with fail
    go_ret2
    exact .inr ⟨HAB.out,rfl,he⟩
  have hge:(0:Int)<=cmpV (a:Int) (b:Int):=by
    by_cases h:(b:Int)<a
    · rw[cmpV_gt h];omega
    have:(a:Int)=b:=by omega
    rw[this,cmpV_eq];exact Int.le_refl _
  generalize cmpV (a:Int) (b:Int)=c at C1 hge
  obtain⟨xs,hx,hxv,hxl⟩:=hu;obtain⟨ys,hy,hyv,hyl⟩:=hv;have hdx:=hx.dg;have hdy:=hy.dg;have hnl:=Nm.nl_val hdx;have hlt0:=Nm.lt_pow_nl (Nm.val xs);rw[hxv]at hnl hlt0;obtain⟨n,hn⟩:∃n,n=Nm.nl a:=⟨_,rfl⟩;have hmk:=fun w=>mk_digits n (by omega) (n:Int) rfl w
  have T1:=zH (Nm.val_take_of_lt (xs:=xs) (n:=n) (by rw[hxv,hn];exact hlt0));have T2:=zH (Nm.val_take_of_lt (xs:=ys) (n:=n) (by rw[hyv,hn];omega));have hn1:n<=400000:=by omega
  have HN:=zH hn;have HAB:=zH (Nat.le_of_not_lt hab);have HXV:=zH hxv;have HYV:=zH hyv;have HX:=zH hx;have HY:=zH hy;have S1:=zH (fun W (h:Ext w W)=>short_any u xs W (hx.ext h) (by omega));clear hn hxv hyv hab hlt0 hnl hy hx;have HDX:=zH hdx;have HDY:=zH hdy;clear hdx hdy;go_enter Tryz.func108,Tryz.ntmps108
  go_wp2_with fail
  refine C1.out.mono ?_;rintro e w1 ⟨rfl,he1⟩;go_wp2_with fail
  refine(S1.out w1 he1).mono ?_;rintro e w2 ⟨v2,rfl,hc2,rfl⟩;obtain⟨p2,cp2,rfl,_,_,_⟩:=hc2;rw[HXV.out,show(Nm.digs a).length=n from HN.out.symm];go_wp2_with fail
  clear hmk S1 C1 hge;go_loopw [7,20] (fun c i wr=>∃k s:Nat,∃os:List Nat,k<=n/\i= .int .i64 k/\c= .int .u64 s/\s<=1/\os.length=n/\Nm.Dg os/\BlkU wr w1.heap.size os/\Nm.val (os.take k)+Nm.val (ys.take k)=Nm.val (xs.take k)+4294967296^k*s/\Ext w1 wr) (fun _ i _=>n-(intOf i).toNat)
  case atStart=>exact⟨0,0,List.replicate n 0,Nat.zero_le _,rfl,rfl,by omega,by simp,Nm.Dg.zeros _,blkU_new _ _,by simp[Nm.val],(Ext.refl _).alloc _⟩
  obtain⟨k,s,os,hk,rfl,rfl,hs,hol,hod,hb,hv,he⟩:=hrel;have HV:=zH hv;have HO:=zH hod;have HL:=zH hol;clear hv hod hol;by_cases hlt:k<n
  · have D1:=zH (digit_any u xs k wr (HX.out.ext (he1.trans he)) (by omega) (by omega))
    have D2:=zH (digit_any v ys k wr (HY.out.ext (he1.trans he)) (by omega) (by omega));have b1:=HDX.out.getD k;have b2:=HDY.out.getD k;have hc0:=hb.cell (i:=k) (by rw[HL.out];exact hlt);have hf0:=hb.frozen k;have HR:=zH (Nm.sub_round (by rw[HL.out];exact hlt) HV.out);rw[Int.toNat_natCast]at D1 D2;generalize hgx:xs.getD k 0=x at D1 b1
    generalize hgy:ys.getD k 0=y at D2 b2
    have HR2:=zH (fun d b e=>HR.out x y d b hgx hgy e);clear hgx hgy HR;rcases Nat.lt_or_ge x (y+s)with hc|hc
    · by_cases hxy:x<y
      · go_wp2_with fail
        refine D1.out.mono ?_;rintro e w2 ⟨rfl,rfl⟩;go_wp2_with fail
        refine D2.out.mono ?_;rintro e w2 ⟨rfl,rfl⟩;go_wp2_with fail
        clear D1 D2;go_roundw
        case rel=>exact⟨k+1,1,os.set k (4294967296+x-y-s),by omega,by go_num,int_eq (by simp only[IntKind.wrap_u64];omega),by omega,by rw[List.length_set];exact HL.out,HO.out.set _ (by omega),hb.setI k _ (by simp only[IntKind.wrap_u64];omega),HR2.out _ _ (by omega),he.setCell (Nat.le_refl _) _⟩
        case measure=>simp[intOf]<;>omega
      obtain rfl:x=y:=by omega
      obtain rfl:s=1:=by omega
      go_wp2_with fail
      refine D1.out.mono ?_;rintro e w2 ⟨rfl,rfl⟩;go_wp2_with fail
      refine D2.out.mono ?_;rintro e w2 ⟨rfl,rfl⟩;go_wp2_with fail
      clear D1 D2;go_roundw
      case rel=>exact⟨k+1,1,os.set k 4294967295,by omega,by go_num,int_eq (by simp only[IntKind.wrap_u64];omega),by omega,by rw[List.length_set];exact HL.out,HO.out.set _ (by omega),hb.setI k _ (by simp only[IntKind.wrap_u64];omega),HR2.out _ _ (by omega),he.setCell (Nat.le_refl _) _⟩
      case measure=>simp[intOf]<;>omega
    go_wp2_with fail
    refine D1.out.mono ?_;rintro e w2 ⟨rfl,rfl⟩;go_wp2_with fail
    refine D2.out.mono ?_;rintro e w2 ⟨rfl,rfl⟩;go_wp2_with fail
    clear D1 D2;go_roundw
    case rel=>exact⟨k+1,0,os.set k (x-y-s),by omega,by go_num,int_eq (by omega),by omega,by rw[List.length_set];exact HL.out,HO.out.set _ (by omega),hb.setI k _ (by omega),HR2.out _ _ (by omega),he.setCell (Nat.le_refl _) _⟩
    case measure=>simp[intOf]<;>omega
  obtain rfl:k=n:=by omega
  have hv:=Nm.sub_done HO.out HL.out T1.out T2.out (by rw[HXV.out,HYV.out];exact HAB.out) HV.out;have S1:=zH (short_any (.slice (some ⟨w1.heap.size,0,none⟩) os.length k) os wr (hb.dig HO.out k (Nat.le_of_eq HL.out)) (by rw[HL.out];omega));rw[HL.out,hv,HXV.out,HYV.out]at S1;clear hv;go_wp2_with fail
  refine S1.out.mono ?_;rintro e w2 ⟨v2,rfl,hc,rfl⟩;go_wp2_with fail
  go_ret2
  exact .inl ⟨HAB.out,v2,rfl,hc,he1.trans he⟩
theorem mul_any (u v:Value)(L a b:Nat)(w:World)(hu:NatIn L w u a)(hv:NatIn L w v b)(hL:L<=400000):
    Calls Tryz.prog 102 #[u,v] w (RetC (a*b) w):=by
  have hna:=hu.nl;have hnb:=hv.nl;obtain⟨xs0,hx0,hxv,hxl0⟩:=hu;obtain⟨ys0,hy0,hyv,hyl0⟩:=hv;have S1:=zH (short_any u xs0 w hx0 (by omega));have S2:=zH (short_any v ys0 w hy0 (by omega));unfold RetQ NatC at S1 S2;rw[hxv]at S1;rw[hyv]at S2;clear hx0 hy0 hxv hyv hxl0 hyl0;have HVA:=zH (Nm.val_digs a);have HVB:=zH (Nm.val_digs b);have HDX:=zH (Nm.dg_digs a);have HDY:=zH (Nm.dg_digs b);unfold Nm.nl at hna hnb;generalize Nm.digs a=xs at S1 HVA HDX hna
  generalize Nm.digs b=ys at S2 HVB HDY hnb
  have hmk:=fun w=>mk_digits (xs.length+ys.length) (by omega) ((xs.length:Int)+(ys.length:Int)) (by omega) w
  go_enter Tryz.func102,Tryz.ntmps102
  go_wp2_with fail
  go_step3
  go_wp2_with fail
  refine S1.out.mono ?_;rintro e w1 ⟨u1,rfl,hx,rfl⟩;go_wp2_with fail
  refine S2.out.mono ?_;rintro e w1 ⟨v1,rfl,hy,rfl⟩;clear S1 S2;obtain⟨p,cp,rfl,hcp,_,hpx⟩:=hx;obtain⟨q,cq,rfl,hcq,_,hqy⟩:=hy;have HX:=zH hpx;have HY:=zH hqy;clear hpx hqy;go_wp2_with fail
  clear hmk;go_step3
  go_wp2_with fail
  go_loopw [23] (fun i wr=>∃k:Nat,∃os:List Nat,k<=xs.length/\i= .int .i64 k/\os.length=xs.length+ys.length/\Nm.Dg os/\BlkU wr w.heap.size os/\Nm.Zeros os (k+ys.length)/\Nm.val os=Nm.val (xs.take k)*Nm.val ys/\Ext w wr) (fun i _=>xs.length-(intOf i).toNat)
  case atStart=>exact⟨0,List.replicate (xs.length+ys.length) 0,Nat.zero_le _,rfl,by simp,Nm.Dg.zeros _,blkU_new _ _,Nm.Zeros.all _ _,by rw[Nm.val_zeros];simp[Nm.val],(Ext.refl _).alloc _⟩
  obtain⟨k,os,hk,rfl,hol,hod,hb,hz,hv,he⟩:=hrel;have HV:=zH hv;have HO:=zH hod;have HL:=zH hol;have HZ:=zH hz;clear hv hod hol hz;by_cases hlt:k<xs.length
  · obtain⟨bx,ox,rfl,hbx⟩:=HX.out (by omega)
    have c0:=hbx k hlt;have HBX:=zH hbx;clear hbx;have x1:=HDX.out.getD k;generalize hgx:xs.getD k 0=x at c0 x1
    have HGX:=zH hgx;clear hgx;have cw:=he.get c0;by_cases hx0:x=0
    · subst hx0
      go_wp2_with fail
      go_roundw
      case rel=>exact⟨k+1,os,by omega,by go_num,HL.out,HO.out,hb,HZ.out.mono (by omega),Nm.mul_skip HGX.out HV.out,he⟩
      case measure=>simp[intOf]<;>omega
    have bx0:((x:Int)==0)=false:=by simp;omega
    have HX0:=zH hx0;clear hx0;go_wp2_with fail
    obtain⟨wo,hwo⟩:∃wo:World,wo=wr:=⟨_,rfl⟩;subst hwo;go_loopw [8,32] (fun c i wr2=>∃j s:Nat,∃os:List Nat,j<=ys.length/\i= .int .i64 j/\c= .int .u64 s/\s<4294967296/\os.length=xs.length+ys.length/\Nm.Dg os/\BlkU wr2 w.heap.size os/\Nm.Zeros os (k+ys.length)/\Nm.val os+4294967296^(k+j)*s=Nm.val (xs.take k)*Nm.val ys+4294967296^k*(x*Nm.val (ys.take j))/\Ext w wr2) (fun _ i _=>ys.length-(intOf i).toNat)
    case atStart=>exact⟨0,0,os,Nat.zero_le _,rfl,rfl,by omega,HL.out,HO.out,hb,HZ.out,Nm.mul_start HV.out,he⟩
    obtain⟨j,s,os2,hj,rfl,rfl,hs,hol2,hod2,hb2,hz2,hv2,he2⟩:=hrel;have HV2:=zH hv2;have HO2:=zH hod2;have HL2:=zH hol2;have HZ2:=zH hz2;clear hv2 hod2 hol2 hz2 cw;by_cases hjl:j<ys.length
    · obtain⟨by',oy,rfl,hby⟩:=HY.out (by omega)
      have c1:=he2.get (hby j hjl);clear hby
      have y1:=HDY.out.getD j;have o1:=HO2.out.getD (k+j);have c2:=hb2.cell (i:=k+j) (by rw[HL2.out];omega);have f2:=hb2.frozen (k+j);generalize hgy:ys.getD j 0=y at c1 y1
      generalize hgo:os2.getD (k+j) 0=o at c2 o1
      have HR:=zH (fun d c2 e=>Nm.mul_round (by rw[HL2.out];omega) HV2.out y o d c2 hgy hgo e);clear hgy hgo;have m1:=Nm.digit_mul x1 y1;have m2:(0:Int)<=(x:Int)*(y:Int):=by rw[<-Int.natCast_mul];exact Int.natCast_nonneg _
      have m3:(x:Int)*(y:Int)<=18446744065119617025:=by rw[<-Int.natCast_mul];exact Int.ofNat_le.2 m1
      go_wp2_with fail
      go_roundw
      case rel=>exact⟨j+1,(s+(x*y+o))/4294967296,os2.set (k+j) ((s+(x*y+o))%4294967296),by omega,by go_num,int_eq (by omega),by omega,by rw[List.length_set];exact HL2.out,HO2.out.set _ (by omega),hb2.setI (k+j) _ (by omega),HZ2.out.set (by omega),HR.out _ _ (by omega),he2.setCell (Nat.le_refl _) _⟩
      case measure=>simp[intOf]<;>omega
    obtain rfl:j=ys.length:=by omega
    have c2:=hb2.cell (i:=k+ys.length) (by rw[HL2.out];omega);have f2:=hb2.frozen (k+ys.length);have HR:=zH (Nm.mul_row (by rw[HL2.out];omega) HZ2.out HGX.out HV2.out);go_wp2_with fail
    go_roundw
    case rel=>exact⟨k+1,os2.set (k+ys.length) s,by omega,by go_num,by rw[List.length_set];exact HL2.out,HO2.out.set _ (by omega),hb2.setI (k+ys.length) _ (by omega),(HZ2.out.mono (by omega)).set (by omega),HR.out,he2.setCell (Nat.le_refl _) _⟩
    case measure=>simp[intOf]<;>omega
  obtain rfl:k=xs.length:=by omega
  have hvv:Nm.val os=a*b:=by rw[HV.out,List.take_length,HVA.out,HVB.out]
  have S1:=zH (short_any (.slice (some ⟨w.heap.size,0,none⟩) os.length (xs.length+ys.length)) os wr (hb.dig HO.out _ (Nat.le_of_eq HL.out)) (by rw[HL.out];omega));rw[HL.out,hvv]at S1;clear hvv;go_wp2_with fail
  refine S1.out.mono ?_;rintro e w2 ⟨v2,rfl,hc,rfl⟩;go_wp2_with fail
  try rw[Exit.noGoto_ret]
  go_ret
  exact⟨v2,rfl,hc,he⟩
end
namespace Nm
theorem guess_dec {P ul vl u2 v2 v1 top q r:Nat}(hul:ul<P)(hqr:q*v1+r=top)(h:4294967296<=q\/r*4294967296+u2<q*v2)
    (hUV:ul+P*(u2+4294967296*top)<4294967296*(vl+P*(v2+4294967296*v1))):
    (ul+P*(u2+4294967296*top))/(vl+P*(v2+4294967296*v1))<q:=by
  have hV:0<vl+P*(v2+4294967296*v1):=by omega
  rw[Nat.div_lt_iff_lt_mul hV];rcases h with h|h
  · exact Nat.lt_of_lt_of_le hUV (Nat.mul_le_mul_right _ h)
  have e1:q*(vl+P*(v2+4294967296*v1))=q*vl+P*(q*v2+4294967296*(q*v1)):=by grind
  have h2:P*(u2+4294967296*top+1)<=P*(q*v2+4294967296*(q*v1)):=Nat.mul_le_mul_left _ (by omega);rw[Nat.mul_add _ _ 1,Nat.mul_one]at h2;omega
theorem guess_exit {P ul vl u2 v2 v1 top q r:Nat}(hvl:vl<P)(hv1:1<=v1)(hqr:q*v1+r=top)(hq:q<4294967296)(h:q*v2<=r*4294967296+u2):
    q<=(ul+P*(u2+4294967296*top))/(vl+P*(v2+4294967296*v1))+1:=by
  have hP:0<P:=by omega
  have hV:0<vl+P*(v2+4294967296*v1):=by
    have:P*1<=P*(v2+4294967296*v1):=Nat.mul_le_mul_left _ (by omega);omega
  rcases Nat.eq_zero_or_pos q with h0|h0
  · rw[h0];exact Nat.zero_le _
  have:q-1<=(ul+P*(u2+4294967296*top))/(vl+P*(v2+4294967296*v1)):=by
    rw[Nat.le_div_iff_mul_le hV];have e1:q*(vl+P*(v2+4294967296*v1))=q*vl+P*(q*v2+4294967296*(q*v1)):=by grind
    have e2:(q-1)*(vl+P*(v2+4294967296*v1))+(vl+P*(v2+4294967296*v1))=q*(vl+P*(v2+4294967296*v1)):=by
      rw[<-Nat.succ_mul,Nat.succ_eq_add_one,Nat.sub_add_cancel h0]
    have h2:P*(q*v2+4294967296*(q*v1))<=P*(u2+4294967296*top):=Nat.mul_le_mul_left _ (by omega);have h3:q*vl<=4294967296*P:=Nat.mul_le_mul (by omega) (by omega);have h4:P*(4294967296*1)<=P*(v2+4294967296*v1):=Nat.mul_le_mul_left _ (by omega);omega
  omega
theorem guess_brk {P ul vl u2 v2 v1 top q r:Nat}(hvl:vl<P)(hv2:v2<4294967296)(hv1:1<=v1)(hqr:q*v1+r=top)(hq:q<=4294967296)(hr:4294967296<=r):
    q<=(ul+P*(u2+4294967296*top))/(vl+P*(v2+4294967296*v1)):=by
  have hP:0<P:=by omega
  have hV:0<vl+P*(v2+4294967296*v1):=by
    have:P*1<=P*(v2+4294967296*v1):=Nat.mul_le_mul_left _ (by omega);omega
  rw[Nat.le_div_iff_mul_le hV];have e1:q*(vl+P*(v2+4294967296*v1))=q*(vl+P*v2)+P*(4294967296*(q*v1)):=by grind
  have h1:vl+P*v2<=P*4294967296:=by
    have:P*(v2+1)<=P*4294967296:=Nat.mul_le_mul_left _ (by omega);rw[Nat.mul_add]at this;omega
  have h2:q*(vl+P*v2)<=4294967296*(P*4294967296):=Nat.mul_le_mul hq h1;have h3:P*(4294967296*(q*v1)+4294967296*4294967296)<=P*(u2+4294967296*top):=Nat.mul_le_mul_left _ (by omega);rw[Nat.mul_add]at h3;have e2:4294967296*(P*4294967296)=P*(4294967296*4294967296):=by grind
  omega
theorem guess_start {P ul vl u2 v2 v1 top:Nat}(hul:ul<P)(hv1:1<=v1)(hu2:u2<4294967296):
    (ul+P*(u2+4294967296*top))/(vl+P*(v2+4294967296*v1))<=top/v1:=by
  have hP:0<P:=by omega
  have hV:0<vl+P*(v2+4294967296*v1):=by
    have:P*1<=P*(v2+4294967296*v1):=Nat.mul_le_mul_left _ (by omega);omega
  apply Nat.le_of_lt_succ;rw[Nat.div_lt_iff_lt_mul hV];have h1:=Nat.lt_mul_div_succ top (show 0<v1 by omega);have h2:P*(u2+4294967296*top+1)<=P*(4294967296*(v1*(top/v1+1))):=Nat.mul_le_mul_left _ (by omega);rw[Nat.mul_add _ _ 1,Nat.mul_one]at h2;have e1:(top/v1).succ*(vl+P*(v2+4294967296*v1))=(top/v1+1)*(vl+P*v2)+P*(4294967296*(v1*(top/v1+1))):=by
    rw[Nat.succ_eq_add_one];grind
  omega
theorem take_step {lo hi q y k x d b b2:Nat}(h1:k+q*y=lo+4294967296*hi)(h2:x+4294967296*b2=d+lo+b){s t a p:Nat}(hs:s+q*t=a+p*(k+b)):
    s+p*d+q*(t+p*y)=a+p*x+p*4294967296*(hi+b2):=by
  have e1:p*(k+q*y)=p*(lo+4294967296*hi):=by rw[h1]
  have e2:p*(x+4294967296*b2)=p*(d+lo+b):=by rw[h2]
  grind
theorem val_set_drop {os:List Nat}{j:Nat}(hj:j<os.length)(q:Nat):val ((os.set j q).drop j)=q+4294967296*val (os.drop (j+1)):=by
  have hj':j<(os.set j q).length:=by rw[List.length_set];exact hj
  rw[val_drop hj',List.getElem_set_self,List.drop_set_of_lt (by omega)]
theorem one_round {xs os:List Nat}{j r d:Nat}(hj:j<os.length)(hjx:j<xs.length)(h:val (os.drop (j+1))*d+r=val (xs.drop (j+1)))(x q r2:Nat)(hx:xs.getD j 0=x)(e:4294967296*r+x=q*d+r2):
    val ((os.set j q).drop j)*d+r2=val (xs.drop j):=by
  rw[val_set_drop hj,val_drop hjx];rw[List.getD_eq_getElem?_getD,List.getElem?_eq_getElem hjx]at hx;simp only[Option.getD_some]at hx;rw[hx,<-h,Nat.add_mul,Nat.mul_add,Nat.mul_assoc];omega
theorem div_of {q d r v:Nat}(hr:r<d)(h:q*d+r=v):q=v/d/\r=v%d:=by
  subst h;have hd:0<d:=by omega
  rw[Nat.mul_comm q d];constructor
  · rw[Nat.mul_add_div hd,Nat.div_eq_of_lt hr,Nat.add_zero]
  rw[Nat.mul_add_mod,Nat.mod_eq_of_lt hr]
theorem getD_set_ne {os:List Nat}{i j d:Nat}(h:i≠j):(os.set i d).getD j 0=os.getD j 0:=by
  rw[List.getD_eq_getElem?_getD,List.getD_eq_getElem?_getD,List.getElem?_set_ne h]
theorem getD_set_self {os:List Nat}{i d:Nat}(h:i<os.length):(os.set i d).getD i 0=d:=by
  rw[List.getD_eq_getElem?_getD,List.getElem?_set_self h];rfl
theorem shl_parts {x k:Nat}(hx:x<4294967296)(hk:k<32):(x*2^k)/4294967296<2^k/\(x*2^k)%4294967296%2^k=0/\x*2^k<4294967296*2^k/\2^k<=2147483648/\4294967296%2^k=0:=by
  have hp:0<2^k:=Nat.two_pow_pos k;have h1:x*2^k<4294967296*2^k:=Nat.mul_lt_mul_of_pos_right hx hp;have h2:2^k∣4294967296:=⟨2^(32-k),by rw[<-Nat.pow_add,show k+(32-k)=32 by omega]⟩;refine⟨by rw[Nat.div_lt_iff_lt_mul (by omega),Nat.mul_comm (2^k)];exact h1,?_,h1,?_,Nat.mod_eq_zero_of_dvd h2⟩
  · rw[Nat.mod_mod_of_dvd _ h2,Nat.mul_mod_left]
  exact Nat.le_trans (Nat.pow_le_pow_right (by omega) (show k<=31 by omega)) (by decide)
theorem shl_fit {o p m:Nat}(ho:o<p)(hm:m%p=0)(hb:m<4294967296)(hp:4294967296%p=0):o+m<4294967296:=by
  have hp0:0<p:=by omega
  obtain⟨q,hq⟩:=Nat.dvd_of_mod_eq_zero hm;obtain⟨r,hr⟩:=Nat.dvd_of_mod_eq_zero hp;have:q<r:=by
    apply Nat.lt_of_mul_lt_mul_left (a:=p);omega
  have h2:p*(q+1)<=p*r:=Nat.mul_le_mul_left _ this;rw[Nat.mul_add,Nat.mul_one]at h2;omega
theorem shl_arith {P v v2 o x p wl wh s:Nat}(h:v+P*o=s*p)(hw:x*p=wl+4294967296*wh)(h2:v2=v+P*(o+wl)):v2+P*4294967296*wh=(s+P*x)*p:=by
  have e:P*(x*p)=P*(wl+4294967296*wh):=congrArg (P* ·) hw;rw[Nat.mul_add,<-Nat.mul_assoc P 4294967296]at e;rw[h2,Nat.mul_add,Nat.add_mul,Nat.mul_assoc P x p,<-h,e];generalize P*4294967296*wh=z
  omega
theorem shl_round {xs os:List Nat}{i p:Nat}(hi:i+1<os.length)(h:val (os.take i)+4294967296^i*os.getD i 0=val (xs.take i)*p)(x o:Nat)(hx:xs.getD i 0=x)(ho:os.getD i 0=o)(wl wh:Nat)(hw:x*p=wl+4294967296*wh):
    val (((os.set i (o+wl)).set (i+1) wh).take (i+1))+4294967296^(i+1)*((os.set i (o+wl)).set (i+1) wh).getD (i+1) 0=val (xs.take (i+1))*p:=by
  rw[List.take_set_of_le (Nat.le_refl _),getD_set_self (by rw[List.length_set];exact hi),val_take_succD xs,hx,Nat.pow_succ];rw[ho]at h;exact shl_arith h hw (val_set_take (by omega) _)
theorem shl_done {xs os:List Nat}{n p:Nat}(hn:os.length=n+1)(hx:xs.length<=n)(h:val (os.take n)+4294967296^n*os.getD n 0=val (xs.take n)*p):val os=val xs*p:=by
  rw[val_take_len hx]at h;rw[<-h,<-val_take_succD,val_take_len (by omega)]
theorem pow_dvd32 {k:Nat}(hk:k<32):4294967296=2^k*2^(32-k):=by rw[<-Nat.pow_add,show k+(32-k)=32 by omega]
theorem shr_arith {x y z k:Nat}(hk:k<32):(x+y*4294967296)/2^k%4294967296=(x+4294967296*(y+4294967296*z))/2^k%4294967296:=by
  have e:=pow_dvd32 hk;generalize 2^(32-k)=m at e
  have hp:0<2^k:=Nat.two_pow_pos k;have e2:x+4294967296*(y+4294967296*z)=x+y*4294967296+2^k*(4294967296*(m*z)):=by
    rw[Nat.mul_left_comm (2^k),<-Nat.mul_assoc (2^k),<-e];omega
  rw[e2,Nat.add_mul_div_left _ _ hp,Nat.add_mul_mod_self_left]
theorem shr_round {xs os:List Nat}{i k:Nat}(hd:Dg xs)(hk:k<32)(hi:i<os.length)(hix:i<xs.length)(h:val (os.take i)=(val xs/2^k)%4294967296^i)(x y:Nat)(hx:xs.getD i 0=x)(hy:xs.getD (i+1) 0=y):
    val ((os.set i ((x+y*4294967296)/2^k%4294967296)).take (i+1))=(val xs/2^k)%4294967296^(i+1):=by
  rw[val_set_take hi,h,Nat.mod_pow_succ];congr 2;have e1:val xs/2^k/4294967296^i=val (xs.drop i)/2^k:=by
    rw[Nat.div_div_eq_div_mul,Nat.mul_comm,<-Nat.div_div_eq_div_mul];congr 1;rw[val_split xs i (by omega),Nat.add_mul_div_left _ _ (pow_pos32 i),Nat.div_eq_of_lt (val_take_lt hd i),Nat.zero_add]
  rw[e1,val_drop hix];rw[List.getD_eq_getElem?_getD,List.getElem?_eq_getElem hix]at hx;simp only[Option.getD_some]at hx;rw[hx];by_cases h2:i+1<xs.length
  · rw[val_drop h2]
    rw[List.getD_eq_getElem?_getD,List.getElem?_eq_getElem h2]at hy;simp only[Option.getD_some]at hy;rw[hy];exact shr_arith hk
  rw[List.getD_eq_getElem?_getD,List.getElem?_eq_none (by omega)]at hy;simp only[Option.getD_none]at hy;subst hy;rw[List.drop_eq_nil_of_le (by omega),val_nil]
theorem shr_done {xs os:List Nat}{n k:Nat}(hd:Dg xs)(hn:os.length=n)(hx:xs.length<=n)(h:val (os.take n)=(val xs/2^k)%4294967296^n):val os=val xs/2^k:=by
  rw[val_take_len (by omega)]at h;rw[h];exact Nat.mod_eq_of_lt (Nat.lt_of_le_of_lt (Nat.div_le_self _ _) (val_lt_pow hd hx))
theorem getD_eq {xs:List Nat}{i:Nat}(h:i<xs.length):xs.getD i 0=xs[i]:=by
  rw[List.getD_eq_getElem?_getD,List.getElem?_eq_getElem h];rfl
theorem split3 {us:List Nat}{m:Nat}(h:us.length=m+3):val us=val (us.take m)+4294967296^m*(us.getD m 0+4294967296*(us.getD (m+2) 0*4294967296+us.getD (m+1) 0)):=by
  rw[val_split us m (by omega),val_drop (i:=m) (by omega),val_drop (i:=m+1) (by omega),val_drop (i:=m+2) (by omega),List.drop_eq_nil_of_le (by omega),val_nil];rw[getD_eq (by omega),getD_eq (by omega),getD_eq (by omega)];generalize us[m+2]=c
  generalize us[m+1]=b
  generalize us[m]=a
  rw[Nat.mul_zero,Nat.add_zero,Nat.mul_comm c,Nat.add_comm b]
theorem split2 {vs:List Nat}{m:Nat}(h:vs.length=m+2):val vs=val (vs.take m)+4294967296^m*(vs.getD m 0+4294967296*vs.getD (m+1) 0):=by
  rw[val_split vs m (by omega),val_drop (i:=m) (by omega),val_drop (i:=m+1) (by omega),List.drop_eq_nil_of_le (by omega),val_nil];rw[getD_eq (by omega),getD_eq (by omega)];rw[Nat.mul_zero,Nat.add_zero]
theorem guess_first {P ul vl u2 v2 v1 top:Nat}(hvl:vl<P)(hv2:v2<4294967296)(hv1:2147483648<=v1)
    (hUV:ul+P*(u2+4294967296*top)<4294967296*(vl+P*(v2+4294967296*v1))):top/v1<=4294967297:=by
  have h1:vl+P*v2<P*4294967296:=by
    have:P*(v2+1)<=P*4294967296:=Nat.mul_le_mul_left _ (by omega);rw[Nat.mul_add]at this;omega
  have h2:P*(4294967296*top)<P*(4294967296*(4294967296*(v1+1))):=by
    have e1:4294967296*(vl+P*(v2+4294967296*v1))=4294967296*(vl+P*v2)+P*(4294967296*(4294967296*v1)):=by grind
    have e2:P*(4294967296*(4294967296*(v1+1)))=P*(4294967296*(4294967296*v1))+4294967296*(P*4294967296):=by grind
    have e3:P*(u2+4294967296*top)=P*u2+P*(4294967296*top):=Nat.mul_add _ _ _;omega
  have h3:=Nat.lt_of_mul_lt_mul_left h2;apply Nat.le_of_lt_succ;rw[Nat.div_lt_iff_lt_mul (by omega)];omega
theorem seg_set {pre seg post:List Nat}{i k:Nat}(d:Nat)(hk:pre.length=k)(hi:i<seg.length):(pre++(seg++post)).set (k+i) d=pre++(seg.set i d++post):=by
  subst hk;rw[List.set_append_right _ _ (by omega),Nat.add_sub_cancel_left,List.set_append_left _ _ hi]
theorem seg_get {pre seg post:List Nat}{i k:Nat}(hk:pre.length=k)(hi:i<seg.length):(pre++(seg++post)).getD (k+i) 0=seg.getD i 0:=by
  subst hk;rw[List.getD_eq_getElem?_getD,List.getD_eq_getElem?_getD,List.getElem?_append_right (by omega),Nat.add_sub_cancel_left,List.getElem?_append_left hi]
theorem take_round {us vs os:List Nat}{i c s q:Nat}(hi:i<os.length)(h:val (os.take i)+q*val (vs.take i)=val (us.take i)+4294967296^i*(c+s))(x y lo hi2 d b:Nat)(hx:us.getD i 0=x)(hy:vs.getD i 0=y)(e1:c+q*y=lo+4294967296*hi2)(e2:x+4294967296*b=d+lo+s):
    val ((os.set i d).take (i+1))+q*val (vs.take (i+1))=val (us.take (i+1))+4294967296^(i+1)*(hi2+b):=by
  rw[val_set_take hi,val_take_succD vs,val_take_succD us,hx,hy,Nat.pow_succ];exact take_step e1 e2 h
theorem take_last {us os:List Nat}{n V c s q x d b:Nat}(hn:os.length=n+1)(hu:us.length=n+1)(h:val (os.take n)+q*V=val (us.take n)+4294967296^n*(c+s))(hx:us.getD n 0=x)(e2:x+4294967296*b=d+c+s):
    val (os.set n d)+q*V=val us+4294967296^(n+1)*b:=by
  have h1:val (os.set n d)=val (os.take n)+4294967296^n*d:=by
    rw[<-val_set_take (by omega),List.take_of_length_le (by rw[List.length_set];omega)]
  have h2:val us=val (us.take n)+4294967296^n*x:=by
    rw[<-hx,<-val_take_succD,List.take_of_length_le (by omega)]
  rw[h1,h2,Nat.pow_succ];have e3:4294967296^n*(x+4294967296*b)=4294967296^n*(d+c+s):=congrArg (4294967296^n* ·) e2;generalize 4294967296^n=P at h e3⊢
  rw[Nat.mul_add,<-Nat.mul_assoc,Nat.mul_add,Nat.mul_add]at e3;rw[Nat.mul_add]at h;generalize P*4294967296*b=z at e3⊢
  omega
end Nm
section
attribute [local go_sem ↓] Go.wp_at_zero Go.wp_at_succ run_max_ii run_min_ii
theorem or64 (a b:Nat)(ha:a<4294967296)(hb:b<4294967296):bits .or .u64 ((a:Int)*4294967296) (b:Int)=(a:Int)*4294967296+b:=by
  have h:=u64_or_nat (a*4294967296) b (by omega) (by omega);rw[nat_join 32 (a*4294967296) b (by omega) (by omega)]at h;rw[Int.natCast_mul]at h;rw[show((a:Int)*4294967296)=(a:Int)*((4294967296:Nat):Int)from rfl,h];omega
theorem mod_small {q:Nat}(h:q<4294967296):(q:Int)%4294967296=q:=by omega
theorem one_any (u:Value)(L a d:Nat)(w:World)(hu:NatIn L w u a)(hL:L<=400000)(hd0:0<d)(hd1:d<4294967296):
    Calls Tryz.prog 126 #[u,.int .u32 d] w fun e w'=>∃v,e= .returned (.tuple #[v,.int .u32 ((a%d:Nat):Int)])/\NatC w' v (a/d)/\Ext w w':=by
  obtain⟨xs,hx,hxv,hxl⟩:=hu;have HDX:=zH hx.dg;obtain⟨p,cp,rfl,hcp,_,hpx⟩:=hx;have HX:=zH hpx;clear hpx;have HXV:=zH hxv;clear hxv;have hmk:=fun w=>mk_digits xs.length (by omega) (xs.length:Int) rfl w
  go_enter Tryz.func126,Tryz.ntmps126
  go_wp2_with fail
  clear hmk;go_loopw [7,8] (fun c i wr=>∃k r:Nat,∃os:List Nat,k<=xs.length/\i= .int .i64 ((k:Int)-1)/\c= .int .u64 r/\r<d/\os.length=xs.length/\Nm.Dg os/\BlkU wr w.heap.size os/\Nm.val (os.drop k)*d+r=Nm.val (xs.drop k)/\Ext w wr) (fun _ i _=>(intOf i+1).toNat)
  case atStart=>exact⟨xs.length,0,List.replicate xs.length 0,Nat.le_refl _,rfl,rfl,hd0,by simp,Nm.Dg.zeros _,blkU_new _ _,by simp[Nm.val],(Ext.refl _).alloc _⟩
  obtain⟨k,r,os,hk,rfl,rfl,hr,hol,hod,hb,hv,he⟩:=hrel;have HV:=zH hv;have HO:=zH hod;have HL:=zH hol;clear hv hod hol;match k,hk,HV with
  | 0,hk,HV=>
    have hq:=Nm.div_of hr HV.out;have hvo:Nm.val os=a/d:=by rw[<-HXV.out];exact hq.1
    have hr2:r=a%d:=by rw[<-HXV.out];exact hq.2
    have S1:=zH (short_any (.slice (some ⟨w.heap.size,0,none⟩) os.length xs.length) os wr (hb.dig HO.out _ (Nat.le_of_eq HL.out)) (by rw[HL.out];omega));rw[HL.out,hvo]at S1;have HR2:=zH hr2;clear hvo hr2 hq;go_wp2_with fail
    refine S1.out.mono ?_;rintro e w2 ⟨v2,rfl,hc,rfl⟩;go_wp2_with fail
    go_ret2
    rw[<-HR2.out];exact⟨v2,rfl,hc,he⟩
  | j+1,hk,HV=>
    obtain⟨b,o,rfl,hb0⟩:=HX.out (by omega);have c0:=he.get (hb0 j (by omega));clear hb0;have b1:=HDX.out.getD j;have c2:=hb.cell (i:=j) (by rw[HL.out];omega);have f2:=hb.frozen j;have HR:=zH (Nm.one_round (by rw[HL.out];omega) (by omega) HV.out);generalize hgx:xs.getD j 0=x at c0 b1
    have HR2:=zH (fun q r2 e=>HR.out x q r2 hgx e);clear hgx HR;have hor:=or64 r x (by omega) b1;have hdm:=Nat.div_add_mod (r*4294967296+x) d;have hml:=Nat.mod_lt (r*4294967296+x) hd0;have hq:(r*4294967296+x)/d<4294967296:=by
      rw[Nat.div_lt_iff_lt_mul hd0];have:(r+1)*4294967296<=d*4294967296:=Nat.mul_le_mul_right _ hr;rw[Nat.mul_comm 4294967296 d];omega
    have ev:(r:Int)*4294967296+x=((r*4294967296+x:Nat):Int):=by omega
    have EV:=zH ev;have HDM:=zH (show 4294967296*r+x=(r*4294967296+x)/d*d+(r*4294967296+x)%d by rw[Nat.mul_comm _ d,hdm];omega);have HML:=zH hml;have HQ:=zH hq;clear ev hdm hml hq;go_wp2_with fail
    go_roundw
    case rel=>exact⟨j,(r*4294967296+x)%d,os.set j ((r*4294967296+x)/d),by omega,by go_num,int_eq (by rw[EV.out,<-Int.natCast_emod]),HML.out,by rw[List.length_set];exact HL.out,HO.out.set _ HQ.out,hb.setI j _ (by rw[EV.out,<-Int.natCast_ediv];exact mod_small HQ.out),HR2.out _ _ HDM.out,he.setCell (Nat.le_refl _) _⟩
    case measure=>simp[intOf]<;>omega
theorem fromU_any (n:Nat)(w:World)(hn:n<18446744073709551616):
    Calls Tryz.prog 81 #[.int .u64 n] w (RetC n w):=by
  have hd:Nm.Dg [n%4294967296,n/4294967296]:=by
    intro x hx;simp at hx;omega
  have hv:Nm.val [n%4294967296,n/4294967296]=n:=by simp only[Nm.val];omega
  have HN:=zH (fun(W:World) (g:Nat) (h:BlkU W g [n%4294967296,n/4294967296])=>normalize_any (.slice (some ⟨g,0,none⟩) 2 2) 2 n W ⟨_,h.dig hd 2 (by simp),hv,by simp⟩ (by omega));clear hd hv;go_enter Tryz.func81,Tryz.ntmps81
  go_wp2_with fail
  have e:(#[.int .u32 ((n:Int)%4294967296),.int .u32 ((n:Int)/4294967296)]:Array Value)=(cellsU [n%4294967296,n/4294967296]).toArray:=by simp[cellsU]
  rw[e];refine(HN.out _ _ (blkU_new _ _)).mono ?_;rintro e1 w1 ⟨v,rfl,hc,he⟩;clear e;go_wp2_with fail
  go_ret
  exact⟨v,rfl,hc,((Ext.refl _).alloc _).trans he⟩
theorem or32 (o m k:Nat)(ho:o<2^k)(hm:m%2^k=0)(hs:o+m<4294967296):bits .or .u32 (o:Int) (m:Int)=((o+m:Nat):Int):=by
  rw[u32_or_nat o m (by omega) (by omega),Nat.or_comm,nat_join k m o hm ho,Nat.add_comm]
theorem shl_slots (y x k:Nat)(hk:k<32)(hx:x<4294967296)(hy:y<2^k):
    bits .or .u32 (y:Int) (IntKind.u64.wrap ((x:Int)*2^(k%32))%4294967296)=((y+x*2^k%4294967296:Nat):Int)/\
    IntKind.u64.wrap ((x:Int)*2^(k%32))/4294967296%4294967296=((x*2^k/4294967296:Nat):Int):=by
  obtain⟨h1,h2,h3,h4,h5⟩:=Nm.shl_parts hx hk;rw[Nat.mod_eq_of_lt hk];have e:(x:Int)*2^k=((x*2^k:Nat):Int):=by rw[Int.natCast_mul,Int.natCast_pow];rfl
  have hw:IntKind.u64.wrap ((x:Int)*2^k)=((x*2^k:Nat):Int):=by
    rw[e];generalize x*2^k=z at h3
    generalize 2^k=p at h3 h4
    rw[IntKind.wrap_u64];omega
  rw[hw];have hfit:=Nm.shl_fit hy h2 (Nat.mod_lt _ (by omega)) h5;have hor:=or32 y (x*2^k%4294967296) k hy h2 hfit;constructor
  · rw[<-hor]
    congr 1
  generalize x*2^k=z at h1⊢
  generalize 2^k=p at h1 h4
  omega
theorem shl_any (u:Value)(L a k:Nat)(w:World)(hu:NatIn L w u a)(hL:L<=400000)(hk:k<32):
    Calls Tryz.prog 128 #[u,.int .i64 k] w (RetF (a*2^k) w):=by
  have hna:=hu.nl;obtain⟨xs0,hx0,hxv,hxl0⟩:=hu;have S1:=zH (short_any u xs0 w hx0 (by omega));unfold RetQ NatC at S1;rw[hxv]at S1;clear hx0 hxv hxl0;have HVA:=zH (Nm.val_digs a);have HDX:=zH (Nm.dg_digs a);unfold Nm.nl at hna;generalize Nm.digs a=xs at S1 HVA HDX hna
  have hmk:=fun w=>mk_digits (xs.length+1) (by omega) ((xs.length:Int)+1) (by omega) w
  have q1:(k:Int)/32=0:=by omega
  have q2:(k:Int)%32=k:=by omega
  have q3:min (k:Int) 4096=k:=by omega
  have HP:=zH (Nm.shl_parts (x:=0) (k:=k) (by omega) hk);go_enter Tryz.func128,Tryz.ntmps128
  go_wp2_with fail
  refine S1.out.mono ?_;rintro e w1 ⟨u1,rfl,hx,rfl⟩;obtain⟨p,cp,rfl,hcp,_,hpx⟩:=hx;have HX:=zH hpx;clear hpx S1;go_wp2_with fail
  clear hmk q1 q2 q3;go_loopw [76] (fun i wr=>∃j:Nat,∃os:List Nat,j<=xs.length/\i= .int .i64 j/\os.length=xs.length+1/\Nm.Dg os/\os.getD j 0<2^k/\Nm.Zeros os (j+1)/\BlkU wr w.heap.size os/\Nm.val (os.take j)+4294967296^j*os.getD j 0=Nm.val (xs.take j)*2^k/\Ext w wr) (fun i _=>xs.length-(intOf i).toNat)
  case atStart=>
    refine⟨0,List.replicate (xs.length+1) 0,Nat.zero_le _,rfl,by simp,Nm.Dg.zeros _,?_,Nm.Zeros.all _ _,blkU_new _ _,?_,(Ext.refl _).alloc _⟩
    · rw[Nm.Zeros.all (xs.length+1) 0 0 (Nat.le_refl _)];exact Nat.two_pow_pos k
    rw[Nm.Zeros.all (xs.length+1) 0 0 (Nat.le_refl _)];simp[Nm.val]
  obtain⟨j,os,hj,rfl,hol,hod,hop,hoz,hb,hv,he⟩:=hrel;have HV:=zH hv;have HO:=zH hod;have HL:=zH hol;have HZ:=zH hoz;clear hv hod hol hoz;by_cases hlt:j<xs.length
  · obtain⟨b,o,rfl,hb0⟩:=HX.out (by omega)
    have c0:=he.get (hb0 j hlt);clear hb0;have b1:=HDX.out.getD j;have c2:=hb.cell (i:=j) (by rw[HL.out];omega);have f2:=hb.frozen j;have c3:=hb.cell (i:=j+1) (by rw[HL.out];omega);have f3:=hb.frozen (j+1);have HR:=zH (Nm.shl_round (by rw[HL.out];omega) HV.out);generalize hgx:xs.getD j 0=x at c0 b1
    generalize hgo:os.getD j 0=y at c2 hop
    have HR2:=zH (fun wl wh e=>HR.out x y hgx hgo wl wh e);have HPX:=zH (Nm.shl_parts b1 hk);have HFIT:=zH (Nm.shl_fit hop HPX.out.2.1 (Nat.mod_lt _ (by omega)) HPX.out.2.2.2.2);have HS:=zH (shl_slots y x k hk b1 hop);clear hgx hgo HR;go_wp2_with fail
    rw[HS.out.1,HS.out.2];go_roundw
    case rel=>
      refine⟨j+1,(os.set j (y+x*2^k%4294967296)).set (j+1) (x*2^k/4294967296),by omega,by go_num,by rw[List.length_set,List.length_set];exact HL.out,(HO.out.set _ HFIT.out).set _ (by have:=HPX.out.1;have:=HPX.out.2.2.2.1;omega),?_,?_,(hb.set j _).set (j+1) _,HR2.out _ _ (Nat.mod_add_div _ _).symm,(he.setCell (Nat.le_refl _) _).setCell (Nat.le_refl _) _⟩
      · rw[Nm.getD_set_self (by rw[List.length_set,HL.out];omega)];exact HPX.out.1
      exact((HZ.out.mono (by omega)).set (by omega)).set (by omega)
    case measure=>simp[intOf]<;>omega
  obtain rfl:j=xs.length:=by omega
  have hvv:Nm.val os=a*2^k:=by rw[Nm.shl_done HL.out (Nat.le_refl _) HV.out,HVA.out]
  have S1:=zH (short_tight (.slice (some ⟨w.heap.size,0,none⟩) os.length (xs.length+1)) os wr (hb.dig HO.out _ (Nat.le_of_eq HL.out)) (by rw[HL.out];omega));rw[HL.out,hvv]at S1;clear hvv;go_wp2_with fail
  refine S1.out.mono ?_;rintro e w2 ⟨p2,rfl,hc,rfl⟩;go_wp2_with fail
  go_ret
  exact⟨p2,rfl,hc,he⟩
theorem or64' (x y:Nat)(hx:x<4294967296)(hy:y<4294967296):bits .or .u64 (x:Int) ((y:Int)*4294967296)=(((x+y*4294967296:Nat)):Int):=by
  have h:=u64_or_nat x (y*4294967296) (by omega) (by omega);rw[Nat.or_comm,nat_join 32 (y*4294967296) x (by omega) (by omega)]at h;rw[Int.natCast_mul]at h;rw[show((y:Int)*4294967296)=(y:Int)*((4294967296:Nat):Int)from rfl,h,Nat.add_comm]
theorem shr_slot (x y k:Nat)(hk:k<32)(hx:x<4294967296)(hy:y<4294967296):
    bits .or .u64 (x:Int) ((y:Int)*4294967296)/2^(k%32)%4294967296=(((x+y*4294967296)/2^k%4294967296:Nat):Int):=by
  rw[or64' x y hx hy,Nat.mod_eq_of_lt hk];rw[Int.natCast_emod,Int.natCast_ediv,Int.natCast_pow];rfl
theorem shr_any (u:Value)(L a k:Nat)(w:World)(hu:NatIn L w u a)(hL:L<=400000)(hk:k<32)(hk0:0<k):
    Calls Tryz.prog 128 #[u,.int .i64 (-(k:Int))] w (RetC (a/2^k) w):=by
  have hna:=hu.nl;obtain⟨xs0,hx0,hxv,hxl0⟩:=hu;have S1:=zH (short_any u xs0 w hx0 (by omega));unfold RetQ NatC at S1;rw[hxv]at S1;clear hx0 hxv hxl0;have HVA:=zH (Nm.val_digs a);have HDX:=zH (Nm.dg_digs a);unfold Nm.nl at hna;generalize Nm.digs a=xs at S1 HVA HDX hna
  have hmk:=fun w=>mk_digits xs.length (by omega) (xs.length:Int) rfl w
  have q1:(k:Int)/32=0:=by omega
  have q2:(k:Int)%32=k:=by omega
  by_cases hn0:xs.length=0
  · have hv0:a/2^k=0:=by
      rw[<-HVA.out,List.eq_nil_of_length_eq_zero hn0];exact Nat.zero_div _
    have HV0:=zH hv0;clear hv0;have bb:decide (-(k:Int)<= -(32*(xs.length:Int)))=true:=by simp;omega
    go_enter Tryz.func128,Tryz.ntmps128
    go_wp2_with fail
    refine S1.out.mono ?_;rintro e w1 ⟨u1,rfl,hx,rfl⟩;obtain⟨p,cp,rfl,hcp,_,_⟩:=hx;go_wp2_with fail
    go_ret
    rw[HV0.out];refine⟨_,rfl,?_,Ext.refl _⟩;unfold NatC;rw[Nm.digs_zero];exact⟨none,0,rfl,Nat.le_refl _,Nm.Dg.nil,fun h=>absurd rfl (Nat.ne_of_lt h).symm⟩
  have hn1:1<=xs.length:=by omega
  clear hn0;go_enter Tryz.func128,Tryz.ntmps128
  go_wp2_with fail
  refine S1.out.mono ?_;rintro e w1 ⟨u1,rfl,hx,rfl⟩;have HX0:=zH hx;obtain⟨p,cp,rfl,hcp,_,hpx⟩:=hx;clear hpx S1;go_wp2_with fail
  clear hmk q1 q2;go_loopw [37] (fun i wr=>∃j:Nat,∃os:List Nat,j<=xs.length/\i= .int .i64 j/\os.length=xs.length/\Nm.Dg os/\BlkU wr w.heap.size os/\Nm.val (os.take j)=(Nm.val xs/2^k)%4294967296^j/\Ext w wr) (fun i _=>xs.length-(intOf i).toNat)
  case atStart=>exact⟨0,List.replicate xs.length 0,Nat.zero_le _,rfl,by simp,Nm.Dg.zeros _,blkU_new _ _,by simp[Nm.val,Nat.mod_one],(Ext.refl _).alloc _⟩
  obtain⟨j,os,hj,rfl,hol,hod,hb,hv,he⟩:=hrel;have HV:=zH hv;have HO:=zH hod;have HL:=zH hol;clear hv hod hol;by_cases hlt:j<xs.length
  · have d1:∀i:Int,i=(j:Int)->Calls Tryz.prog 131 #[.slice p xs.length cp,.int .i64 i] wr fun e w'=>e= .returned (.int .u64 (xs.getD j 0:Nat))/\wr=w':=fun i h=>by
      subst h;exact digit_any _ xs j wr (HX0.out.ext he) (by omega) (by omega)
    have d2:∀i:Int,i=((j+1:Nat):Int)->Calls Tryz.prog 131 #[.slice p xs.length cp,.int .i64 i] wr fun e w'=>e= .returned (.int .u64 (xs.getD (j+1) 0:Nat))/\wr=w':=fun i h=>by
      subst h;exact digit_any _ xs ((j+1:Nat):Int) wr (HX0.out.ext he) (by omega) (by omega)
    have b1:=HDX.out.getD j;have b2:=HDX.out.getD (j+1);have c2:=hb.cell (i:=j) (by rw[HL.out];omega);have f2:=hb.frozen j;have HR:=zH (Nm.shr_round HDX.out hk (by rw[HL.out];omega) hlt HV.out);generalize hgx:xs.getD j 0=x at d1 b1
    generalize hgy:xs.getD (j+1) 0=y at d2 b2
    have HR2:=zH (HR.out x y hgx hgy);have D1:=zH d1;have D2:=zH d2;clear hgx hgy HR d1 d2;go_wp2_with fail
    refine(D1.out _ (by omega)).mono ?_;rintro e w2 ⟨rfl,rfl⟩;go_wp2_with fail
    refine(D2.out _ (by omega)).mono ?_;rintro e w2 ⟨rfl,rfl⟩;go_wp2_with fail
    rw[shr_slot x y k hk b1 b2];go_roundw
    case rel=>exact⟨j+1,os.set j ((x+y*4294967296)/2^k%4294967296),by omega,by go_num,by rw[List.length_set];exact HL.out,HO.out.set _ (Nat.mod_lt _ (by omega)),hb.set j _,HR2.out,he.setCell (Nat.le_refl _) _⟩
    case measure=>simp[intOf]<;>omega
  obtain rfl:j=xs.length:=by omega
  have hvv:Nm.val os=a/2^k:=by rw[Nm.shr_done HDX.out HL.out (Nat.le_refl _) HV.out,HVA.out]
  have S1:=zH (short_any (.slice (some ⟨w.heap.size,0,none⟩) os.length xs.length) os wr (hb.dig HO.out _ (Nat.le_of_eq HL.out)) (by rw[HL.out];omega));rw[HL.out,hvv]at S1;clear hvv;go_wp2_with fail
  refine S1.out.mono ?_;rintro e w2 ⟨v2,rfl,hc,rfl⟩;go_wp2_with fail
  go_ret
  exact⟨v2,rfl,hc,he⟩
theorem back_qr {q v r t:Nat}(h:q*v+r=t)(hq:1<=q):(q-1)*v+(r+v)=t:=by
  obtain⟨k,rfl⟩:=Nat.exists_eq_add_of_le hq;rw[Nat.add_sub_cancel_left,<-h,Nat.add_mul,Nat.one_mul];omega
def GuessSays (Q:Nat)(w:World)(e:Ending)(w':World):Prop:=
  ∃q:Nat,e= .returned (.int .u64 q)/\q<4294967296/\Q<=q/\q<=Q+1/\Ext w w'
theorem guess_any (u v:Value)(us vs:List Nat)(m:Nat)(w:World)(hu:DigS w u us)(hv:DigS w v vs)(hvl:vs.length=m+2)(hul:us.length=m+3)(hm:m<=400000)
    (htop:2147483648<=vs.getD (m+1) 0)(hlt:Nm.val us<4294967296*Nm.val vs):
    Calls Tryz.prog 129 #[u,v] w (GuessSays (Nm.val us/Nm.val vs) w):=by
  have dU:=hu.dg;have dV:=hv.dg;obtain⟨p,cp,rfl,hcp,_,hpx⟩:=hu;obtain⟨q,cq,rfl,hcq,_,hqy⟩:=hv;obtain⟨b,o,rfl,hb0⟩:=hpx (by omega);obtain⟨b',o',rfl,hb1⟩:=hqy (by omega);have c0:=hb0 m (by omega);have c1:=hb0 (m+1) (by omega);have c2:=hb0 (m+2) (by omega);have d0:=hb1 m (by omega);have d1:=hb1 (m+1) (by omega);clear hb0 hb1 hpx hqy;have e1:=Nm.split3 hul;have e2:=Nm.split2 hvl;have lu:=Nm.val_take_lt dU m;have lv:=Nm.val_take_lt dV m;have x0:=dU.getD m;have x1:=dU.getD (m+1);have x2:=dU.getD (m+2);have y0:=dV.getD m;have y1:=dV.getD (m+1);rw[e1,e2]at hlt;rw[e1,e2,hvl,hul];rw[hul]at hcp;rw[hvl]at hcq;clear e1 e2 dU dV;generalize us.getD m 0=u2 at*
  generalize us.getD (m+1) 0=u1 at*
  generalize us.getD (m+2) 0=u0 at*
  generalize vs.getD m 0=v2 at*
  generalize vs.getD (m+1) 0=v1 at*
  generalize Nm.val (us.take m)=ul at*
  generalize Nm.val (vs.take m)=vl at*
  generalize 4294967296^m=P at*
  have G0:=Nm.guess_first lv y0 htop hlt;have G1:=Nm.guess_start (P:=P) (vl:=vl) (v2:=v2) lu (show 1<=v1 by omega) x0 (top:=u0*4294967296+u1);have HD:=zH (fun q r h1 h2=>Nm.guess_dec (q:=q) (r:=r) lu h1 h2 hlt);have HE:=zH (fun(q r:Nat) (h1:q*v1+r=u0*4294967296+u1) (h2:q<4294967296) (h3:q*v2<=r*4294967296+u2)=>Nm.guess_exit (ul:=ul) (u2:=u2) (top:=u0*4294967296+u1) (q:=q) (r:=r) lv (show 1<=v1 by omega) h1 h2 h3);have HB:=zH (fun(q r:Nat) (h1:q*v1+r=u0*4294967296+u1) (h2:q<=4294967296) (h3:4294967296<=r)=>Nm.guess_brk (ul:=ul) (u2:=u2) (top:=u0*4294967296+u1) (q:=q) (r:=r) lv y0 (show 1<=v1 by omega) h1 h2 h3);have HQB:=zH (show(ul+P*(u2+4294967296*(u0*4294967296+u1)))/(vl+P*(v2+4294967296*v1))<4294967296 by
    rw[Nat.div_lt_iff_lt_mul (by omega)];exact hlt)
  have HDM:=zH (Nat.div_add_mod (u0*4294967296+u1) v1);have HML:=zH (Nat.mod_lt (u0*4294967296+u1) (show 0<v1 by omega));clear hlt lu lv;generalize (ul+P*(u2+4294967296*(u0*4294967296+u1)))/(vl+P*(v2+4294967296*v1))=Q at*
  have HG1:=zH G1;have HG0:=zH G0;clear G1 G0;have EV:=zH (show(u0:Int)*4294967296+u1=((u0*4294967296+u1:Nat):Int)by omega);have hor:=or64 u0 u1 x2 x1;have i0:(0:Int)<=(m:Int):=by omega
  have i1:(m:Int)+1<(m:Int)+2:=by omega
  have i2:(m:Int)+2<(m:Int)+3:=by omega
  have i3:(0:Int)<=(m:Int)+1:=by omega
  have i4:(0:Int)<=(m:Int)+2:=by omega
  have i5:(m:Int)+1<(m:Int)+3:=by omega
  go_enter Tryz.func129,Tryz.ntmps129
  go_wp2_with fail
  go_quiet (fail)
  go_wp2_with fail
  go_quiet (fail)
  go_wp2_with fail
  clear hor;go_loopw [7,8] (fun qv rv wr=>∃q r:Nat,qv= .int .u64 q/\rv= .int .u64 r/\q*v1+r=u0*4294967296+u1/\Q<=q/\q<=4294967297/\r<4294967296/\Ext w wr) (fun qv _ _=>(intOf qv).toNat)
  case atStart=>exact⟨(u0*4294967296+u1)/v1,(u0*4294967296+u1)%v1,int_eq (by rw[EV.out,<-Int.natCast_ediv]),int_eq (by rw[EV.out,<-Int.natCast_emod]),by rw[Nat.mul_comm];exact HDM.out,HG1.out,HG0.out,by have:=HML.out;omega,(by first|exact(Ext.refl _).drewN _|exact((Ext.refl _).drewN _).drewN _)⟩
  obtain⟨q,r,rfl,rfl,hqr,hQq,hq2,hr,he⟩:=hrel;have HQR:=zH hqr;clear hqr;have e0:=he.get c0;have e1:=he.get d0;have e2:=he.get d1;by_cases hq:4294967296<=q
  · have bb:((q:Int)/4294967296 != 0)=true:=by simp;omega
    have HDQ:=zH (HD.out q r HQR.out (.inl hq))
    have HQR2:=zH (back_qr HQR.out (show 1<=q by omega));have HQ1:=zH (show Q<=q-1 by have:=HDQ.out;omega);by_cases hr2:4294967296<=r+v1
    · have bb2:(((r:Int)+v1)/4294967296 != 0)=true:=by simp;omega
      have HRES:=zH (HB.out (q-1) (r+v1) HQR2.out (by omega) hr2);go_wp2_with fail
      go_quiet (fail)
      go_wp2_with fail
      go_ret
      exact⟨q-1,by rw[Int.ofNat_sub (by omega)];rfl,by have:=HRES.out;have:=HQB.out;omega,HQ1.out,by have:=HRES.out;omega,(by first|exact he.drewN _|exact(he.drewN _).drewN _)⟩
    have bb2:(((r:Int)+v1)/4294967296 != 0)=false:=by simp;omega
    go_wp2_with fail
    go_quiet (fail)
    go_wp2_with fail
    go_roundw
    case rel=>exact⟨q-1,r+v1,by rw[Int.ofNat_sub (by omega)];rfl,by go_num,HQR2.out,HQ1.out,by omega,by omega,(by first|exact he.drewN _|exact(he.drewN _).drewN _)⟩
    case measure=>simp[intOf]<;>omega
  have bb:((q:Int)/4294967296 != 0)=false:=by simp;omega
  have m1:=Nm.digit_mul (show q<4294967296 by omega) y0;have m2:(0:Int)<=(q:Int)*(v2:Int):=by rw[<-Int.natCast_mul];exact Int.natCast_nonneg _
  have m3:(q:Int)*(v2:Int)<=18446744065119617025:=by rw[<-Int.natCast_mul];exact Int.ofNat_le.2 m1
  have hor2:=or64 r u2 hr x0;by_cases hc:r*4294967296+u2<q*v2
  · have HDQ:=zH (HD.out q r HQR.out (.inr hc))
    have q1:1<=q:=by
      rcases Nat.eq_zero_or_pos q with h0|h0
      · rw[h0,Nat.zero_mul]at hc;omega
      exact h0
    have bc:decide ((r:Int)*4294967296+u2<(q:Int)*v2)=true:=by
      rw[<-Int.natCast_mul];simp;omega
    clear hc
    have HQR2:=zH (back_qr HQR.out (show 1<=q by omega));have HQ1:=zH (show Q<=q-1 by have:=HDQ.out;omega);by_cases hr2:4294967296<=r+v1
    · have bb2:(((r:Int)+v1)/4294967296 != 0)=true:=by simp;omega
      have HRES:=zH (HB.out (q-1) (r+v1) HQR2.out (by omega) hr2);go_wp2_with fail
      go_quiet (fail)
      go_wp2_with fail
      go_ret
      exact⟨q-1,by rw[Int.ofNat_sub (by omega)];rfl,by have:=HRES.out;have:=HQB.out;omega,HQ1.out,by have:=HRES.out;omega,(by first|exact he.drewN _|exact(he.drewN _).drewN _)⟩
    have bb2:(((r:Int)+v1)/4294967296 != 0)=false:=by simp;omega
    go_wp2_with fail
    go_quiet (fail)
    go_wp2_with fail
    go_roundw
    case rel=>exact⟨q-1,r+v1,by rw[Int.ofNat_sub (by omega)];rfl,by go_num,HQR2.out,HQ1.out,by omega,by omega,(by first|exact he.drewN _|exact(he.drewN _).drewN _)⟩
    case measure=>simp[intOf]<;>omega
  have HRES:=zH (HE.out q r HQR.out (by omega) (by omega));have bc:decide ((r:Int)*4294967296+u2<(q:Int)*v2)=false:=by
    rw[<-Int.natCast_mul];simp;omega
  have HQQ:=zH hQq;clear hc hQq;go_wp2_with fail
  go_quiet (fail)
  go_wp2_with fail
  go_ret
  exact⟨q,rfl,by omega,HQQ.out,HRES.out,(by first|exact he.drewN _|exact(he.drewN _).drewN _)⟩
theorem and64 (z:Int)(h0:0<=z)(h1:z<18446744073709551616):bits .and .u64 z 4294967295=z%4294967296:=by
  obtain⟨n,rfl⟩:=Int.eq_ofNat_of_zero_le h0;have h:=u64_and_nat n 4294967295 (by omega) (by omega);rw[nat_mask32]at h;rw[show(4294967295:Int)=((4294967295:Nat):Int)from rfl,h];rfl
theorem sub64 (x s:Nat)(lo:Int)(hx:x<4294967296)(hs:s<=1)(h0:0<=lo)(h1:lo<4294967296):
    ∃d b:Nat,IntKind.u64.wrap (IntKind.u64.wrap ((x:Int)-lo)-s)%4294967296=(d:Int)/\IntKind.u64.wrap (IntKind.u64.wrap ((x:Int)-lo)-s)/9223372036854775808=(b:Int)/\d<4294967296/\b<=1/\(x:Int)+4294967296*b=d+lo+s:=by
  obtain⟨l,rfl⟩:=Int.eq_ofNat_of_zero_le h0;simp only[IntKind.wrap_u64];rcases Nat.lt_or_ge x (l+s)with h|h
  · exact⟨4294967296+x-l-s,1,by omega,by omega,by omega,by omega,by omega⟩
  exact⟨x-l-s,0,by omega,by omega,by omega,by omega,by omega⟩
def TakeSays (g:Nat)(pre seg post:List Nat)(rest:List Value)(n V q:Nat)(w:World)(e:Ending)(w':World):Prop:=
  ∃seg':List Nat,∃b:Nat,e= .returned (.bool ((b:Int) != 0))/\b<=1/\seg'.length=n+1/\Nm.Dg seg'/\BlkX w' g (pre++(seg'++post)) rest/\Nm.val seg'+q*V=Nm.val seg+4294967296^(n+1)*b/\Own g w w'
theorem take_any (g k n cap:Nat)(v:Value)(pre seg post vs:List Nat)(rest:List Value)(q:Nat)(w:World)(hb:BlkX w g (pre++(seg++post)) rest)(hk:pre.length=k)(hn:seg.length=n+1)(hvn:vs.length=n)(hds:Nm.Dg seg)(hcap:n+1<=cap)
    (hv:∀W,Own g w W->DigS W v vs)(hq:q<4294967296)(hsz:n<=400000):
    Calls Tryz.prog 130 #[.slice (some ⟨g,k,none⟩) (n+1) cap,v,.int .u64 q] w (TakeSays g pre seg post rest n (Nm.val vs) q w):=by
  have HV:=zH hv;have hv0:=hv w (Own.refl g w);have HDV:=zH hv0.dg;obtain⟨pv,cv,rfl,hcv,_,hpv⟩:=hv0;rw[hvn];have HVN:=zH hvn;have HK:=zH hk;have HN:=zH hn;have HDS:=zH hds;clear hv hpv hvn hk hn hds;go_enter Tryz.func130,Tryz.ntmps130
  go_wp2_with fail
  go_loopw [7,8,15] (fun c s i wr=>∃j cn sn:Nat,∃os:List Nat,j<=n/\i= .int .i64 j/\c= .int .u64 cn/\s= .int .u64 sn/\cn<4294967296/\sn<=1/\os.length=n+1/\Nm.Dg os/\BlkX wr g (pre++(os++post)) rest/\(∀l,j<=l->os.getD l 0=seg.getD l 0)/\Nm.val (os.take j)+q*Nm.val (vs.take j)=Nm.val (seg.take j)+4294967296^j*(cn+sn)/\Own g w wr) (fun _ _ i _=>n-(intOf i).toNat)
  case atStart=>exact⟨0,0,0,seg,Nat.zero_le _,rfl,rfl,rfl,by omega,by omega,HN.out,HDS.out,hb,fun _ _=>rfl,by simp[Nm.val],Own.refl _ _⟩
  obtain⟨j,c,s,os,hj,rfl,rfl,rfl,hc,hs,hol,hod,hbo,hsame,hv,he⟩:=hrel;have HV1:=zH hv;have HO:=zH hod;have HL:=zH hol;have HS:=zH hsame;clear hv hod hol hsame;by_cases hlt:j<n
  · obtain⟨pv',cv',hpe,hcv',_,hpv⟩:=HV.out wr he
    rw[HVN.out]at hpe hcv' hpv;cases hpe;obtain⟨b,o,rfl,hb0⟩:=hpv (by omega);have c0:=hb0 j hlt;clear hb0 hpv;have hg:=Nm.seg_get (post:=post) HK.out (show j<os.length by rw[HL.out];omega);have c2:=hbo.cell (i:=k+j) (by rw[List.length_append,List.length_append,HK.out,HL.out];omega);have f2:=hbo.frozen (k+j);rw[hg,HS.out j (Nat.le_refl _)]at c2;have b1:=HDV.out.getD j;have b2:=HDS.out.getD j;have HR:=zH (Nm.take_round (by rw[HL.out];omega) HV1.out);have HSET:=zH (fun d=>Nm.seg_set (post:=post) d HK.out (show j<os.length by rw[HL.out];omega));generalize hgx:seg.getD j 0=x at c2 b2
    generalize hgy:vs.getD j 0=y at c0 b1
    have HR2:=zH (fun lo hi2 d b e1 e2=>HR.out x y lo hi2 d b hgx hgy e1 e2);clear hgx hgy HR hg;have m1:=Nm.digit_mul hq b1;have m2:(0:Int)<=(q:Int)*(y:Int):=by rw[<-Int.natCast_mul];exact Int.natCast_nonneg _
    have m3:(q:Int)*(y:Int)<=18446744065119617025:=by rw[<-Int.natCast_mul];exact Int.ofNat_le.2 m1
    have hand:=and64 ((c:Int)+(q:Int)*y) (by omega) (by omega);obtain⟨d,bw,s1,s2,s3,s4,s5⟩:=sub64 x s (((c:Int)+(q:Int)*y)%4294967296) b2 hs (by omega) (by omega);have HS1:=zH s1;have HS2:=zH s2;have HS5:=zH s5;clear s1 s2 s5;go_wp2_with fail
    rw[HS1.out,HS2.out];go_roundw
    case rel=>
      refine⟨j+1,(c+q*y)/4294967296,bw,os.set j d,by omega,by go_num,int_eq (by omega),rfl,by omega,s4,by rw[List.length_set];exact HL.out,HO.out.set _ s3,by rw[<-HSET.out d];exact hbo.set (k+j) d (by rw[List.length_append,List.length_append,HK.out,HL.out];omega),?_,HR2.out ((c+q*y)%4294967296) _ d bw (Nat.mod_add_div _ _).symm (by have:=HS5.out;omega),he.set_at (k+j) none _⟩;intro l hl;rw[Nm.getD_set_ne (by omega)];exact HS.out l (by omega)
    case measure=>simp[intOf]<;>omega
  obtain rfl:j=n:=by omega
  have hg:=Nm.seg_get (post:=post) HK.out (show j<os.length by rw[HL.out];omega);have c2:=hbo.cell (i:=k+j) (by rw[List.length_append,List.length_append,HK.out,HL.out];omega);have f2:=hbo.frozen (k+j);rw[hg,HS.out j (Nat.le_refl _)]at c2;have b2:=HDS.out.getD j;have HSET:=zH (fun d=>Nm.seg_set (post:=post) d HK.out (show j<os.length by rw[HL.out];omega));have hv2:Nm.val (os.take j)+q*Nm.val vs=Nm.val (seg.take j)+4294967296^j*(c+s):=by
    have:=HV1.out;rwa[Nm.val_take_len (Nat.le_of_eq HVN.out)]at this
  have HR:=zH (fun x d b h1 h2=>Nm.take_last (x:=x) (d:=d) (b:=b) HL.out HN.out hv2 h1 h2);generalize hgx:seg.getD j 0=x at c2 b2
  have HGX:=zH hgx;clear hgx hg hv2;obtain⟨d,bw,s1,s2,s3,s4,s5⟩:=sub64 x s (c:Int) b2 hs (by omega) (by omega);have HS1:=zH s1;have HS2:=zH s2;have HS5:=zH s5;clear s1 s2 s5;go_wp2_with fail
  go_ret
  rw[HS1.out,HS2.out];exact⟨os.set j d,bw,rfl,s4,by rw[List.length_set];exact HL.out,HO.out.set _ s3,by rw[<-HSET.out d];exact hbo.set (k+j) d (by rw[List.length_append,List.length_append,HK.out,HL.out];omega),HR.out x d bw HGX.out (by have:=HS5.out;omega),he.set_at (k+j) none _⟩
end
namespace Nm
theorem bitLen_norm {x:Nat}(h0:x≠0)(hx:x<4294967296):1<=Lib.bitLen x/\Lib.bitLen x<=32/\2147483648<=x*2^(32-Lib.bitLen x)/\(x+1)*2^(32-Lib.bitLen x)<=4294967296:=by
  have h1:=Lib.bitLenAux_bounds 64 x (by omega) h0;have h2:=Lib.bitLen_le x 32 (by omega) (by omega);unfold Lib.bitLen at h2⊢;generalize Lib.bitLenAux 64 x=l at h1 h2⊢
  obtain⟨a,b,c⟩:=h1;have e1:2^(l-1)*2^(32-l)=2147483648:=by
    rw[<-Nat.pow_add,show l-1+(32-l)=31 by omega]
  have e2:2^l*2^(32-l)=4294967296:=by
    rw[<-Nat.pow_add,show l+(32-l)=32 by omega]
  have m1:=Nat.mul_le_mul_right (2^(32-l)) b;have m2:=Nat.mul_le_mul_right (2^(32-l)) (show x+1<=2^l by omega);rw[e1]at m1;rw[e2]at m2;exact⟨a,h2,m1,m2⟩
theorem shifted {ys:List Nat}{m x p:Nat}(hd:Dg ys)(hl:ys.length=m+1)(hx:ys.getD m 0=x)(h1:2147483648<=x*p)(h2:(x+1)*p<=4294967296):
    4294967296^m*2147483648<=val ys*p/\val ys*p<4294967296^(m+1):=by
  have e:val ys=val (ys.take m)+4294967296^m*x:=by
    rw[<-hx,<-val_take_succD,val_take_len (by omega)]
  have hlt:=val_take_lt hd m;rw[e];constructor
  · have:=Nat.mul_le_mul_left (4294967296^m) h1
    rw[Nat.add_mul,Nat.mul_assoc];omega
  have a1:(val (ys.take m)+4294967296^m*x)*p<(4294967296^m+4294967296^m*x)*p\/p=0:=by
    rcases Nat.eq_zero_or_pos p with h0|h0
    · exact .inr h0
    exact .inl (Nat.mul_lt_mul_of_pos_right (by omega) h0)
  rcases a1 with a1|a1
  · have a2:=Nat.mul_le_mul_left (4294967296^m) h2
    have e2:(4294967296^m+4294967296^m*x)*p=4294967296^m*((x+1)*p):=by
      rw[Nat.add_mul x 1 p,Nat.one_mul,Nat.mul_add,Nat.add_mul,Nat.mul_assoc,Nat.add_comm]
    rw[Nat.pow_succ];omega
  subst a1;simp at h1
theorem nl_of {V m:Nat}(h1:4294967296^m*2147483648<=V)(h2:V<4294967296^(m+1)):(digs V).length=m+1/\2147483648<=(digs V).getD m 0:=by
  have hp:=pow_pos32 m;have hl:nl V=m+1:=by
    have a:=nl_le h2;rcases Nat.lt_or_ge m (nl V)with h|h
    · omega
    have b:=lt_pow_nl V;have c:4294967296^nl V<=4294967296^m:=Nat.pow_le_pow_right (by omega) h;omega
  refine⟨hl,?_⟩;have hl':(digs V).length=m+1:=hl;have e:V=val ((digs V).take m)+4294967296^m*(digs V).getD m 0:=by
    rw[<-val_take_succD,val_take_len (by omega),val_digs]
  have hlt:=val_take_lt (dg_digs V) m;generalize (digs V).getD m 0=t at e
  rcases Nat.lt_or_ge t 2147483648 with h|h
  · have:=Nat.mul_le_mul_left (4294967296^m) (show t+1<=2147483648 by omega)
    rw[Nat.mul_add,Nat.mul_one]at this;omega
  exact h
theorem part_lt {us:List Nat}{k V:Nat}(hd:Dg us)(hk:k<us.length)(h:val (us.drop (k+1))<V):val (us.drop k)<4294967296*V:=by
  have hx:=hd.get hk;rw[val_drop hk];have:=Nat.mul_le_mul_left 4294967296 (show val (us.drop (k+1))+1<=V by omega);omega
theorem part_val {us:List Nat}{k n V:Nat}(hV:V<=4294967296^n)(h:val (us.drop k)<4294967296*V):val ((us.drop k).take (n+1))=val (us.drop k):=by
  apply val_take_of_lt;rw[Nat.pow_succ,Nat.mul_comm];have:=Nat.mul_le_mul_left 4294967296 hV;omega
theorem part_post {us:List Nat}{k n V:Nat}(hl:k+n+1<=us.length)(hV:V<=4294967296^n)(h:val (us.drop k)<4294967296*V):val (us.drop (k+n+1))=0:=by
  have e:=val_split (us.drop k) (n+1) (by rw[List.length_drop];omega);rw[part_val hV h,List.drop_drop,show k+(n+1)=k+n+1 by omega]at e;have hp:=pow_pos32 (n+1);rcases Nat.eq_zero_or_pos (val (us.drop (k+n+1)))with h0|h0
  · exact h0
  have:=Nat.le_mul_of_pos_right (4294967296^(n+1)) h0;omega
theorem three {us:List Nat}(k n:Nat):us=us.take k++((us.drop k).take (n+1)++us.drop (k+n+1)):=by
  have e:(us.drop k).drop (n+1)=us.drop (k+n+1):=by rw[List.drop_drop,show k+(n+1)=k+n+1 by omega]
  rw[<-e,List.take_append_drop,List.take_append_drop]
theorem take_pos {s' s q V:Nat}(hV:0<V)(h:s'+q*V=s)(h1:s/V<=q):q=s/V/\s'=s-s/V*V:=by
  have:q<=s/V:=by rw[Nat.le_div_iff_mul_le hV];omega
  obtain rfl:q=s/V:=by omega
  exact⟨rfl,by omega⟩
theorem take_neg {s' s q V M:Nat}(hV:0<V)(h:s'+q*V=s+M)(hs:s'<M)(h2:q<=s/V+1):q=s/V+1/\s'+V=s-s/V*V+M:=by
  have h3:s<q*V:=by omega
  have h4:s/V<q:=by rw[Nat.div_lt_iff_lt_mul hV];exact h3
  obtain rfl:q=s/V+1:=by omega
  refine⟨rfl,?_⟩;rw[Nat.add_mul,Nat.one_mul]at h;have:=Nat.div_mul_le_self s V;omega
theorem back_last {os ss:List Nat}{n V c x r:Nat}(hn:os.length=n+1)(hsn:ss.length=n+1)(hd:Dg os)(hx:ss.getD n 0=x)(h:val (os.take n)+4294967296^n*c=val (ss.take n)+V)(hr:val ss+V=r+4294967296^(n+1))(hrl:r<4294967296^(n+1)):
    val (os.set n ((x+c)%4294967296))=r:=by
  have h1:val (os.set n ((x+c)%4294967296))=val (os.take n)+4294967296^n*((x+c)%4294967296):=by
    rw[<-val_set_take (by omega),List.take_of_length_le (by rw[List.length_set];omega)]
  have h2:val ss=val (ss.take n)+4294967296^n*x:=by
    rw[<-hx,<-val_take_succD,List.take_of_length_le (by omega)]
  have hlt:val (os.set n ((x+c)%4294967296))<4294967296^(n+1):=val_lt_pow (hd.set n (Nat.mod_lt _ (by omega))) (by rw[List.length_set];omega);have e:x+c=(x+c)%4294967296+4294967296*((x+c)/4294967296):=(Nat.mod_add_div _ _).symm;have e2:4294967296^n*(x+c)=4294967296^n*((x+c)%4294967296+4294967296*((x+c)/4294967296)):=congrArg (4294967296^n* ·) e;rw[h1]at hlt⊢;rw[h2]at hr;rw[Nat.pow_succ]at hr hrl hlt;generalize (x+c)%4294967296=d at*
  generalize (x+c)/4294967296=t at*
  rw[Nat.mul_add,Nat.mul_add,<-Nat.mul_assoc]at e2;generalize 4294967296^n*x=px at*
  generalize 4294967296^n*c=pc at*
  generalize 4294967296^n*d=pd at*
  generalize val (os.take n)=o at*
  generalize 4294967296^n*4294967296=M at*
  have h5:o+pd+M*t=r+M:=by omega
  rcases Nat.lt_trichotomy t 1 with ht|ht|ht
  · obtain rfl:t=0:=by omega
    rw[Nat.mul_zero]at h5;omega
  · subst ht
    rw[Nat.mul_one]at h5;omega
  have:=Nat.mul_le_mul_left M (show 2<=t by omega);omega
theorem div_step {us qs seg seg':List Nat}{k n V U Q:Nat}(hl:k+n+1<=us.length)(hseg:(us.drop k).take (n+1)=seg)(hn:seg'.length=n+1)(hk:k<qs.length)(hz:qs.getD k 0=0)(h:val us+V*val qs=U)(hs:val seg'+Q*V=val seg):
    val (us.take k++(seg'++us.drop (k+n+1)))+V*val (qs.set k Q)=U:=by
  have e1:val us=val (us.take k)+4294967296^k*(val seg+4294967296^(n+1)*val (us.drop (k+n+1))):=by
    conv=>lhs;rw[three (us:=us) k n,val_append,val_append,hseg]
    rw[List.length_take,Nat.min_eq_left (by omega),<-hseg,List.length_take,List.length_drop,Nat.min_eq_left (by omega)]
  have e2:=val_setD hk Q 0 hz;rw[Nat.mul_zero,Nat.add_zero]at e2;rw[val_append,val_append,List.length_take,Nat.min_eq_left (by omega),hn,e2,<-h,e1,<-hs];generalize 4294967296^(n+1)*val (us.drop (k+n+1))=z
  generalize 4294967296^k=P
  rw[Nat.mul_add V,Nat.mul_add P (val seg'),Nat.mul_add P,Nat.mul_add P (val seg'),Nat.mul_left_comm V P Q,Nat.mul_comm V Q];omega
theorem step_lt {us seg':List Nat}{k n V:Nat}(hl:k+n+1<=us.length)(hp:val (us.drop (k+n+1))=0)(hs:val seg'<V):val ((us.take k++(seg'++us.drop (k+n+1))).drop k)<V:=by
  rw[List.drop_append_of_le_length (by rw[List.length_take];omega),show(us.take k).drop k=[]from List.drop_eq_nil_of_le (by rw[List.length_take];omega),List.nil_append,val_append,hp,Nat.mul_zero,Nat.add_zero];exact hs
theorem sub_div {s V:Nat}(hV:0<V):s-s/V*V<V/\s-s/V*V+s/V*V=s:=by
  have h1:=Nat.div_mul_le_self s V;have h2:=Nat.lt_div_mul_add hV (a:=s);omega
theorem start_lt {us:List Nat}{nq m V:Nat}(hd:Dg us)(hl:us.length=nq+m+1)(hV:4294967296^(m+1)*2147483648<=V):val ((us++[0]).drop nq)<V:=by
  rw[List.drop_append_of_le_length (by omega),val_append];have h1:=val_lt_pow (hd.drop nq) (k:=m+1) (by rw[List.length_drop];omega);have h2:val [0]=0:=rfl;rw[h2,Nat.mul_zero,Nat.add_zero];have:=pow_pos32 (m+1);omega
theorem end_divmod {us qs:List Nat}{U V a b p:Nat}(hp:0<p)(h:val us+V*val qs=U)(hlt:val us<V)(h1:U%V=a%b*p)(h2:U/V=a/b):val qs=a/b/\val us/p=a%b:=by
  obtain⟨e1,e2⟩:=div_of (q:=val qs) (d:=V) (r:=val us) (v:=U) hlt (by rw[Nat.mul_comm];omega);rw[h2]at e1;rw[h1]at e2;exact⟨e1,by rw[e2,Nat.mul_div_cancel _ hp]⟩
end Nm
section
open Go.Shelf
def lays128_ren:Go.Shelf.Ren:=⟨fun|128=>118|n=>n,fun|51=>96|3=>3|4=>4|46=>104|5=>5|9=>9|n=>n,fun|n=>n⟩
theorem lays128:Go.Proofs.Lays.n128 Tryz.prog lays128_ren:={
  mixed:=by kernel_rfl
  f128:=Tryz.func118.trans (congrArg some (by kernel_rfl))
  t3:=Tryz.underlying3
  a3:=Tryz.isAgg3
  z3:=Tryz.sizeOf3
  v3:=Tryz.zeroValue3
  t4:=Tryz.underlying4
  a4:=Tryz.isAgg4
  z4:=Tryz.sizeOf4
  v4:=Tryz.zeroValue4
  t5:=Tryz.underlying5
  a5:=Tryz.isAgg5
  z5:=Tryz.sizeOf5
  v5:=Tryz.zeroValue5
  t9:=Tryz.underlying9
  a9:=Tryz.isAgg9
  z9:=Tryz.sizeOf9
  v9:=Tryz.zeroValue9
  t46:=Tryz.underlying104
  a46:=Tryz.isAgg104
  z46:=Tryz.sizeOf104
  v46:=Tryz.zeroValue104
  t51:=Tryz.underlying96
  a51:=Tryz.isAgg96
  z51:=Tryz.sizeOf96
  v51:=Tryz.zeroValue96}
theorem bits_Len32 (x:Int)(w:World)(h0:0<=x)(h1:x<=4294967295):
    Calls Tryz.prog 118 #[.int .u32 x] w fun e w'=>e= .returned (.int .i64 (Lib.bitLen x.toNat))/\w'=w:=Any.bits_Len32 lays128 x w h0 h1
def lays133_ren:Go.Shelf.Ren:=⟨fun|133=>127|128=>118|n=>n,fun|51=>96|3=>3|4=>4|46=>104|5=>5|9=>9|n=>n,fun|n=>n⟩
theorem lays133:Go.Proofs.Lays.n133 Tryz.prog lays133_ren:={
  mixed:=by kernel_rfl
  f128:=Tryz.func118.trans (congrArg some (by kernel_rfl))
  f133:=Tryz.func127.trans (congrArg some (by kernel_rfl))
  t3:=Tryz.underlying3
  a3:=Tryz.isAgg3
  z3:=Tryz.sizeOf3
  v3:=Tryz.zeroValue3
  t4:=Tryz.underlying4
  a4:=Tryz.isAgg4
  z4:=Tryz.sizeOf4
  v4:=Tryz.zeroValue4
  t5:=Tryz.underlying5
  a5:=Tryz.isAgg5
  z5:=Tryz.sizeOf5
  v5:=Tryz.zeroValue5
  t9:=Tryz.underlying9
  a9:=Tryz.isAgg9
  z9:=Tryz.sizeOf9
  v9:=Tryz.zeroValue9
  t46:=Tryz.underlying104
  a46:=Tryz.isAgg104
  z46:=Tryz.sizeOf104
  v46:=Tryz.zeroValue104
  t51:=Tryz.underlying96
  a51:=Tryz.isAgg96
  z51:=Tryz.sizeOf96
  v51:=Tryz.zeroValue96}
theorem bits_LeadingZeros32 (x:Int)(w:World)(h0:0<=x)(h1:x<=4294967295):
    Calls Tryz.prog 127 #[.int .u32 x] w fun e w'=>e= .returned (.int .i64 (32-(Lib.bitLen x.toNat:Int)))/\w'=w:=Any.bits_LeadingZeros32 lays133 x w h0 h1
end
section
attribute [local go_sem ↓] Go.wp_at_zero Go.wp_at_succ run_max_ii run_min_ii
def RetDM (qn rn:Nat)(w:World)(e:Ending)(w':World):Prop:=
  ∃q r,e= .returned (.tuple #[q,r,.int .i64 0])/\NatC w' q qn/\NatC w' r rn/\Ext w w'
theorem natC_nil (w:World):NatC w (.slice none 0 0) 0:=by
  unfold NatC;rw[Nm.digs_zero];exact⟨none,0,rfl,Nat.le_refl _,Nm.Dg.nil,fun h=>absurd rfl (Nat.ne_of_lt h).symm⟩
theorem divmod_less (u v:Value)(L a b:Nat)(w:World)(hu:NatIn L w u a)(hv:NatIn L w v b)(hL:L<=300000)(_hb:b≠0)(hab:a<b):
    Calls Tryz.prog 101 #[u,v] w (RetDM (a/b) (a%b) w):=by
  have hnb:=hv.nl;have hna:=hu.nl;have hpos:0<(Nm.digs b).length:=by
    have:=Nm.nl_eq_zero (n:=b);unfold Nm.nl at this;omega
  have HD:=zH (show a/b=0/\a%b=a from⟨Nat.div_eq_of_lt hab,Nat.mod_eq_of_lt hab⟩);obtain⟨xs0,hx0,hxv,hxl0⟩:=hu;obtain⟨ys0,hy0,hyv,hyl0⟩:=hv;have S1:=zH (short_any u xs0 w hx0 (by omega));have S2:=zH (short_any v ys0 w hy0 (by omega));rw[hyv]at S2;rw[hxv]at S1;have HC:=zH (fun p q (h1:NatC w p a) (h2:NatC w q b)=>cmp_any p q L a b w (h1.isIn hna) (h2.isIn hnb) (by omega));rw[cmpV_lt (by omega)]at HC;unfold RetQ at S1 S2;have hla:(Nm.digs a).length<=400000:=Nat.le_trans hna (by omega);clear hx0 hy0 hxv hyv hab _hb;go_enter Tryz.func101,Tryz.ntmps101
  go_wp2_with fail
  refine S1.out.mono ?_;rintro e w1 ⟨u1,rfl,hx,rfl⟩;go_wp2_with fail
  refine S2.out.mono ?_;rintro e w1 ⟨v1,rfl,hy,rfl⟩;have HX:=zH hx;have HY:=zH hy;obtain⟨q,cq,rfl,_,_,_⟩:=hy;clear S1 S2 hx;go_wp2_with fail
  refine(HC.out _ _ HX.out HY.out).mono ?_;rintro e w2 ⟨rfl,he2⟩;have HK:=zH (clone_any u1 _ w2 (DigS.ext HX.out he2) (by omega));go_wp2_with fail
  refine HK.out.mono ?_;rintro e w3 ⟨r,rfl,hr,he3⟩;go_wp2_with fail
  go_ret3
  unfold RetDM;rw[HD.out.1,HD.out.2];exact⟨_,r,rfl,natC_nil _,hr,he2.trans he3⟩
theorem divmod_one (u v:Value)(L a b:Nat)(w:World)(hu:NatIn L w u a)(hv:NatIn L w v b)(hL:L<=300000)(hb:b≠0)(hab:¬a<b)(hb1:b<4294967296):
    Calls Tryz.prog 101 #[u,v] w (RetDM (a/b) (a%b) w):=by
  have hnb:=hv.nl;have hna:=hu.nl;have hge:(0:Int)<=cmpV (a:Int) (b:Int):=by
    by_cases h:(b:Int)<a
    · rw[cmpV_gt h];omega
    have:(a:Int)=b:=by omega
    rw[this,cmpV_eq];exact Int.le_refl _
  obtain⟨xs0,hx0,hxv,hxl0⟩:=hu;obtain⟨ys0,hy0,hyv,hyl0⟩:=hv;have S1:=zH (short_any u xs0 w hx0 (by omega));have S2:=zH (short_any v ys0 w hy0 (by omega));rw[hyv]at S2;rw[hxv]at S1;have HC:=zH (fun p q (h1:NatC w p a) (h2:NatC w q b)=>cmp_any p q L a b w (h1.isIn hna) (h2.isIn hnb) (by omega));generalize cmpV (a:Int) (b:Int)=c at HC hge
  unfold RetQ at S1 S2;have ho:=fun p w' (h1:NatC w' p a)=>one_any p L a b w' (h1.isIn hna) (by omega) (by omega) hb1
  have hf:=fun w'=>fromU_any (a%b) w' (by have:=Nat.mod_lt a (show 0<b by omega);omega)
  have hrm:a%b<4294967296:=by have:=Nat.mod_lt a (show 0<b by omega);omega
  generalize a%b=rm at ho hf hrm⊢
  have HO:=zH ho;have HF:=zH hf;clear ho hf;have hdb:=Nm.digs_one hb hb1;have HDB:=zH hdb;clear hx0 hy0 hxv hyv hab hb hdb;go_enter Tryz.func101,Tryz.ntmps101
  go_wp2_with fail
  refine S1.out.mono ?_;rintro e w1 ⟨u1,rfl,hx,rfl⟩;go_wp2_with fail
  refine S2.out.mono ?_;rintro e w1 ⟨v1,rfl,hy,rfl⟩;have HX:=zH hx;have HY:=zH hy;unfold NatC at hy;rw[HDB.out]at hy;obtain⟨q,cq,rfl,hcq,_,hyp⟩:=hy;obtain⟨b',o',rfl,hyb⟩:=hyp (by simp);have c0:=hyb 0 (by simp);rw[show([b]:List Nat).getD 0 0=b from rfl,Nat.add_zero]at c0;rw[show([b]:List Nat).length=1 from rfl]at hcq HY⊢;clear S1 S2 hx hyb hyp;go_wp2_with fail
  refine(HC.out _ _ HX.out HY.out).mono ?_;rintro e w2 ⟨rfl,he2⟩;have c1:=he2.get c0;go_wp2_with fail
  refine(HO.out _ _ (HX.out.ext he2)).mono ?_;rintro e w3 ⟨qv,rfl,hq,he3⟩;go_wp2_with fail
  refine(HF.out _).mono ?_;rintro e w4 ⟨rv,rfl,hr,he4⟩;go_wp2_with fail
  go_ret3
  exact⟨qv,rv,rfl,hq.ext he4,hr,(he2.trans he3).trans he4⟩
theorem DigS.cap {w:World}{p:Option Addr}{n cap:Nat}{xs:List Nat}(h:DigS w (.slice p n cap) xs):xs.length=n/\n<=cap:=by
  obtain⟨p',cap',he,hc,_⟩:=h;cases he;exact⟨rfl,hc⟩
theorem DigS.cells {w:World}{p:Option Addr}{n cap:Nat}{xs:List Nat}(h:DigS w (.slice p n cap) xs):∀b,p=some b->∀j u,(cellsU xs)[j]?=some u->w.cell? (b.add j)=some u:=by
  intro a ha j u hj;obtain⟨p',cap',he,hc,hd,hp⟩:=h;have hjl:j<xs.length:=by
    have:=(List.getElem?_eq_some_iff.1 hj).1;rwa[cellsU_length]at this
  cases he;obtain⟨b,o,h1,h2⟩:=hp (by omega);subst ha;obtain rfl:a=⟨b,o,none⟩:=Option.some.inj h1;rw[cellsU_get xs j hjl]at hj;rw[Addr.add_lit,h2 j hjl];exact hj
theorem DigS.none {w:World}{n cap:Nat}{xs:List Nat}(h:DigS w (.slice none n cap) xs):n=0:=by
  obtain⟨p',cap',he,hc,hd,hp⟩:=h;cases he;rcases Nat.eq_zero_or_pos xs.length with h0|h0
  · exact h0
  obtain⟨b,o,h1,_⟩:=hp h0;cases h1
theorem divmod_long (u v:Value)(L a b:Nat)(w:World)(hu:NatIn L w u a)(hv:NatIn L w v b)(hL:L<=300000)(hab:¬a<b)(hb1:4294967296<=b):
    Calls Tryz.prog 101 #[u,v] w (RetDM (a/b) (a%b) w):=by
  have hnb:=hv.nl;have hna:=hu.nl;have hge:(0:Int)<=cmpV (a:Int) (b:Int):=by
    by_cases h:(b:Int)<a
    · rw[cmpV_gt h];omega
    have:(a:Int)=b:=by omega
    rw[this,cmpV_eq];exact Int.le_refl _
  obtain⟨xs0,hx0,hxv,hxl0⟩:=hu;obtain⟨ys0,hy0,hyv,hyl0⟩:=hv;have S1:=zH (short_any u xs0 w hx0 (by omega));have S2:=zH (short_any v ys0 w hy0 (by omega));rw[hyv]at S2;rw[hxv]at S1;have HC:=zH (fun p q (h1:NatC w p a) (h2:NatC w q b)=>cmp_any p q L a b w (h1.isIn hna) (h2.isIn hnb) (by omega));generalize cmpV (a:Int) (b:Int)=c at HC hge
  unfold RetQ at S1 S2
  -- the divisor's digits
  obtain⟨m,hm⟩:∃m,(Nm.digs b).length=m+2:=by
    have h1:2<=(Nm.digs b).length:=by
      rcases Nat.lt_or_ge (Nm.nl b) 2 with h|h
      · have h2:=Nm.lt_pow_nl b
        have h3:4294967296^Nm.nl b<=4294967296^1:=Nat.pow_le_pow_right (by omega) (by omega);omega
      exact h
    exact⟨(Nm.digs b).length-2,by omega⟩
  have htop:(Nm.digs b).getD (m+1) 0≠0:=by
    have:=Nm.tight_digs b (by intro h;rw[h]at hm;cases hm);rw[List.getLast_eq_getElem]at this;rw[Nm.getD_eq (by omega)];simpa[hm]using this
  have hdb:=Nm.dg_digs b;have hxt:=hdb.getD (m+1);have hvb:=Nm.val_digs b;have hml:m+2<=L:=by have:=hnb;unfold Nm.nl at this;omega
  generalize hgt:(Nm.digs b).getD (m+1) 0=x at htop hxt
  obtain⟨l1,l2,l3,l4⟩:=Nm.bitLen_norm htop hxt;have hsh:=Nm.shifted hdb hm hgt l3 l4;rw[hvb]at hsh;have hnl:=Nm.nl_of hsh.1 hsh.2;have HLZ:=zH (fun w=>bits_LeadingZeros32 (x:Int) w (by omega) (by omega));obtain⟨k,hk⟩:∃k,k=32-Lib.bitLen x:=⟨_,rfl⟩;have hk2:(32-(Lib.bitLen (x:Int).toNat:Int))=(k:Int):=by rw[Int.toNat_natCast];omega
  rw[hk2]at HLZ;rw[<-hk]at hsh hnl l3 l4;have hk32:k<32:=by omega
  have HSA:=zH (fun p w' (h1:NatC w' p a)=>shl_any p L a k w' (h1.isIn hna) (by omega) hk32);have HSB:=zH (fun p w' (h1:NatC w' p b)=>shl_any p L b k w' (h1.isIn hnb) (by omega) hk32)
  -- the shifted numbers
  have hUV:b*2^k<=a*2^k:=Nat.mul_le_mul_right _ (by omega);have hal:a<=a*2^k:=Nat.le_mul_of_pos_right _ (Nat.two_pow_pos k);have hmod:=Nat.mul_mod_mul_right (2^k) a b;have hdiv:=Nat.mul_div_mul_right a b (Nat.two_pow_pos k);have hnla:=Nm.nl_mono hal;have hul:Nm.nl (a*2^k)<=Nm.nl a+1:=by
    apply Nm.nl_le;have h1:=Nm.lt_pow_nl a;have h2:2^k<=4294967296:=Nat.le_trans (Nat.pow_le_pow_right (by omega) (show k<=32 by omega)) (by decide);rw[Nat.pow_succ];exact Nat.lt_of_lt_of_le (Nat.mul_lt_mul_of_pos_right h1 (Nat.two_pow_pos k)) (Nat.mul_le_mul_left _ h2)
  have hnuv:=Nm.nl_mono hUV;have HTWO:=zH (Nat.two_pow_pos k);unfold Nm.nl at hnla hul hnuv hna;rw[hnl.1]at hnuv;have HU:=zH (And.intro hmod hdiv);have HSH:=zH (And.intro hsh hnl.2);have HVL:=zH hnl.1;have hdv:=Nm.dg_digs (b*2^k);have hdu:=Nm.dg_digs (a*2^k);have hvv:=Nm.val_digs (b*2^k);have hvu:=Nm.val_digs (a*2^k);have HGT:=zH hgt;clear hx0 hy0 hxv hyv hmod hdiv hsh hnl hvb hk hk2 hUV hal l1 l2 l3 l4 htop hxl0 hyl0 hgt;unfold RetF NatC at HSA HSB;generalize a*2^k=U0 at HSA HU hnla hul hnuv hdu hvu
  generalize b*2^k=V0 at HSB HU HSH HVL hnuv hdv hvv
  generalize Nm.digs V0=vs at HSB HSH HVL hdv hvv hnuv
  generalize Nm.digs U0=us at HSA hnla hul hnuv hdu hvu
  have HB:=zH (And.intro hdb hm);have HVS:=zH (And.intro hdv hvv);have HUS:=zH (And.intro hdu hvu);obtain⟨i0,hi,hz0,hz1,hz2⟩:=info_parts infoU;clear hdb hm hdv hvv hdu hvu;have g0:((m:Int)+2==0)=false:=beq_eq_false_iff_ne.2 (by omega);have g1:((m:Int)+2==1)=false:=beq_eq_false_iff_ne.2 (by omega);go_enter Tryz.func101,Tryz.ntmps101
  go_wp2_with fail
  refine S1.out.mono ?_;rintro e w1 ⟨u1,rfl,hx,rfl⟩;go_wp2_with fail
  refine S2.out.mono ?_;rintro e w1 ⟨v1,rfl,hy,rfl⟩;have HX:=zH hx;have HY:=zH hy;obtain⟨q,cq,rfl,hcq,_,hyp⟩:=hy;obtain⟨pu,cpu,rfl,hcpu,_,_⟩:=hx;rw[HB.out.2]at hcq hyp HY⊢;obtain⟨b',o',rfl,hyb⟩:=hyp (by omega);have c0:=hyb (m+1) (by omega);rw[HGT.out]at c0;clear S1 S2 hyb hyp;go_wp2_with fail
  refine(HC.out _ _ HX.out HY.out).mono ?_;rintro e w2 ⟨rfl,he2⟩;have c1:=he2.get c0;go_wp2_with fail
  refine(HLZ.out _).mono ?_;rintro e w2b ⟨rfl,rfl⟩;go_wp2_with fail
  refine(HSB.out _ _ (HY.out.ext he2)).mono ?_;rintro e w3 ⟨pv,rfl,hv,he3⟩;go_wp2_with fail
  refine(HSA.out _ _ (HX.out.ext (he2.trans he3))).mono ?_;rintro e w4 ⟨pu2,rfl,hu,he4⟩;have HV3:=zH (hv.ext he4);have HU4:=zH hu;have hvsl:vs.length=m+2:=HVL.out;clear hv hu;go_wp2_with (at_builtin;refine wpList_append_grows _ rfl _ _ 26 rfl 96 i0 (.int .u32 0) 1 4 Tryz.underlying26 hi hz0 hz1 hz2 rfl (by decide) pu2 us.length us.length (cellsU us) rfl (fun h=>by subst h;exact⟨DigS.none HU4.out,DigS.none HU4.out⟩) (by rw[cellsU_length];omega) (fun b hb j u hj=>DigS.cells (HU4.out.ext ((Ext.refl _).alloc _)) b hb j u hj) ⟨w4.heap.size,0,none⟩ 1 1 [.int .u32 0] rfl rfl (by intro j u hj;match j,hj with|0,hj=>(simp at hj;subst hj;simp[Addr.add])) (by simp[Value.oneCell']) (by omega) (by unfold maxLen;omega) (by omega) ?_;intro v' w5 hown hgrow;obtain⟨g,cap,rest,rfl,hg,hcap,hbx⟩:=owns_blkX (xs:=us++[0]) (by rw[List.length_append,cellsU_append];exact hown) (by simp);clear hown)
  have hE5:Ext w4 w5:=((Ext.refl _).alloc _).grown hgrow (by intro k hk;cases hk);have HE5:=zH hE5;have hgw:w4.heap.size+1<=g:=by simpa using hg
  have hgw5:g<w5.heap.size:=Blk.lt hbx;rw[List.length_append]at hcap;have hcap2:us.length+1<=cap:=hcap;clear hg hcap hgrow hE5 c0 c1;go_loop [11] (fun u=>u= .slice (some ⟨g,0,none⟩) (us.length+1) cap) (fun _=>0)
  case atStart=>rfl
  case round=>
  subst hrel;obtain⟨nq,hnq⟩:∃nq,us.length=nq+m+1:=⟨us.length-(m+1),by omega⟩;have hmk:=fun w=>mk_digits nq (by omega) ((nq:Int)+m+1+1-(m+2)) (by omega) w
  have HNQ:=zH hnq;rw[hnq]at hcap2⊢;have hnl1:(Nm.digs a).length<=nq+m+1:=by omega
  have hnl2:nq+m+1<=300001:=by omega
  clear hnq hnla hul hnuv hvsl hna;go_wp2_with fail
  clear hmk;go_loopw [13] (fun i wr=>∃j:Nat,∃os qs:List Nat,j<=nq/\i= .int .i64 ((j:Int)-1)/\os.length=nq+m+1+1/\Nm.Dg os/\BlkX wr g os rest/\qs.length=nq/\Nm.Dg qs/\BlkU wr w5.heap.size qs/\(∀l,l<j->qs.getD l 0=0)/\Nm.val (os.drop j)<V0/\Nm.val os+V0*Nm.val qs=U0/\Ext w4 wr) (fun i _=>(intOf i+1).toNat)
  case atStart=>
    refine⟨nq,us++[0],List.replicate nq 0,Nat.le_refl _,rfl,by rw[List.length_append,HNQ.out];rfl,HUS.out.1.append (Nm.Dg.cons (by omega) Nm.Dg.nil),hbx.ext ((Ext.refl _).alloc _),by simp,Nm.Dg.zeros _,blkU_new _ _,fun l _=>Nm.Zeros.all nq 0 l (Nat.zero_le _),Nm.start_lt HUS.out.1 HNQ.out HSH.out.1.1,?_,HE5.out.alloc _⟩;rw[Nm.val_append,Nm.val_zeros,Nat.mul_zero,Nat.add_zero,HUS.out.2];rfl
  obtain⟨j,os,qs,hj,rfl,hol,hod,hbo,hql,hqd,hbq,hqz,hlt,hsum,he⟩:=hrel;have HOL:=zH hol;have HOD:=zH hod;have HQL:=zH hql;have HQD:=zH hqd;have HQZ:=zH hqz;have HLT:=zH hlt;have HSUM:=zH hsum;clear hol hod hql hqd hqz hlt hsum;match j,hj,HQZ,HLT with
  | 0,hj,HQZ,HLT=>
    have hed:=Nm.end_divmod HTWO.out HSUM.out HLT.out HU.out.1 HU.out.2;have S1:=zH (short_any (.slice (some ⟨w5.heap.size,0,none⟩) qs.length nq) qs wr (hbq.dig HQD.out _ (Nat.le_of_eq HQL.out)) (by rw[HQL.out];omega));rw[hed.1,HQL.out]at S1;have hun:NatIn 300003 wr (.slice (some ⟨g,0,none⟩) (nq+m+1+1) cap) (Nm.val os):=⟨os,(BlkX.part (pre:=[]) (post:=[]) (by rw[List.nil_append,List.append_nil];exact hbo) rfl HOL.out hcap2 HOD.out),rfl,by rw[HOL.out];omega⟩;have HED:=zH hed;have HUN:=zH hun;clear hed hun;go_wp2_with fail
    refine S1.out.mono ?_;rintro e w6 ⟨qv,rfl,hq,rfl⟩;have HQV:=zH hq;clear hq;go_wp2_with fail
    by_cases hk0:k=0
    · have S2:=shl_any _ 300003 _ 0 wr HUN.out (by omega) (by omega)
      subst hk0;have hmod:Nm.val os*2^0=a%b:=by rw[<-HED.out.2,Nat.pow_zero,Nat.mul_one,Nat.div_one]
      rw[hmod]at S2;have HS2:=zH S2;clear S2 hmod;refine HS2.out.mono ?_;rintro e w7 ⟨pr,rfl,hr,he7⟩;go_wp2_with fail
      go_ret3
      exact⟨_,_,rfl,HQV.out.ext he7,hr,(((he2.trans he3).trans he4).trans he).trans he7⟩
    have S2:=shr_any _ 300003 _ k wr HUN.out (by omega) hk32 (by omega);rw[HED.out.2]at S2;have HS2:=zH S2;clear S2;refine HS2.out.mono ?_;rintro e w7 ⟨pr,rfl,hr,he7⟩;go_wp2_with fail
    go_ret3
    exact⟨_,_,rfl,HQV.out.ext he7,hr,(((he2.trans he3).trans he4).trans he).trans he7⟩
  | kk+1,hj,HQZ,HLT=>
    have hV0:V0<=4294967296^(m+2):=Nat.le_of_lt HSH.out.1.2;have hVpos:0<V0:=Nat.lt_of_lt_of_le (Nat.mul_pos (Nm.pow_pos32 (m+1)) (by omega)) HSH.out.1.1;have hpl:=Nm.part_lt HOD.out (by rw[HOL.out];omega) HLT.out;have hpv:=Nm.part_val hV0 hpl;have hpp:=Nm.part_post (n:=m+2) (by rw[HOL.out];omega) hV0 hpl;obtain⟨seg,hseg⟩:∃seg,(os.drop kk).take (m+2+1)=seg:=⟨_,rfl⟩;have hsl:seg.length=m+3:=by rw[<-hseg,List.length_take,List.length_drop,HOL.out];omega
    have hsd:Nm.Dg seg:=by rw[<-hseg];exact(HOD.out.drop _).take _
    rw[hseg]at hpv;have hthree:=Nm.three (us:=os) kk (m+2);rw[hseg]at hthree;have hpre:(os.take kk).length=kk:=by rw[List.length_take,HOL.out];omega
    have hbo2:=hbo;rw[hthree]at hbo2;have HP:=zH (And.intro hpl (And.intro hpv hpp));have HSG:=zH (And.intro hseg (And.intro hsl hsd));have HPRE:=zH hpre;have HBO:=zH hbo2;have hDV:=HV3.out.ext he;have HG:=zH (guess_any (.slice (some ⟨g,kk,none⟩) (m+3) (cap-kk)) (.slice pv (m+2) (m+2)) seg vs m wr (hbo2.part hpre hsl (by omega) hsd) (by rw[HVL.out]at hDV;exact hDV) HVL.out hsl (by omega) HSH.out.2 (by rw[hpv,HVS.out.2];exact hpl));clear hpl hpv hpp hseg hsl hsd hthree hpre hbo2 hbo hDV hV0;go_wp2_with fail
    rw[show kk+(m+2)+1-kk=m+3 by omega];refine HG.out.mono ?_;rintro e w6 ⟨qh,rfl,hq1,hq2,hq3,he6⟩;have HQ2:=zH hq2;have HQ3:=zH hq3;clear hq2 hq3;have he46:=he.trans he6;have HT0:=take_any g kk (m+2) (cap-kk) (.slice pv (m+2) (m+2)) (os.take kk) seg (os.drop (kk+(m+2)+1)) vs rest qh w6 (HBO.out.ext he6) HPRE.out HSG.out.2.1 HVL.out HSG.out.2.2 (by omega)
      (fun W hW=>by have:=HV3.out.ext (hW.ext he46 (by omega));rw[HVL.out]at this;exact this) hq1 (by omega)
    rw[show m+2+1=m+3 from rfl]at HT0;have HT:=zH HT0;clear HT0;go_wp2_with fail
    refine HT.out.mono ?_;rintro e w7 ⟨seg',bb,rfl,hbb,hsl',hsd',hbo',hval,hown⟩;have HSL':=zH hsl';have HSD':=zH hsd';have HBO':=zH hbo';have HVAL:=zH hval;have HOWN:=zH hown;have HBQ:=zH ((hbq.ext he6).own hown (by omega));clear hsl' hsd' hbo' hval hown;by_cases hb0:bb=0
    · have hbv:((bb:Int) != 0)=false:=by rw[hb0];rfl
      have c2:=HBQ.out.cell (i:=kk) (by rw[HQL.out];omega);have f2:=HBQ.out.frozen kk;have HB0:=zH hb0;clear hb0;go_wp2_with fail
      have hval0:Nm.val seg'+qh*V0=Nm.val seg:=by have h:=HVAL.out;rw[HB0.out,Nat.mul_zero,Nat.add_zero,HVS.out.2]at h;exact h
      have hq2':Nm.val seg/V0<=qh:=by have h:=HQ2.out;rw[HVS.out.2]at h;exact h
      have hfin:=Nm.take_pos hVpos hval0 hq2';have hsd:=Nm.sub_div (s:=Nm.val seg) hVpos;go_roundw
      case rel=>
        refine⟨kk,os.take kk++(seg'++os.drop (kk+(m+2)+1)),qs.set kk qh,by omega,rfl,?_,(HOD.out.take _).append (HSD'.out.append (HOD.out.drop _)),HBO'.out.far (by show g≠w5.heap.size;omega) _,by rw[List.length_set];exact HQL.out,HQD.out.set _ hq1,HBQ.out.set kk qh,?_,?_,?_,(HOWN.out.ext he46 (by omega)).setCell (HE5.out.size) _⟩
        · rw[List.length_append,List.length_append,HPRE.out,HSL'.out,List.length_drop,HOL.out];omega
        · intro l hl
          rw[Nm.getD_set_ne (by omega)];exact HQZ.out l (by omega)
        · exact Nm.step_lt (by rw[HOL.out];omega) HP.out.2.2 (by rw[hfin.2];exact hsd.1)
        exact Nm.div_step (by rw[HOL.out];omega) HSG.out.1 HSL'.out (by rw[HQL.out];omega) (HQZ.out kk (by omega)) HSUM.out (by rw[hfin.2,hfin.1];exact hsd.2)
      case measure=>simp[intOf]<;>omega
    have hbv:((bb:Int) != 0)=true:=by simpa using hb0
    have hb1:bb=1:=by omega
    have hlt':=Nm.val_lt_pow HSD'.out (k:=m+2+1) (by rw[HSL'.out];exact Nat.le_refl _);have hval0:Nm.val seg'+qh*V0=Nm.val seg+4294967296^(m+2+1):=by have h:=HVAL.out;rw[hb1,Nat.mul_one,HVS.out.2]at h;exact h
    have hq3':qh<=Nm.val seg/V0+1:=by have h:=HQ3.out;rw[HVS.out.2]at h;exact h
    have hfin:=Nm.take_neg hVpos hval0 hlt' hq3';have hsd:=Nm.sub_div (s:=Nm.val seg) hVpos;have hq0:1<=qh:=by rw[hfin.1];exact Nat.le_add_left _ _
    have HFIN:=zH (And.intro hfin hsd);have HB1:=zH hb1;clear hfin hsd hb1 hb0 hlt' hval0 hq3';obtain⟨p',cp',hpe,_,_,hpv⟩:=HV3.out;rw[HVL.out]at hpe hpv;cases hpe;obtain⟨bv,ov,rfl,hvc⟩:=hpv (by omega);have HVC:=zH hvc;clear hpv hvc;go_wp2_with fail
    obtain⟨wo,hwo⟩:∃wo:World,wo=wr:=⟨_,rfl⟩;subst hwo;go_loopw [16,105] (fun c i wr2=>∃t s:Nat,∃os2:List Nat,t<=m+2/\i= .int .i64 t/\c= .int .u64 s/\s<=1/\os2.length=m+3/\Nm.Dg os2/\BlkX wr2 g (os.take kk++(os2++os.drop (kk+(m+2)+1))) rest/\(∀l,t<=l->os2.getD l 0=seg'.getD l 0)/\Nm.val (os2.take t)+4294967296^t*s=Nm.val (seg'.take t)+Nm.val (vs.take t)/\Own g w7 wr2) (fun _ i _=>m+2-(intOf i).toNat)
    case atStart=>exact⟨0,0,seg',Nat.zero_le _,rfl,rfl,by omega,HSL'.out,HSD'.out,HBO'.out,fun _ _=>rfl,by simp[Nm.val],Own.refl _ _⟩
    obtain⟨t,s,os2,ht,rfl,rfl,hs,hol2,hod2,hbo2,hsame,hv2,he2'⟩:=hrel;have HOL2:=zH hol2;have HOD2:=zH hod2;have HSM:=zH hsame;have HV2:=zH hv2;have HE47:=zH ((HOWN.out.ext he46 (by omega)));clear hol2 hod2 hsame hv2;by_cases htl:t<m+2
    · have c0:=(he2'.ext HE47.out (by omega)).get (HVC.out t htl)
      have hg2:=Nm.seg_get (post:=os.drop (kk+(m+2)+1)) HPRE.out (show t<os2.length by rw[HOL2.out];omega);have c2:=hbo2.cell (i:=kk+t) (by rw[List.length_append,List.length_append,HPRE.out,HOL2.out];omega);have f2:=hbo2.frozen (kk+t);rw[hg2,HSM.out t (Nat.le_refl _)]at c2;have b1:=HVS.out.1.getD t;have b2:=HSD'.out.getD t;have HR:=zH (Nm.add_round (by rw[HOL2.out];omega) HV2.out);have HSET:=zH (fun d=>Nm.seg_set (post:=os.drop (kk+(m+2)+1)) d HPRE.out (show t<os2.length by rw[HOL2.out];omega));generalize hgx:seg'.getD t 0=xx at c2 b2
      generalize hgy:vs.getD t 0=yy at c0 b1
      have HR2:=zH (HR.out xx yy hgx hgy);clear hgx hgy HR hg2;go_wp2_with fail
      go_roundw
      case rel=>
        refine⟨t+1,(s+(xx+yy))/4294967296,os2.set t ((s+(xx+yy))%4294967296),by omega,by go_num,int_eq (by omega),by omega,by rw[List.length_set];exact HOL2.out,HOD2.out.set _ (by omega),by rw[<-HSET.out];exact hbo2.setI (kk+t) _ (by rw[List.length_append,List.length_append,HPRE.out,HOL2.out];omega) (by omega),?_,HR2.out,he2'.set_at (kk+t) none _⟩;intro l hl;rw[Nm.getD_set_ne (by omega)];exact HSM.out l (by omega)
      case measure=>simp[intOf]<;>omega
    obtain rfl:t=m+2:=by omega
    have hg2:=Nm.seg_get (post:=os.drop (kk+(m+2)+1)) HPRE.out (show m+2<os2.length by rw[HOL2.out];omega);have c2:=hbo2.cell (i:=kk+(m+2)) (by rw[List.length_append,List.length_append,HPRE.out,HOL2.out];omega);have f2:=hbo2.frozen (kk+(m+2));rw[hg2,HSM.out (m+2) (Nat.le_refl _)]at c2;have b2:=HSD'.out.getD (m+2);have HSET:=zH (fun d=>Nm.seg_set (post:=os.drop (kk+(m+2)+1)) d HPRE.out (show m+2<os2.length by rw[HOL2.out];omega));have hv3:Nm.val (os2.take (m+2))+4294967296^(m+2)*s=Nm.val (seg'.take (m+2))+V0:=by
      have h:=HV2.out;rw[Nm.val_take_len (xs:=vs) (Nat.le_of_eq HVL.out),HVS.out.2]at h;exact h
    have hbk:=fun x (hx:seg'.getD (m+2) 0=x)=>Nm.back_last (os:=os2) (ss:=seg') (n:=m+2) HOL2.out HSL'.out HOD2.out hx hv3 HFIN.out.1.2 (Nat.lt_of_lt_of_le HFIN.out.2.1 (Nat.le_trans (Nat.le_of_lt HSH.out.1.2) (Nat.pow_le_pow_right (by omega) (by omega))))
    generalize hgx:seg'.getD (m+2) 0=xx at c2 b2
    have HBK:=zH (hbk xx hgx);clear hgx hbk hv3 hg2;have HQW:=zH (HBQ.out.own he2' (by omega));have c4:=HQW.out.cell (i:=kk) (by rw[HQL.out];omega);have f4:=HQW.out.frozen kk;have hne:g≠w5.heap.size:=by omega
    go_wp2_with fail
    have hqe:qh-1=Nm.val seg/V0:=by rw[HFIN.out.1.1,Nat.add_sub_cancel]
    go_roundw
    case rel=>
      refine⟨kk,os.take kk++(os2.set (m+2) ((xx+s)%4294967296)++os.drop (kk+(m+2)+1)),qs.set kk (qh-1),by omega,rfl,?_,(HOD.out.take _).append ((HOD2.out.set _ (by omega)).append (HOD.out.drop _)),?_,by rw[List.length_set];exact HQL.out,HQD.out.set _ (by omega),?_,?_,?_,?_,?_⟩
      · rw[List.length_append,List.length_append,HPRE.out,List.length_set,HOL2.out,List.length_drop,HOL.out];omega
      · rw[<-HSET.out]
        exact(hbo2.setI (kk+(m+2)) _ (by rw[List.length_append,List.length_append,HPRE.out,HOL2.out];omega) (by omega)).far (by show g≠w5.heap.size;omega) _
      · exact(HQW.out.far (by show w5.heap.size≠g;omega) _).setI kk _ (by omega)
      · intro l hl
        rw[Nm.getD_set_ne (by omega)];exact HQZ.out l (by omega)
      · exact Nm.step_lt (by rw[HOL.out];omega) HP.out.2.2 (by rw[HBK.out];exact HFIN.out.2.1)
      · exact Nm.div_step (by rw[HOL.out];omega) HSG.out.1 (by rw[List.length_set];exact HOL2.out) (by rw[HQL.out];omega) (HQZ.out kk (by omega)) HSUM.out (by rw[HBK.out,hqe];exact HFIN.out.2.2)
      exact((he2'.set_at (kk+(m+2)) none _).ext HE47.out (by omega)).setCell (HE5.out.size) _
    case measure=>simp[intOf]<;>omega
theorem divmod_any (u v:Value)(L a b:Nat)(w:World)(hu:NatIn L w u a)(hv:NatIn L w v b)(hL:L<=300000)(hb:b≠0):
    Calls Tryz.prog 101 #[u,v] w (RetDM (a/b) (a%b) w):=by
  by_cases hab:a<b
  · exact divmod_less u v L a b w hu hv hL hb hab
  by_cases hb1:b<4294967296
  · exact divmod_one u v L a b w hu hv hL hb hab hb1
  exact divmod_long u v L a b w hu hv hL hab (by omega)
theorem NatC.form {w:World}{v:Value}{n:Nat}(h:NatC w v n):∃p cap,v= .slice p (Nm.nl n) cap:=by
  obtain⟨p,cap,rfl,_⟩:=h;exact⟨p,cap,rfl⟩
theorem gcd_any (u v:Value)(L a b:Nat)(w:World)(hu:NatIn L w u a)(hv:NatIn L w v b)(hL:L<=300000):
    Calls Tryz.prog 99 #[u,v] w (RetC (a.gcd b) w):=by
  have hnb:=hv.nl;have hna:=hu.nl;have S1:=zH (normalize_any u L a w hu (by omega));have S2:=zH (fun w' (h:Ext w w')=>normalize_any v L b w' (hv.ext h) (by omega));clear hu hv;go_enter Tryz.func99,Tryz.ntmps99
  go_wp2_with fail
  refine S1.out.mono ?_;rintro e w1 ⟨u1,rfl,hx,he1⟩;go_wp2_with fail
  refine(S2.out w1 he1).mono ?_;rintro e w2 ⟨v1,rfl,hy,he2⟩;have HX:=zH (hx.ext he2);have HY:=zH hy;clear S1 S2 hx hy;go_wp2_with fail
  go_loopg [0,1] b (fun y u v wr=>∃x:Nat,NatC wr u x/\NatC wr v y/\x.gcd y=a.gcd b/\Nm.nl x<=L/\Nm.nl y<=L/\Ext w2 wr)
  case atStart=>exact⟨a,HX.out,HY.out,rfl,hna,hnb,Ext.refl _⟩
  obtain⟨x,hx,hy,hg,hlx,hly,he⟩:=hrel;have HG:=zH hg;clear hg;by_cases h0:gk=0
  · subst h0
    have HG0:=zH (show x=a.gcd b by rw[<-HG.out,Nat.gcd_zero_right]);obtain⟨p,cap,rfl⟩:=hy.form;rw[Nm.nl_zero];have HX2:=zH hx;clear hx hy;go_wp2_with fail
    go_ret
    refine⟨_,rfl,?_,he1.trans (he2.trans he)⟩;rw[<-HG0.out];exact HX2.out
  have HDM:=zH (divmod_any _ _ L x gk wr (hx.isIn hlx) (hy.isIn hly) hL h0);have hlt:=Nat.mod_lt x (show 0<gk by omega);have HLT:=zH hlt;have HGS:=zH (show gk.gcd (x%gk)=a.gcd b by rw[<-HG.out,Nat.gcd_comm x gk,Nat.gcd_rec gk x,Nat.gcd_comm]);have HNM:=zH (Nat.le_trans (Nm.nl_mono (Nat.le_of_lt hlt)) hly);have HYK:=zH hy;have hpos:0<Nm.nl gk:=by
    have:=Nm.nl_eq_zero (n:=gk);omega
  obtain⟨p,cap,rfl⟩:=hy.form;have HLY:=zH hly;clear hx hy hlt hly;generalize Nm.nl gk=l at HDM hpos HYK⊢
  go_wp2_with fail
  refine HDM.out.mono ?_;rintro e w3 ⟨qv,rv,rfl,hq,hr,he3⟩;have HR:=zH hr;clear hq hr;go_wp2_with fail
  go_roundg (x%gk)
  case measure=>exact HLT.out
  case rel=>exact⟨gk,HYK.out.ext he3,HR.out,HGS.out,HLY.out,HNM.out,he.trans he3⟩
def RetBL (n:Nat)(w:World)(e:Ending)(w':World):Prop:=∃k:Int,e= .returned (.int .i64 k)/\(k=0↔n=0)/\0<=k/\w=w'
theorem bitLen_any (u:Value)(L a:Nat)(w:World)(hu:NatIn L w u a)(hL:L<=300000):
    Calls Tryz.prog 105 #[u] w (RetBL a w):=by
  have hna:=hu.nl;obtain⟨xs0,hx0,hxv,hxl0⟩:=hu;have S1:=zH (short_any u xs0 w hx0 (by omega));rw[hxv]at S1;unfold RetQ at S1;clear hx0 hxv;by_cases h0:a=0
  · subst h0
    go_enter Tryz.func105,Tryz.ntmps105
    go_wp2_with fail
    refine S1.out.mono ?_;rintro e w1 ⟨u1,rfl,hx,rfl⟩;obtain⟨p,cap,rfl⟩:=hx.form;rw[Nm.nl_zero];go_wp2_with fail
    go_ret
    exact⟨0,rfl,by simp,Int.le_refl _,rfl⟩
  have HD:=zH (Nm.dg_digs a);have ht:=Nm.tight_digs a;obtain⟨m,hm⟩:∃m,(Nm.digs a).length=m+1:=by
    have:=Nm.nl_eq_zero (n:=a);unfold Nm.nl at this;exact⟨(Nm.digs a).length-1,by omega⟩
  have htop:(Nm.digs a).getD m 0≠0:=by
    have:=ht (by intro h;rw[h]at hm;cases hm);rw[List.getLast_eq_getElem]at this;rw[Nm.getD_eq (by omega)];simpa[hm]using this
  have hxt:=HD.out.getD m;have hml:m+1<=L:=by unfold Nm.nl at hna;omega
  clear ht;unfold NatC at S1;generalize hgx:(Nm.digs a).getD m 0=x at htop hxt
  obtain⟨l1,l2,_,_⟩:=Nm.bitLen_norm htop hxt;have HL:=zH (fun w=>bits_Len32 (x:Int) w (by omega) (by omega));rw[Int.toNat_natCast]at HL;generalize Lib.bitLen x=k at HL l1 l2
  have HGX:=zH hgx;have HM:=zH hm;have H0:=zH h0;clear hgx hm h0 hna;go_enter Tryz.func105,Tryz.ntmps105
  go_wp2_with fail
  refine S1.out.mono ?_;rintro e w1 ⟨u1,rfl,hx,rfl⟩;obtain⟨p,cap,rfl,hcap,_,hp⟩:=hx;rw[HM.out]at hp hcap⊢;obtain⟨b,o,rfl,hb⟩:=hp (by omega);have c0:=hb m (by omega);rw[HGX.out]at c0;clear hp hb S1;have g0:((m:Int)+1==0)=false:=beq_eq_false_iff_ne.2 (by omega);go_wp2_with fail
  refine(HL.out _).mono ?_;rintro e w2 ⟨rfl,rfl⟩;go_wp2_with fail
  go_ret
  refine⟨_,rfl,⟨fun h=> ?_,fun h=>absurd h H0.out⟩,?_,rfl⟩
  · omega
  omega
end
namespace Nm
def rl (q:Rat):Nat:=max (nl q.num.natAbs) (nl q.den)
theorem nl_div (a b:Nat):nl (a/b)<=nl a:=nl_mono (Nat.div_le_self a b)
theorem rl_divInt (a b:Int):rl (Rat.divInt a b)<=max (max (nl a.natAbs) (nl b.natAbs)) 1:=by
  unfold rl;rw[Rat.num_divInt,Rat.den_divInt];have h1:(b.sign*a/(b.gcd a:Int)).natAbs<=a.natAbs:=by
    refine Nat.le_trans (Int.natAbs_ediv_le_natAbs _ _) ?_;rw[Int.natAbs_mul];have:b.sign.natAbs<=1:=by
      rcases Int.lt_trichotomy b 0 with h|h|h
      · rw[Int.sign_eq_neg_one_of_neg h];decide
      · subst h;decide
      rw[Int.sign_eq_one_of_pos h];decide
    have:=Nat.mul_le_mul_right a.natAbs this;omega
  have h2:=nl_mono h1;by_cases hb:b=0
  · subst hb
    rw[if_pos rfl];have:=nl_one (n:=1) (by omega) (by omega);omega
  rw[if_neg hb];have:=nl_div b.natAbs (b.gcd a);omega
theorem nl_den_pos (q:Rat):1<=nl q.den:=by
  rcases Nat.eq_zero_or_pos (nl q.den)with h|h
  · exact absurd (nl_eq_zero.1 h) q.den_nz
  exact h
theorem rl_add (a b:Rat):rl (a+b)<=rl a+rl b+1:=by
  rw[Rat.add_def',<-Rat.divInt_ofNat];refine Nat.le_trans (rl_divInt _ _) ?_;have e1:=nl_mul a.den b.den;have e2:=nl_mono (Int.natAbs_add_le (a.num*b.den) (b.num*a.den));have e3:=nl_add (a.num*b.den).natAbs (b.num*a.den).natAbs;have e4:=nl_mul a.num.natAbs b.den;have e5:=nl_mul b.num.natAbs a.den;have e6:(a.num*(b.den:Int)).natAbs=a.num.natAbs*b.den:=by rw[Int.natAbs_mul];rfl
  have e7:(b.num*(a.den:Int)).natAbs=b.num.natAbs*a.den:=by rw[Int.natAbs_mul];rfl
  rw[e6,e7]at e3;rw[e6,e7]at e2;unfold rl;have:((a.den*b.den:Nat):Int).natAbs=a.den*b.den:=rfl;rw[this];omega
theorem rl_mul (a b:Rat):rl (a*b)<=rl a+rl b:=by
  rw[Rat.mul_def',<-Rat.divInt_ofNat];refine Nat.le_trans (rl_divInt _ _) ?_;have e1:=nl_mul a.den b.den;have e4:=nl_mul a.num.natAbs b.num.natAbs;rw[<-Int.natAbs_mul]at e4;have:=nl_den_pos a;unfold rl;have:((a.den*b.den:Nat):Int).natAbs=a.den*b.den:=rfl;rw[this];omega
theorem rl_neg (a:Rat):rl (-a)=rl a:=by
  unfold rl;rw[Rat.neg_num,Rat.neg_den,Int.natAbs_neg]
theorem rl_sub (a b:Rat):rl (a-b)<=rl a+rl b+1:=by
  rw[Rat.sub_eq_add_neg];have:=rl_add a (-b);rwa[rl_neg]at this
theorem rl_inv (a:Rat):rl a⁻¹<=rl a:=by
  rw[Rat.inv_def];refine Nat.le_trans (rl_divInt _ _) ?_;have:=nl_den_pos a;unfold rl;have:((a.den:Nat):Int).natAbs=a.den:=rfl;rw[this];omega
theorem rl_div (a b:Rat):rl (a/b)<=rl a+rl b:=by
  rw[Rat.div_def];have:=rl_mul a b⁻¹;have:=rl_inv b;omega
theorem mul_eq (a b:Rat):a*b=Rat.divInt (a.num*b.num) (a.den*b.den):=by
  rw[Rat.mul_def',<-Rat.divInt_ofNat];rfl
theorem add_eq (a b:Rat):a+b=Rat.divInt (a.num*b.den+b.num*a.den) (a.den*b.den):=by
  rw[Rat.add_def',<-Rat.divInt_ofNat];rfl
theorem sub_eq (a b:Rat):a-b=Rat.divInt (a.num*b.den-b.num*a.den) (a.den*b.den):=by
  rw[Rat.sub_def',<-Rat.divInt_ofNat];rfl
theorem ediv_neg_iff (a b:Int)(hb:0<b):a/b<0↔a<0:=by
  rw[Int.ediv_lt_iff_lt_mul hb,Int.zero_mul]
theorem num_of_pair (n d:Int)(hd:d≠0):(Rat.divInt n d).num.natAbs=n.natAbs/n.natAbs.gcd d.natAbs/\((Rat.divInt n d).num<0↔n.sign*d.sign<0):=by
  rw[Rat.num_divInt];have hg:(d.gcd n:Nat)=n.natAbs.gcd d.natAbs:=by unfold Int.gcd;exact Nat.gcd_comm _ _
  have hdvd:((d.gcd n:Nat):Int)∣d.sign*n:=Int.dvd_mul_of_dvd_right (Int.gcd_dvd_right ..);have hs:(d.sign*n).natAbs=n.natAbs:=by
    rw[Int.natAbs_mul];rcases Int.lt_or_gt_of_ne hd with h|h
    · rw[Int.sign_eq_neg_one_of_neg h];simp
    rw[Int.sign_eq_one_of_pos h];simp
  have hpos:0<d.gcd n:=Int.gcd_pos_of_ne_zero_left _ hd;constructor
  · rw[Int.natAbs_ediv_of_dvd hdvd,hs,hg];rfl
  have h1:d.sign*n/((d.gcd n:Nat):Int)<0↔d.sign*n<0:=ediv_neg_iff _ _ (by omega);rw[h1];rcases Int.lt_or_gt_of_ne hd with h|h
  · rw[Int.sign_eq_neg_one_of_neg h]
    rcases Int.lt_trichotomy n 0 with k|k|k
    · rw[Int.sign_eq_neg_one_of_neg k];omega
    · subst k;simp
    rw[Int.sign_eq_one_of_pos k];omega
  rw[Int.sign_eq_one_of_pos h];rcases Int.lt_trichotomy n 0 with k|k|k
  · rw[Int.sign_eq_neg_one_of_neg k];omega
  · subst k;simp
  rw[Int.sign_eq_one_of_pos k];omega
theorem den_of_pair (n d:Int)(hd:d≠0):(Rat.divInt n d).den=d.natAbs/n.natAbs.gcd d.natAbs:=by
  rw[Rat.den_divInt,if_neg hd];have hg:(d.gcd n:Nat)=n.natAbs.gcd d.natAbs:=by unfold Int.gcd;exact Nat.gcd_comm _ _
  rw[hg]
theorem rcmp_lt (a b:Rat):a<b↔a.num*b.den<b.num*a.den:=Rat.lt_iff a b
theorem rcmp_eq (a b:Rat):a=b↔a.num*b.den=b.num*a.den:=Rat.eq_iff_mul_eq_mul
end Nm
section
attribute [local go_sem ↓] Go.wp_at_zero Go.wp_at_succ run_max_ii run_min_ii
def sg (n:Bool)(a:Nat):Int:=if n=true then-(a:Int)else(a:Int)
theorem sg_abs (n:Bool)(a:Nat):(sg n a).natAbs=a:=by
  unfold sg;cases n<;>simp
theorem sg_false (a:Nat):sg false a=a:=rfl
theorem sg_true (a:Nat):sg true a= -(a:Int):=rfl
theorem sg_self (z:Int):sg (decide (z<0)) z.natAbs=z:=by
  unfold sg;by_cases h:z<0
  · rw[if_pos (by simpa using h)];omega
  rw[if_neg (by simpa using h)];omega
def IntIn (L:Nat)(w:World)(n:Bool)(v:Value)(z:Int):Prop:=∃a,NatIn L w v a/\z=sg n a
def IntC (w:World)(n:Bool)(v:Value)(z:Int):Prop:=n=decide (z<0)/\NatC w v z.natAbs
theorem IntIn.ext {L:Nat}{w w':World}{n:Bool}{v:Value}{z:Int}(h:IntIn L w n v z)(e:Ext w w'):IntIn L w' n v z:=by
  obtain⟨a,h1,h2⟩:=h;exact⟨a,h1.ext e,h2⟩
theorem IntC.ext {w w':World}{n:Bool}{v:Value}{z:Int}(h:IntC w n v z)(e:Ext w w'):IntC w' n v z:=⟨h.1,h.2.ext e⟩
theorem IntC.isIn {L:Nat}{w:World}{n:Bool}{v:Value}{z:Int}(h:IntC w n v z)(hl:Nm.nl z.natAbs<=L):IntIn L w n v z:=
  ⟨z.natAbs,h.2.isIn hl,by rw[h.1,sg_self]⟩
theorem IntIn.abs {L:Nat}{w:World}{n:Bool}{v:Value}{z:Int}(h:IntIn L w n v z):NatIn L w v z.natAbs/\z=sg n z.natAbs:=by
  obtain⟨a,h1,rfl⟩:=h;rw[sg_abs];exact⟨h1,rfl⟩
theorem IntIn.nl {L:Nat}{w:World}{n:Bool}{v:Value}{z:Int}(h:IntIn L w n v z):Nm.nl z.natAbs<=L:=h.abs.1.nl
theorem IntIn.mono {L M:Nat}{w:World}{n:Bool}{v:Value}{z:Int}(h:IntIn L w n v z)(hl:L<=M):IntIn M w n v z:=by
  obtain⟨a,h1,h2⟩:=h;exact⟨a,h1.mono hl,h2⟩
theorem IntC.form {w:World}{n:Bool}{v:Value}{z:Int}(h:IntC w n v z):∃p l cap,v= .slice p l cap:=by
  obtain⟨p,cap,rfl⟩:=h.2.form;exact⟨p,_,cap,rfl⟩
def RetI (z:Int)(w:World)(e:Ending)(w':World):Prop:=∃n v,e= .returned (.agg #[.bool n,v])/\IntC w' n v z/\Ext w w'
def NoU (cs:Array Value):Prop:=∀(i:Nat) (x:Int),cs[i]?≠some (.int .u32 x)
theorem noU2 (b:Bool)(p:Option Addr)(n c:Nat):NoU #[.bool b,.slice p n c]:=by
  intro i x;match i with
  |0=>simp
  |1=>simp
  |k+2=>simp
theorem noU4 (b:Bool)(p:Option Addr)(n c:Nat)(b':Bool)(p':Option Addr)(n' c':Nat):NoU #[.bool b,.slice p n c,.bool b',.slice p' n' c']:=by
  intro i x;match i with
  |0=>simp
  |1=>simp
  |2=>simp
  |3=>simp
  |k+4=>simp
theorem DigS.own {w w':World}{v:Value}{xs:List Nat}(h:DigS w v xs){g:Nat}{t:TypeId}{cs:Array Value}(hb:Blk w g t cs)(hn:NoU cs)(o:Own g w w'):DigS w' v xs:=by
  obtain⟨p,cap,rfl,hc,hd,hp⟩:=h;refine⟨p,cap,rfl,hc,hd,fun h0=> ?_⟩;obtain⟨b,off,rfl,hcl⟩:=hp h0;refine⟨b,off,rfl,fun i hi=> ?_⟩;have h1:=hcl i hi;have hne:b≠g:=by
    rintro rfl;rw[hb.cell]at h1;exact hn _ _ h1
  exact o.get h1 hne
theorem NatC.own {w w':World}{v:Value}{n:Nat}(h:NatC w v n){g:Nat}{t:TypeId}{cs:Array Value}(hb:Blk w g t cs)(hn:NoU cs)(o:Own g w w'):NatC w' v n:=DigS.own h hb hn o
theorem IntC.own {w w':World}{n:Bool}{v:Value}{z:Int}(h:IntC w n v z){g:Nat}{t:TypeId}{cs:Array Value}(hb:Blk w g t cs)(hn:NoU cs)(o:Own g w w'):IntC w' n v z:=⟨h.1,h.2.own hb hn o⟩
theorem newInt (w:World):∀w',Ext (w.alloc (.cells #[.bool false,.slice none 0 0] 28)) w'->w'.cell? ⟨w.heap.size,0,none⟩=some (.bool false)/\w'.cell? ⟨w.heap.size,1,none⟩=some (.slice none 0 0)/\w'.frozen? ⟨w.heap.size,0,none⟩=false/\w'.frozen? ⟨w.heap.size,1,none⟩=false:=fun w' h=>
  ⟨h.get (by simp),h.get (by simp),(h.frozen (by simp)).trans (World.frozen?_alloc_at _ _ _ _ (by simp)),(h.frozen (by simp)).trans (World.frozen?_alloc_at _ _ _ _ (by simp))⟩
theorem stored_int {w w1:World}{n:Bool}{v:Value}{z:Int}{u0 u1:Value}(he:Ext (w.alloc (.cells #[.bool false,.slice none 0 0] 28)) w1)(h:IntC w1 n v z):
    IntC ((w1.setCell ⟨w.heap.size,0,none⟩ u0).setCell ⟨w.heap.size,1,none⟩ u1) n v z/\Ext w ((w1.setCell ⟨w.heap.size,0,none⟩ u0).setCell ⟨w.heap.size,1,none⟩ u1):=
  ⟨h.own (Blk.ext (Blk.new w _ _) he) (noU2 _ _ _ _) (((Own.refl _ _).set_at 0 none _).set_at 1 none _),Ext.setCell (Ext.setCell (((Ext.refl _).alloc _).trans he) (Nat.le_refl _) _) (Nat.le_refl _) _⟩
theorem new_any (n:Bool)(v:Value)(L a:Nat)(w:World)(hv:NatIn L w v a)(hL:L<=1000000):
    Calls Tryz.prog 80 #[.bool n,v] w (RetI (sg n a) w):=by
  have HG:=zH (newInt w);have HN:=zH (normalize_any v L a _ (hv.ext ((Ext.refl w).alloc (.cells #[.bool false,.slice none 0 0] 28))) hL);have HA:=zH (sg_abs n a);have hfin:(n&&decide (0<Nm.nl a))=decide (sg n a<0):=by
    have:=Nm.nl_eq_zero (n:=a);rw[Bool.eq_iff_iff];cases n
    · simp[sg]
    simp[sg];omega
  have HF:=zH hfin;have hla:=hv.nl;clear hv hfin;generalize hl:Nm.nl a=l at hla HF
  have HL:=zH hl;clear hl;cases n
  · go_enter Tryz.func80,Tryz.ntmps80
    go_wp2_with fail
    refine HN.out.mono ?_;rintro e w1 ⟨v1,rfl,hc,he⟩;have HC:=zH hc;obtain⟨p,cap,rfl⟩:=hc.form;rw[HL.out]at HC⊢;have gk:=HG.out _ he;clear hc;go_wp2_with fail
    have st:=stored_int (u0:= .bool false) (u1:= .slice p l cap) he (show IntC w1 (decide (sg false a<0)) (.slice p l cap) (sg false a)from⟨rfl,by rw[HA.out];exact HC.out⟩);rw[<-HF.out]at st;refine bodyPost_ret (v:= .agg #[.bool false,.slice p l cap]) ?_ rfl ⟨_,_,rfl,st.1,st.2⟩;simp[results,Tryz.results80,go_sem, *]
  by_cases h0:0<l
  · go_enter Tryz.func80,Tryz.ntmps80
    go_wp2_with fail
    refine HN.out.mono ?_;rintro e w1 ⟨v1,rfl,hc,he⟩;have HC:=zH hc;obtain⟨p,cap,rfl⟩:=hc.form;rw[HL.out]at HC⊢;have gk:=HG.out _ he;clear hc;go_wp2_with fail
    have st:=stored_int (u0:= .bool true) (u1:= .slice p l cap) he (show IntC w1 (decide (sg true a<0)) (.slice p l cap) (sg true a)from⟨rfl,by rw[HA.out];exact HC.out⟩);rw[<-HF.out,show decide (0<l)=true by simpa using h0]at st;refine bodyPost_ret (v:= .agg #[.bool true,.slice p l cap]) ?_ rfl ⟨_,_,rfl,st.1,st.2⟩;simp[results,Tryz.results80,go_sem, *]
  obtain rfl:l=0:=by omega
  go_enter Tryz.func80,Tryz.ntmps80
  go_wp2_with fail
  refine HN.out.mono ?_;rintro e w1 ⟨v1,rfl,hc,he⟩;have HC:=zH hc;obtain⟨p,cap,rfl⟩:=hc.form;rw[HL.out]at HC⊢;have gk:=HG.out _ he;clear hc;go_wp2_with fail
  have st:=stored_int (u0:= .bool false) (u1:= .slice p 0 cap) he (show IntC w1 (decide (sg true a<0)) (.slice p 0 cap) (sg true a)from⟨rfl,by rw[HA.out];exact HC.out⟩);rw[<-HF.out]at st;refine bodyPost_ret (v:= .agg #[.bool false,.slice p 0 cap]) ?_ rfl ⟨_,_,rfl,st.1,st.2⟩;simp[results,Tryz.results80,go_sem, *]
theorem nl_i64 (n:Int)(h1: -9223372036854775808<=n)(h2:n<=9223372036854775807):Nm.nl n.natAbs<=2:=Nm.nl_le (by omega)
theorem fromInt_any (n:Int)(w:World)(h1: -9223372036854775808<=n)(h2:n<=9223372036854775807):
    Calls Tryz.prog 44 #[.int .i64 n] w (RetI n w):=by
  have HG:=zH (newInt w);have HU:=zH (fun(W:World) (x:Int) (hx:x=(n.natAbs:Int))=>(show Calls Tryz.prog 81 #[.int .u64 x] W (RetC n.natAbs W)by subst hx;exact fromU_any n.natAbs W (by omega)));have HL:=zH (nl_i64 n h1 h2);have HR:=zH (And.intro h1 h2);clear h1 h2;by_cases hn:n<0
  · have HN:=zH (fun W v (h:NatC W v n.natAbs)=>new_any true v 2 n.natAbs W (h.isIn HL.out) (by omega))
    rw[sg_true,show-(n.natAbs:Int)=n by omega]at HN;go_enter Tryz.func44,Tryz.ntmps44
    go_wp2_with fail
    refine(HU.out _ _ ?_).mono ?_
    · have:=HR.out
      simp only[IntKind.wrap_u64];omega
    rintro e w1 ⟨v1,rfl,hc,he1⟩;have HC:=zH hc;clear hc;go_wp2_with fail
    refine(HN.out _ _ HC.out).mono ?_;rintro e w2 ⟨b,v2,rfl,hc2,he2⟩;have gk:=HG.out _ (he1.trans he2);have HC2:=zH hc2;obtain⟨p,l2,cap,rfl⟩:=hc2.form;clear hc2;go_wp2_with fail
    have st:=stored_int (u0:= .bool b) (u1:= .slice p l2 cap) (he1.trans he2) HC2.out;refine bodyPost_ret (v:= .agg #[.bool b,.slice p l2 cap]) ?_ rfl ⟨_,_,rfl,st.1,st.2⟩;simp[results,Tryz.results44,go_sem, *]
  have HN:=zH (fun W v (h:NatC W v n.natAbs)=>new_any false v 2 n.natAbs W (h.isIn HL.out) (by omega));rw[sg_false,show(n.natAbs:Int)=n by omega]at HN;go_enter Tryz.func44,Tryz.ntmps44
  go_wp2_with fail
  refine(HU.out _ _ ?_).mono ?_
  · have:=HR.out
    first|omega|(simp only[IntKind.wrap_u64];omega)
  rintro e w1 ⟨v1,rfl,hc,he1⟩;have HC:=zH hc;clear hc;go_wp2_with fail
  refine(HN.out _ _ HC.out).mono ?_;rintro e w2 ⟨b,v2,rfl,hc2,he2⟩;have gk:=HG.out _ (he1.trans he2);have HC2:=zH hc2;obtain⟨p,l2,cap,rfl⟩:=hc2.form;clear hc2;go_wp2_with fail
  have st:=stored_int (u0:= .bool b) (u1:= .slice p l2 cap) (he1.trans he2) HC2.out;refine bodyPost_ret (v:= .agg #[.bool b,.slice p l2 cap]) ?_ rfl ⟨_,_,rfl,st.1,st.2⟩;simp[results,Tryz.results44,go_sem, *]
theorem IntIn.form {L:Nat}{w:World}{n:Bool}{v:Value}{z:Int}(h:IntIn L w n v z):∃p l cap,v= .slice p l cap:=by
  obtain⟨a,⟨xs,⟨p,cap,rfl,_⟩,_⟩,_⟩:=h;exact⟨p,xs.length,cap,rfl⟩
theorem sign_any (n:Bool)(v:Value)(L:Nat)(z:Int)(w:World)(h:IntIn L w n v z)(hL:L<=300000):
    Calls Tryz.prog 79 #[.agg #[.bool n,v]] w fun e w'=>e= .returned (.int .i64 z.sign)/\Ext w w':=by
  obtain⟨ha,hz⟩:=h.abs;have HB:=zH (bitLen_any v L z.natAbs _ (ha.ext ((Ext.refl w).alloc (.cells #[.bool n,v] 28))) hL);have HZ:=zH hz;obtain⟨p,l,cap,rfl⟩:=h.form;clear h ha hz;go_enter Tryz.func79,Tryz.ntmps79
  go_wp2_with fail
  refine HB.out.mono ?_;rintro e w1 ⟨k,rfl,hk,hk0,rfl⟩;by_cases h0:k=0
  · have h1:=hk.1 h0
    have HS:=zH (show z.sign=0 by rw[Int.natAbs_eq_zero.1 h1];rfl);subst h0;clear hk h1;go_wp2_with fail
    go_ret
    exact⟨ret_int HS.out.symm,(Ext.refl _).alloc _⟩
  have h1:¬z.natAbs=0:=fun h=>h0 (hk.2 h)
  have g0:(k==0)=false:=beq_eq_false_iff_ne.2 h0;clear hk;cases n
  · have HS:=zH (show z.sign=1 by
      apply Int.sign_eq_one_of_pos;have:=HZ.out;rw[sg_false]at this;omega)
    clear h1 h0;go_wp2_with fail
    go_ret
    exact⟨ret_int HS.out.symm,(Ext.refl _).alloc _⟩
  have HS:=zH (show z.sign= -1 by
    apply Int.sign_eq_neg_one_of_neg;have:=HZ.out;rw[sg_true]at this;omega)
  clear h1 h0;go_wp2_with fail
  go_ret
  exact⟨ret_int HS.out.symm,(Ext.refl _).alloc _⟩
theorem neg_any (n:Bool)(v:Value)(L:Nat)(z:Int)(w:World)(h:IntIn L w n v z)(hL:L<=300000):
    Calls Tryz.prog 103 #[.agg #[.bool n,v]] w (RetI (-z) w):=by
  obtain⟨ha,hz⟩:=h.abs;obtain⟨p,l,cap,rfl⟩:=h.form;have HG:=zH (newInt (w.alloc (.cells #[.bool n,.slice p l cap] 28)));have hz2:sg (!n) z.natAbs= -z:=by
    cases n
    · rw[sg_false]at hz;rw[Bool.not_false,sg_true];omega
    rw[sg_true]at hz;rw[Bool.not_true,sg_false];omega
  have hN:=new_any (!n) (.slice p l cap) L z.natAbs _ (ha.ext (((Ext.refl w).alloc (.cells #[.bool n,.slice p l cap] 28)).alloc (.cells #[.bool false,.slice none 0 0] 28))) (by omega);rw[hz2]at hN;have HN:=zH hN;clear h ha hz hz2 hN;go_enter Tryz.func103,Tryz.ntmps103
  go_wp2_with fail
  refine HN.out.mono ?_;rintro e w2 ⟨b,v2,rfl,hc2,he2⟩;have gk:=HG.out _ he2;simp only[World.size_alloc]at gk;have HC2:=zH hc2;obtain⟨p2,l2,cap2,rfl⟩:=hc2.form;clear hc2;go_wp2_with fail
  have st:=stored_int (u0:= .bool b) (u1:= .slice p2 l2 cap2) he2 HC2.out;simp only[World.size_alloc]at st;refine bodyPost_ret (v:= .agg #[.bool b,.slice p2 l2 cap2]) ?_ rfl ⟨_,_,rfl,st.1,((Ext.refl _).alloc _).trans st.2⟩;simp[results,Tryz.results103,go_sem, *]
theorem sg_mul (n m:Bool)(a b:Nat):sg (n != m) (a*b)=sg n a*sg m b:=by
  cases n<;>cases m<;>simp[sg,Int.neg_mul,Int.mul_neg]
theorem imul_any (n m:Bool)(u v:Value)(L:Nat)(y z:Int)(w:World)(hu:IntIn L w n u y)(hv:IntIn L w m v z)(hL:L<=150000):
    Calls Tryz.prog 74 #[.agg #[.bool n,u],.agg #[.bool m,v]] w (RetI (y*z) w):=by
  obtain⟨ha,hy⟩:=hu.abs;obtain⟨hb,hz⟩:=hv.abs;have hla:=ha.nl;have hlb:=hb.nl;obtain⟨p,l,cp,rfl⟩:=hu.form;obtain⟨q,k,cq,rfl⟩:=hv.form;have H1:=zH (fun W (h:Ext ((w.alloc (.cells #[.bool n,.slice p l cp] 28)).alloc (.cells #[.bool m,.slice q k cq] 28)) W)=>mul_any _ _ L y.natAbs z.natAbs W (ha.ext ((((Ext.refl w).alloc _).alloc _).trans h)) (hb.ext ((((Ext.refl w).alloc _).alloc _).trans h)) (by omega));have hn:=fun W t (h:NatC W t (y.natAbs*z.natAbs))=>new_any (n != m) t (2*L) (y.natAbs*z.natAbs) W (h.isIn (by have:=Nm.nl_mul y.natAbs z.natAbs;omega)) (by omega)
  rw[sg_mul,<-hy,<-hz]at hn;have HG:=zH (newInt ((w.alloc (.cells #[.bool n,.slice p l cp] 28)).alloc (.cells #[.bool m,.slice q k cq] 28)));have g:∀w',Ext ((w.alloc (.cells #[.bool n,.slice p l cp] 28)).alloc (.cells #[.bool m,.slice q k cq] 28)) w'->
      w'.cell? ⟨w.heap.size,0,none⟩=some (.bool n)/\w'.cell? ⟨w.heap.size,1,none⟩=some (.slice p l cp)/\w'.cell? ⟨w.heap.size+1,0,none⟩=some (.bool m)/\w'.cell? ⟨w.heap.size+1,1,none⟩=some (.slice q k cq):=fun w' h=>
    ⟨h.get (by simp),h.get (by simp),h.get (by simp),h.get (by simp)⟩
  have HST:=zH (fun w1 b t u0 u1=>stored_int (w:=((w.alloc (.cells #[.bool n,.slice p l cp] 28)).alloc (.cells #[.bool m,.slice q k cq] 28))) (w1:=w1) (n:=b) (v:=t) (z:=y*z) (u0:=u0) (u1:=u1));clear hu hv ha hb hy hz hla hlb;have HN:=zH (fun W t x (hx:x=(n != m)) (h:NatC W t (y.natAbs*z.natAbs))=>(show Calls Tryz.prog 80 #[.bool x,t] W (RetI (y*z) W)by subst hx;exact hn W t h));clear hn;go_enter Tryz.func74,Tryz.ntmps74
  go_wp2_with fail
  go_region_held3 (fun w'=>Ext ((w.alloc (.cells #[.bool n,.slice p l cp] 28)).alloc (.cells #[.bool m,.slice q k cq] 28)) w') (first|assumption|exact Ext.drew (Ext.alloc (Ext.refl _) _)|(apply Ext.via;assumption;assumption)|(refine Ext.setCell (Ext.setCell ?_ (by simp) _) (by simp) _;assumption))
    (first|(go_at_call 102;refine(H1.out _ (by assumption)).mono ?_;rintro e w1 ⟨v1,rfl,hc,he1⟩)|(go_at_call 80;refine(HN.out _ _ _ (by cases n<;>cases m<;>rfl) hc).mono ?_;rintro e w2 ⟨b,v2,rfl,hc2,he2⟩;obtain⟨p2,l2,cap2,rfl⟩:=hc2.form;have gk:=HG.out _ (Ext.trans (Ext.trans (Ext.drew (Ext.refl _)) he1) he2);simp only[World.size_alloc]at gk))
  go_wp2_with fail
  have st:=HST.out _ _ _ (.bool b) (.slice p2 l2 cap2) (Ext.trans (Ext.trans (Ext.drew (Ext.refl _)) he1) he2) hc2;simp only[World.size_alloc]at st;refine bodyPost_ret (v:= .agg #[.bool b,.slice p2 l2 cap2]) ?_ rfl ⟨_,_,rfl,st.1,(((Ext.refl _).alloc _).alloc _).trans st.2⟩;simp[results,Tryz.results74,go_sem, *]
theorem sg_add_same (n:Bool)(a b:Nat):sg n (a+b)=sg n a+sg n b:=by
  cases n<;>simp[sg];omega
theorem sg_add_ge {n m:Bool}{a b:Nat}(h:n≠m)(hab:b<=a):sg n (a-b)=sg n a+sg m b:=by
  cases n<;>cases m<;>simp[sg]at h⊢<;>omega
theorem sg_add_lt {n m:Bool}{a b:Nat}(h:n≠m)(hab:a<=b):sg m (b-a)=sg n a+sg m b:=by
  cases n<;>cases m<;>simp[sg]at h⊢<;>omega
theorem iadd_any (n m:Bool)(u v:Value)(L:Nat)(y z:Int)(w:World)(hu:IntIn L w n u y)(hv:IntIn L w m v z)(hL:L<=150000):
    Calls Tryz.prog 82 #[.agg #[.bool n,u],.agg #[.bool m,v]] w (RetI (y+z) w):=by
  obtain⟨ha,hy⟩:=hu.abs;obtain⟨hb,hz⟩:=hv.abs;have hla:=ha.nl;have hlb:=hb.nl;obtain⟨p,l,cp,rfl⟩:=hu.form;obtain⟨q,k,cq,rfl⟩:=hv.form;have HA:=zH (fun W (h:Ext ((w.alloc (.cells #[.bool n,.slice p l cp] 28)).alloc (.cells #[.bool m,.slice q k cq] 28)) W)=>ha.ext ((((Ext.refl w).alloc _).alloc _).trans h));have HB:=zH (fun W (h:Ext ((w.alloc (.cells #[.bool n,.slice p l cp] 28)).alloc (.cells #[.bool m,.slice q k cq] 28)) W)=>hb.ext ((((Ext.refl w).alloc _).alloc _).trans h));have HG:=zH (newInt ((w.alloc (.cells #[.bool n,.slice p l cp] 28)).alloc (.cells #[.bool m,.slice q k cq] 28)));have g:∀w',Ext ((w.alloc (.cells #[.bool n,.slice p l cp] 28)).alloc (.cells #[.bool m,.slice q k cq] 28)) w'->
      w'.cell? ⟨w.heap.size,0,none⟩=some (.bool n)/\w'.cell? ⟨w.heap.size,1,none⟩=some (.slice p l cp)/\w'.cell? ⟨w.heap.size+1,0,none⟩=some (.bool m)/\w'.cell? ⟨w.heap.size+1,1,none⟩=some (.slice q k cq):=fun w' h=>
    ⟨h.get (by simp),h.get (by simp),h.get (by simp),h.get (by simp)⟩
  have HST:=zH (fun w1 b t u0 u1=>stored_int (w:=((w.alloc (.cells #[.bool n,.slice p l cp] 28)).alloc (.cells #[.bool m,.slice q k cq] 28))) (w1:=w1) (n:=b) (v:=t) (z:=y+z) (u0:=u0) (u1:=u1));clear hu hv ha hb;by_cases hnm:n=m
  · subst hnm
    have H1:=zH (fun W h=>add_any _ _ L y.natAbs z.natAbs W (HA.out W h) (HB.out W h) (by omega));have hn:=fun W t (h:NatC W t (y.natAbs+z.natAbs))=>new_any n t (L+1) (y.natAbs+z.natAbs) W (h.isIn (by have:=Nm.nl_add y.natAbs z.natAbs;omega)) (by omega)
    rw[sg_add_same,<-hy,<-hz]at hn;have HN:=zH hn;clear hn hy hz hla hlb;go_enter Tryz.func82,Tryz.ntmps82
    go_wp2_with fail
    go_region_held3 (fun w'=>Ext ((w.alloc (.cells #[.bool n,.slice p l cp] 28)).alloc (.cells #[.bool n,.slice q k cq] 28)) w') (first|assumption|exact Ext.drew (Ext.alloc (Ext.refl _) _)|(apply Ext.via;assumption;assumption)|(refine Ext.setCell (Ext.setCell ?_ (by simp) _) (by simp) _;assumption))
      (first|(go_at_call 107;refine(H1.out _ (by assumption)).mono ?_;rintro e w1 ⟨v1,rfl,hc,he1⟩)|(go_at_call 80;refine(HN.out _ _ hc).mono ?_;rintro e w2 ⟨b,v2,rfl,hc2,he2⟩;obtain⟨p2,l2,cap2,rfl⟩:=hc2.form;have gk:=HG.out _ (Ext.trans (Ext.trans (Ext.drew (Ext.refl _)) he1) he2);simp only[World.size_alloc]at gk))
    go_wp2_with fail
    have st:=HST.out _ _ _ (.bool b) (.slice p2 l2 cap2) (Ext.trans (Ext.trans (Ext.drew (Ext.refl _)) he1) he2) hc2;simp only[World.size_alloc]at st;refine bodyPost_ret (v:= .agg #[.bool b,.slice p2 l2 cap2]) ?_ rfl ⟨_,_,rfl,st.1,(((Ext.refl _).alloc _).alloc _).trans st.2⟩;simp[results,Tryz.results82,go_sem, *]
  have bnm:(n==m)=false:=by simpa using hnm
  have HNM:=zH hnm;clear hnm;have hE0:Ext ((w.alloc (.cells #[.bool n,.slice p l cp] 28)).alloc (.cells #[.bool m,.slice q k cq] 28)) (((w.alloc (.cells #[.bool n,.slice p l cp] 28)).alloc (.cells #[.bool m,.slice q k cq] 28)).alloc (.cells #[.bool false,.slice none 0 0] 28)):=(Ext.refl _).alloc _;have HE0:=zH hE0;have H1:=zH (sub_any _ _ L y.natAbs z.natAbs _ (HA.out _ hE0) (HB.out _ hE0) (by omega));have H2:=zH (fun W h=>sub_any _ _ L z.natAbs y.natAbs W (HB.out W h) (HA.out W h) (by omega));clear hE0;by_cases hab:z.natAbs<=y.natAbs
  · have hn:=fun W t (h:NatC W t (y.natAbs-z.natAbs))=>new_any n t L (y.natAbs-z.natAbs) W (h.isIn (Nat.le_trans (Nm.nl_mono (Nat.sub_le _ _)) hla)) (by omega)
    rw[sg_add_ge HNM.out hab,<-hy,<-hz]at hn;have HN:=zH hn;have HAB:=zH hab;clear hn hy hz hla hlb hab;go_enter Tryz.func82,Tryz.ntmps82
    go_wp2_with fail
    refine H1.out.mono ?_;rintro e w1 (⟨_,v1,rfl,hc,he1⟩|⟨hlt,_,_⟩)
    · have HC:=zH hc
      have gw:=g _ (HE0.out.trans he1);clear hc;go_wp2_with fail
      refine(HN.out _ _ HC.out).mono ?_;rintro e w2 ⟨b,v2,rfl,hc2,he2⟩;have HC2:=zH hc2;obtain⟨p2,l2,cap2,rfl⟩:=hc2.form;clear hc2;have gk:=HG.out _ (he1.trans he2);simp only[World.size_alloc]at gk;go_wp2_with fail
      have st:=HST.out _ _ _ (.bool b) (.slice p2 l2 cap2) (he1.trans he2) HC2.out;simp only[World.size_alloc]at st;refine bodyPost_ret (v:= .agg #[.bool b,.slice p2 l2 cap2]) ?_ rfl ⟨_,_,rfl,st.1,(((Ext.refl _).alloc _).alloc _).trans st.2⟩;simp[results,Tryz.results82,go_sem, *]
    exact absurd HAB.out (Nat.not_le_of_lt hlt)
  have hn:=fun W t (h:NatC W t (z.natAbs-y.natAbs))=>new_any m t L (z.natAbs-y.natAbs) W (h.isIn (Nat.le_trans (Nm.nl_mono (Nat.sub_le _ _)) hlb)) (by omega)
  rw[sg_add_lt HNM.out (by omega),<-hy,<-hz]at hn;have HN:=zH hn;have HAB:=zH hab;clear hn hy hz hla hlb hab;go_enter Tryz.func82,Tryz.ntmps82
  go_wp2_with fail
  refine H1.out.mono ?_;rintro e w1 (⟨hle,_⟩|⟨hlt,rfl,he1⟩)
  · exact absurd hle HAB.out
  have gw:=g _ (HE0.out.trans he1);have H2b:=zH (H2.out _ (HE0.out.trans he1));have HLT:=zH hlt;clear hlt;go_wp2_with fail
  refine H2b.out.mono ?_;rintro e w2 (⟨_,v1,rfl,hc,he2⟩|⟨hlt2,_,_⟩)
  · have HC:=zH hc
    have gw2:=g _ ((HE0.out.trans he1).trans he2);clear hc gw;go_wp2_with fail
    refine(HN.out _ _ HC.out).mono ?_;rintro e w3 ⟨b,v2,rfl,hc2,he3⟩;have HC2:=zH hc2;obtain⟨p2,l2,cap2,rfl⟩:=hc2.form;clear hc2;have gk:=HG.out _ ((he1.trans he2).trans he3);simp only[World.size_alloc]at gk;go_wp2_with fail
    have st:=HST.out _ _ _ (.bool b) (.slice p2 l2 cap2) ((he1.trans he2).trans he3) HC2.out;simp only[World.size_alloc]at st;refine bodyPost_ret (v:= .agg #[.bool b,.slice p2 l2 cap2]) ?_ rfl ⟨_,_,rfl,st.1,(((Ext.refl _).alloc _).alloc _).trans st.2⟩;simp[results,Tryz.results82,go_sem, *]
  exact absurd (Nat.le_of_lt HLT.out) (Nat.not_le_of_lt hlt2)
theorem isub_any (n m:Bool)(u v:Value)(L:Nat)(y z:Int)(w:World)(hu:IntIn L w n u y)(hv:IntIn L w m v z)(hL:L<=150000):
    Calls Tryz.prog 75 #[.agg #[.bool n,u],.agg #[.bool m,v]] w (RetI (y-z) w):=by
  have hlz:=hv.nl;obtain⟨p,l,cp,rfl⟩:=hu.form;obtain⟨q,k,cq,rfl⟩:=hv.form;have HA:=zH (fun W (h:Ext ((w.alloc (.cells #[.bool n,.slice p l cp] 28)).alloc (.cells #[.bool m,.slice q k cq] 28)) W)=>hu.ext ((((Ext.refl w).alloc _).alloc _).trans h));have HB:=zH (fun W (h:Ext ((w.alloc (.cells #[.bool n,.slice p l cp] 28)).alloc (.cells #[.bool m,.slice q k cq] 28)) W)=>hv.ext ((((Ext.refl w).alloc _).alloc _).trans h));have HG:=zH (newInt ((w.alloc (.cells #[.bool n,.slice p l cp] 28)).alloc (.cells #[.bool m,.slice q k cq] 28)));have g:∀w',Ext ((w.alloc (.cells #[.bool n,.slice p l cp] 28)).alloc (.cells #[.bool m,.slice q k cq] 28)) w'->
      w'.cell? ⟨w.heap.size,0,none⟩=some (.bool n)/\w'.cell? ⟨w.heap.size,1,none⟩=some (.slice p l cp)/\w'.cell? ⟨w.heap.size+1,0,none⟩=some (.bool m)/\w'.cell? ⟨w.heap.size+1,1,none⟩=some (.slice q k cq):=fun w' h=>
    ⟨h.get (by simp),h.get (by simp),h.get (by simp),h.get (by simp)⟩
  have HST:=zH (fun w1 b t u0 u1=>stored_int (w:=((w.alloc (.cells #[.bool n,.slice p l cp] 28)).alloc (.cells #[.bool m,.slice q k cq] 28))) (w1:=w1) (n:=b) (v:=t) (z:=y-z) (u0:=u0) (u1:=u1));have H1:=zH (fun W h=>neg_any _ _ L z W (HB.out W h) (by omega));have H2:=zH (fun W b t h (hc:IntC W b t (-z))=>(show Calls Tryz.prog 82 #[.agg #[.bool n,.slice p l cp],.agg #[.bool b,t]] W (RetI (y-z) W)by
    rw[Int.sub_eq_add_neg];exact iadd_any _ _ _ _ L y (-z) W (HA.out W h) (hc.isIn (by rw[Int.natAbs_neg];exact hlz)) hL))
  clear hu hv hlz;go_enter Tryz.func75,Tryz.ntmps75
  go_wp2_with fail
  go_region_held3 (fun w'=>Ext ((w.alloc (.cells #[.bool n,.slice p l cp] 28)).alloc (.cells #[.bool m,.slice q k cq] 28)) w') (first|assumption|exact Ext.drew (Ext.alloc (Ext.refl _) _)|(apply Ext.via;assumption;assumption)|(refine Ext.setCell (Ext.setCell ?_ (by simp) _) (by simp) _;assumption))
    (first|(go_at_call 103;refine(H1.out _ (by assumption)).mono ?_;rintro e w1 ⟨b1,v1,rfl,hc,he1⟩)|(go_at_call 82;refine(H2.out _ _ _ (by assumption) hc).mono ?_;rintro e w2 ⟨b,v2,rfl,hc2,he2⟩;obtain⟨p2,l2,cap2,rfl⟩:=hc2.form;have gk:=HG.out _ (Ext.trans (Ext.trans (Ext.drew (Ext.refl _)) he1) he2);simp only[World.size_alloc]at gk))
  go_wp2_with fail
  have st:=HST.out _ _ _ (.bool b) (.slice p2 l2 cap2) (Ext.trans (Ext.trans (Ext.drew (Ext.refl _)) he1) he2) hc2;simp only[World.size_alloc]at st;refine bodyPost_ret (v:= .agg #[.bool b,.slice p2 l2 cap2]) ?_ rfl ⟨_,_,rfl,st.1,(((Ext.refl _).alloc _).alloc _).trans st.2⟩;simp[results,Tryz.results75,go_sem, *]
theorem nl_sub_int (y z:Int)(L:Nat)(h1:Nm.nl y.natAbs<=L)(h2:Nm.nl z.natAbs<=L):Nm.nl (y-z).natAbs<=L+1:=by
  have:=Nm.nl_mono (show(y-z).natAbs<=y.natAbs+z.natAbs by omega);have:=Nm.nl_add y.natAbs z.natAbs;omega
theorem nl_add_int (y z:Int)(L:Nat)(h1:Nm.nl y.natAbs<=L)(h2:Nm.nl z.natAbs<=L):Nm.nl (y+z).natAbs<=L+1:=by
  have:=Nm.nl_mono (show(y+z).natAbs<=y.natAbs+z.natAbs by omega);have:=Nm.nl_add y.natAbs z.natAbs;omega
theorem nl_mul_int (y z:Int)(L M:Nat)(h1:Nm.nl y.natAbs<=L)(h2:Nm.nl z.natAbs<=M):Nm.nl (y*z).natAbs<=L+M:=by
  rw[Int.natAbs_mul];have:=Nm.nl_mul y.natAbs z.natAbs;omega
theorem icmp_any (n m:Bool)(u v:Value)(L:Nat)(y z:Int)(w:World)(hu:IntIn L w n u y)(hv:IntIn L w m v z)(hL:L<=150000):
    Calls Tryz.prog 43 #[.agg #[.bool n,u],.agg #[.bool m,v]] w (RetCmp (y-z).sign w):=by
  have hls:=nl_sub_int y z L hu.nl hv.nl;obtain⟨p,l,cp,rfl⟩:=hu.form;obtain⟨q,k,cq,rfl⟩:=hv.form;have H1:=zH (isub_any _ _ _ _ L y z _ (hu.ext (((Ext.refl w).alloc (.cells #[.bool n,.slice p l cp] 28)).alloc (.cells #[.bool m,.slice q k cq] 28))) (hv.ext (((Ext.refl w).alloc (.cells #[.bool n,.slice p l cp] 28)).alloc (.cells #[.bool m,.slice q k cq] 28))) hL);have H2:=zH (fun W b t (hc:IntC W b t (y-z))=>sign_any b t (L+1) (y-z) W (hc.isIn hls) (by omega));clear hu hv hls;go_enter Tryz.func43,Tryz.ntmps43
  go_wp2_with fail
  refine H1.out.mono ?_;rintro e w1 ⟨b,t,rfl,hc,he1⟩;have HC:=zH hc;clear hc;go_wp2_with fail
  refine(H2.out _ _ _ HC.out).mono ?_;rintro e w2 ⟨rfl,he2⟩;go_wp2_with fail
  go_ret
  exact⟨rfl,((((Ext.refl _).alloc _).alloc _).trans he1).trans he2⟩
def RatIn (L:Nat)(w:World)(n:Bool)(u:Value)(m:Bool)(v:Value)(q:Rat):Prop:=∃y z,IntIn L w n u y/\IntIn L w m v z/\q=Rat.divInt y z
def RatC (w:World)(n:Bool)(u:Value)(m:Bool)(v:Value)(q:Rat):Prop:=IntC w n u q.num/\IntC w m v (q.den:Int)
theorem RatIn.ext {L:Nat}{w w':World}{n m:Bool}{u v:Value}{q:Rat}(h:RatIn L w n u m v q)(e:Ext w w'):RatIn L w' n u m v q:=by
  obtain⟨y,z,h1,h2,h3⟩:=h;exact⟨y,z,h1.ext e,h2.ext e,h3⟩
theorem RatC.ext {w w':World}{n m:Bool}{u v:Value}{q:Rat}(h:RatC w n u m v q)(e:Ext w w'):RatC w' n u m v q:=⟨h.1.ext e,h.2.ext e⟩
theorem RatC.own {w w':World}{n m:Bool}{u v:Value}{q:Rat}(h:RatC w n u m v q){g:Nat}{t:TypeId}{cs:Array Value}(hb:Blk w g t cs)(hn:NoU cs)(o:Own g w w'):RatC w' n u m v q:=⟨h.1.own hb hn o,h.2.own hb hn o⟩
theorem RatC.isIn {L:Nat}{w:World}{n m:Bool}{u v:Value}{q:Rat}(h:RatC w n u m v q)(hl:Nm.rl q<=L):RatIn L w n u m v q:=by
  unfold Nm.rl at hl;exact⟨q.num,q.den,h.1.isIn (by omega),h.2.isIn (by rw[Int.natAbs_natCast];omega),(Rat.num_divInt_den q).symm⟩
theorem RatIn.form {L:Nat}{w:World}{n m:Bool}{u v:Value}{q:Rat}(h:RatIn L w n u m v q):∃p l c p' l' c',u= .slice p l c/\v= .slice p' l' c':=by
  obtain⟨y,z,h1,h2,h3⟩:=h;obtain⟨p,l,c,rfl⟩:=h1.form;obtain⟨p',l',c',rfl⟩:=h2.form;exact⟨p,l,c,p',l',c',rfl,rfl⟩
theorem RatC.form {w:World}{n m:Bool}{u v:Value}{q:Rat}(h:RatC w n u m v q):∃p l c p' l' c',u= .slice p l c/\v= .slice p' l' c':=by
  obtain⟨p,l,c,rfl⟩:=h.1.form;obtain⟨p',l',c',rfl⟩:=h.2.form;exact⟨p,l,c,p',l',c',rfl,rfl⟩
theorem RatIn.rl {L:Nat}{w:World}{n m:Bool}{u v:Value}{q:Rat}(h:RatIn L w n u m v q):Nm.rl q<=max L 1:=by
  obtain⟨y,z,h1,h2,rfl⟩:=h;have:=Nm.rl_divInt y z;have:=h1.nl;have:=h2.nl;omega
def RetR (q:Rat)(w:World)(e:Ending)(w':World):Prop:=∃n u m v,e= .returned (.agg #[.bool n,u,.bool m,v])/\RatC w' n u m v q/\Ext w w'
theorem newRat (w:World):∀w',Ext (w.alloc (.cells #[.bool false,.slice none 0 0,.bool false,.slice none 0 0] 30)) w'->
    w'.cell? ⟨w.heap.size,0,none⟩=some (.bool false)/\w'.cell? ⟨w.heap.size,1,none⟩=some (.slice none 0 0)/\w'.cell? ⟨w.heap.size,2,none⟩=some (.bool false)/\w'.cell? ⟨w.heap.size,3,none⟩=some (.slice none 0 0)/\
    w'.frozen? ⟨w.heap.size,0,none⟩=false/\w'.frozen? ⟨w.heap.size,1,none⟩=false/\w'.frozen? ⟨w.heap.size,2,none⟩=false/\w'.frozen? ⟨w.heap.size,3,none⟩=false:=fun w' h=>
  ⟨h.get (by simp),h.get (by simp),h.get (by simp),h.get (by simp),(h.frozen (by simp)).trans (World.frozen?_alloc_at _ _ _ _ (by simp)),(h.frozen (by simp)).trans (World.frozen?_alloc_at _ _ _ _ (by simp)),(h.frozen (by simp)).trans (World.frozen?_alloc_at _ _ _ _ (by simp)),(h.frozen (by simp)).trans (World.frozen?_alloc_at _ _ _ _ (by simp))⟩
theorem stored_rat {w w1:World}{n m:Bool}{u v:Value}{q:Rat}{u0 u1 u2 u3:Value}(he:Ext (w.alloc (.cells #[.bool false,.slice none 0 0,.bool false,.slice none 0 0] 30)) w1)(h:RatC w1 n u m v q):
    RatC ((((w1.setCell ⟨w.heap.size,0,none⟩ u0).setCell ⟨w.heap.size,1,none⟩ u1).setCell ⟨w.heap.size,2,none⟩ u2).setCell ⟨w.heap.size,3,none⟩ u3) n u m v q/\
    Ext w ((((w1.setCell ⟨w.heap.size,0,none⟩ u0).setCell ⟨w.heap.size,1,none⟩ u1).setCell ⟨w.heap.size,2,none⟩ u2).setCell ⟨w.heap.size,3,none⟩ u3):=
  ⟨h.own (Blk.ext (Blk.new w _ _) he) (noU4 _ _ _ _ _ _ _ _) (((((Own.refl _ _).set_at 0 none _).set_at 1 none _).set_at 2 none _).set_at 3 none _),
   Ext.setCell (Ext.setCell (Ext.setCell (Ext.setCell (((Ext.refl _).alloc _).trans he) (Nat.le_refl _) _) (Nat.le_refl _) _) (Nat.le_refl _) _) (Nat.le_refl _) _⟩
theorem part_any (n:Bool)(v gv:Value)(L:Nat)(y:Int)(d bg:Nat)(w:World)(hv:IntIn L w n v y)(hg:w.cell? ⟨bg,0,none⟩=some gv)(hd:NatIn L w gv d)(hd0:d≠0)(hL:L<=300000):
    Calls Tryz.prog 100 #[.agg #[.bool n,v],.pointer (some ⟨bg,0,none⟩)] w (RetC (y.natAbs/d) w):=by
  have hn:=hv.abs.1;obtain⟨p,l,cp,rfl⟩:=hv.form;obtain⟨q,k,cq,rfl⟩:∃q k cq,gv= .slice q k cq:=by
    obtain⟨xs,⟨q,cq,rfl,_⟩,_⟩:=hd;exact⟨q,_,cq,rfl⟩
  have HD:=zH (divmod_any _ _ L y.natAbs d _ (hn.ext ((Ext.refl w).alloc (.cells #[.bool n,.slice p l cp] 28))) (hd.ext ((Ext.refl w).alloc (.cells #[.bool n,.slice p l cp] 28))) hL hd0);have c0:(w.alloc (.cells #[.bool n,.slice p l cp] 28)).cell? ⟨bg,0,none⟩=some (.slice q k cq):=((Ext.refl w).alloc _).get hg;clear hv hn hg hd hd0;go_enter Tryz.func100,Tryz.ntmps100
  go_wp2_with fail
  refine HD.out.mono ?_;rintro e w1 ⟨qv,rv,rfl,hq,hr,he⟩;have HQ:=zH hq;clear hq hr;go_wp2_with fail
  go_ret
  exact⟨qv,rfl,HQ.out,((Ext.refl _).alloc _).trans he⟩
theorem sign_prod (y z:Int): -1<=y.sign*z.sign/\y.sign*z.sign<=1:=by
  rcases Int.lt_trichotomy y 0 with h|h|h<;>rcases Int.lt_trichotomy z 0 with k|k|k<;>
    simp[*,Int.sign_eq_neg_one_of_neg,Int.sign_eq_one_of_pos]
theorem den_int (q:Rat):sg false q.den=(q.den:Int):=rfl
theorem lowest_any (n m:Bool)(u v:Value)(L:Nat)(y z:Int)(w:World)(hu:IntIn L w n u y)(hv:IntIn L w m v z)(hL:L<=300000)(hz:z≠0):
    Calls Tryz.prog 73 #[.agg #[.bool n,u],.agg #[.bool m,v]] w (RetR (Rat.divInt y z) w):=by
  have hlz:=hv.nl;have hly:=hu.nl;have hna:=hu.abs.1;have hnb:=hv.abs.1;obtain⟨p,l,cp,rfl⟩:=hu.form;obtain⟨q,k,cq,rfl⟩:=hv.form;obtain⟨e1,e2⟩:=Nm.num_of_pair y z hz;have e3:=Nm.den_of_pair y z hz;have hG0:y.natAbs.gcd z.natAbs≠0:=by
    intro h;have:=Nat.eq_zero_of_gcd_eq_zero_right h;omega
  have hGl:Nm.nl (y.natAbs.gcd z.natAbs)<=L:=Nat.le_trans (Nm.nl_mono (Nat.gcd_le_right _ (by omega))) hlz;have hE1:Ext w ((((w.alloc (.cells #[.bool n,.slice p l cp] 28)).alloc (.cells #[.bool m,.slice q k cq] 28)).alloc (.cells #[.bool false,.slice none 0 0,.bool false,.slice none 0 0] 30))):=(((Ext.refl _).alloc _).alloc _).alloc _;have HE1:=zH hE1;have H1:=zH (gcd_any _ _ L y.natAbs z.natAbs _ (hna.ext hE1) (hnb.ext hE1) hL);have HA:=zH (fun W (h:Ext w W)=>hu.ext h);have HB:=zH (fun W (h:Ext w W)=>hv.ext h);have HG:=zH (newRat ((w.alloc (.cells #[.bool n,.slice p l cp] 28)).alloc (.cells #[.bool m,.slice q k cq] 28)));have HST:=zH (fun w1 n1 t1 n2 t2 u0 u1 u2 u3=>stored_rat (w:=((w.alloc (.cells #[.bool n,.slice p l cp] 28)).alloc (.cells #[.bool m,.slice q k cq] 28))) (w1:=w1) (n:=n1) (u:=t1) (m:=n2) (v:=t2) (q:=Rat.divInt y z) (u0:=u0) (u1:=u1) (u2:=u2) (u3:=u3));have HQ:=zH (And.intro e1 (And.intro e2 e3));have HG0:=zH hG0;have HGL:=zH hGl;clear hE1 hu hv hna hnb e1 e2 e3 hG0 hGl hz;go_enter Tryz.func73,Tryz.ntmps73
  go_wp2_with fail
  refine H1.out.mono ?_;rintro e w1 ⟨gv,rfl,hg,he1⟩;have HGV:=zH hg;obtain⟨pg,cg,rfl⟩:=hg.form;clear hg H1;generalize Nm.nl (y.natAbs.gcd z.natAbs)=lg at HGV⊢
  go_wp2_with fail
  have HS1:=zH (fun W (h:Ext (w1.alloc (.cells #[.slice pg lg cg] 26)) W)=>sign_any n (.slice p l cp) L y W (HA.out W ((HE1.out.trans he1).trans (((Ext.refl _).alloc _).trans h))) hL);have HS2:=zH (fun W (h:Ext (w1.alloc (.cells #[.slice pg lg cg] 26)) W)=>sign_any m (.slice q k cq) L z W (HB.out W ((HE1.out.trans he1).trans (((Ext.refl _).alloc _).trans h))) hL);have HP1:=zH (fun W (h:Ext (w1.alloc (.cells #[.slice pg lg cg] 26)) W)=>part_any n (.slice p l cp) (.slice pg lg cg) L y (y.natAbs.gcd z.natAbs) w1.heap.size W (HA.out W ((HE1.out.trans he1).trans (((Ext.refl _).alloc _).trans h))) (h.get (by simp)) ((NatC.ext HGV.out (((Ext.refl _).alloc _).trans h)).isIn HGL.out) HG0.out hL);have HP2:=zH (fun W (h:Ext (w1.alloc (.cells #[.slice pg lg cg] 26)) W)=>part_any m (.slice q k cq) (.slice pg lg cg) L z (y.natAbs.gcd z.natAbs) w1.heap.size W (HB.out W ((HE1.out.trans he1).trans (((Ext.refl _).alloc _).trans h))) (h.get (by simp)) ((NatC.ext HGV.out (((Ext.refl _).alloc _).trans h)).isIn HGL.out) HG0.out hL);have HE2:=zH (show Ext (((w.alloc (.cells #[.bool n,.slice p l cp] 28)).alloc (.cells #[.bool m,.slice q k cq] 28)).alloc (.cells #[.bool false,.slice none 0 0,.bool false,.slice none 0 0] 30)) (w1.alloc (.cells #[.slice pg lg cg] 26))from he1.alloc _);have hqs:decide (y.sign*z.sign<0)=decide ((Rat.divInt y z).num<0):=by
    rw[Bool.eq_iff_iff];simp only[decide_eq_true_eq];exact HQ.out.2.1.symm
  have hn1:∀W t x,x=decide (y.sign*z.sign<0)->NatC W t (y.natAbs/y.natAbs.gcd z.natAbs)->Calls Tryz.prog 80 #[.bool x,t] W (RetI (Rat.divInt y z).num W):=fun W t x hx h=>by
    subst hx;have hh:=new_any (decide (y.sign*z.sign<0)) t L _ W (h.isIn (Nat.le_trans (Nm.nl_div _ _) hly)) (by omega);rw[hqs,<-HQ.out.1,sg_self]at hh;rw[hqs];exact hh
  have hn2:∀W t,NatC W t (z.natAbs/y.natAbs.gcd z.natAbs)->Calls Tryz.prog 80 #[.bool false,t] W (RetI ((Rat.divInt y z).den:Int) W):=fun W t h=>by
    have hh:=new_any false t L _ W (h.isIn (Nat.le_trans (Nm.nl_div _ _) hlz)) (by omega);rw[<-HQ.out.2.2,den_int]at hh;exact hh
  have sp:=sign_prod y z;clear hqs HQ hly hlz;generalize y.sign=s1 at HS1 hn1 sp
  generalize z.sign=s2 at HS2 hn1 sp
  obtain⟨sp1,sp2⟩:=sp;have HWR:=zH (show decide (IntKind.i64.wrap (s1*s2)<0)=decide (s1*s2<0)by rw[IntWalk.i64_in _ (by omega)]);have HN1:=zH hn1;have HN2:=zH hn2;clear hn1 hn2;have gl:∀w',Own (w.heap.size+1+1) (w1.alloc (.cells #[.slice pg lg cg] 26)) w'->w'.cell? ⟨w.heap.size,0,none⟩=some (.bool n)/\w'.cell? ⟨w.heap.size,1,none⟩=some (.slice p l cp)/\w'.cell? ⟨w.heap.size+1,0,none⟩=some (.bool m)/\w'.cell? ⟨w.heap.size+1,1,none⟩=some (.slice q k cq):=fun w' h=>by
    have he2:Ext ((w.alloc (.cells #[.bool n,.slice p l cp] 28)).alloc (.cells #[.bool m,.slice q k cq] 28)) w1:=((Ext.refl _).alloc _).trans he1;have a0:w1.cell? ⟨w.heap.size,0,none⟩=some (.bool n):=he2.get (by simp);have a1:w1.cell? ⟨w.heap.size,1,none⟩=some (.slice p l cp):=he2.get (by simp);have a2:w1.cell? ⟨w.heap.size+1,0,none⟩=some (.bool m):=he2.get (by simp);have a3:w1.cell? ⟨w.heap.size+1,1,none⟩=some (.slice q k cq):=he2.get (by simp);exact⟨h.get (((Ext.refl w1).alloc _).get a0) (show w.heap.size≠w.heap.size+1+1 by omega),h.get (((Ext.refl w1).alloc _).get a1) (show w.heap.size≠w.heap.size+1+1 by omega),h.get (((Ext.refl w1).alloc _).get a2) (show w.heap.size+1≠w.heap.size+1+1 by omega),h.get (((Ext.refl w1).alloc _).get a3) (show w.heap.size+1≠w.heap.size+1+1 by omega)⟩
  go_region_held3 (fun w'=>Own (w.heap.size+1+1) (w1.alloc (.cells #[.slice pg lg cg] 26)) w') (first|assumption|exact Own.drew (Own.refl _ _)|(apply Own.of_ext;assumption)|(refine Own.set_at (Own.set_at (Own.set_at (Own.set_at ?_ _ _ _) _ _ _) _ _ _) _ _ _;first|assumption|(apply Own.of_ext;assumption)))
    (first|(go_at_call 79;((with_reducible refine(HS1.out _ (by first|assumption|exact Ext.drew (Ext.refl _))).mono ?_));rintro e ws1 ⟨rfl,hes1⟩;have hx:Ext (w1.alloc (.cells #[.slice pg lg cg] 26)) _:=Ext.trans (by first|assumption|exact Ext.drew (Ext.refl _)) hes1)|(go_at_call 79;((with_reducible refine(HS2.out _ (by first|assumption|exact Ext.drew (Ext.refl _))).mono ?_));rintro e ws2 ⟨rfl,hes2⟩;have hx:Ext (w1.alloc (.cells #[.slice pg lg cg] 26)) _:=Ext.trans (by first|assumption|exact Ext.drew (Ext.refl _)) hes2)|(go_at_call 100;((with_reducible refine(HP1.out _ (by first|assumption|exact Ext.drew (Ext.refl _))).mono ?_));rintro e wp1 ⟨t1,rfl,hc1,hep1⟩;have hx:Ext (w1.alloc (.cells #[.slice pg lg cg] 26)) _:=Ext.trans (by first|assumption|exact Ext.drew (Ext.refl _)) hep1)|(go_at_call 100;((with_reducible refine(HP2.out _ (by first|assumption|exact Ext.drew (Ext.refl _))).mono ?_));rintro e wp2 ⟨t2,rfl,hc2,hep2⟩;have hx:Ext (w1.alloc (.cells #[.slice pg lg cg] 26)) _:=Ext.trans (by first|assumption|exact Ext.drew (Ext.refl _)) hep2)|(go_at_call 80;((with_reducible refine(HN2.out _ _ hc2).mono ?_));rintro e wn2 ⟨b2,r2,rfl,hi2,hen2⟩;have hx:Ext (w1.alloc (.cells #[.slice pg lg cg] 26)) _:=Ext.trans (by first|assumption|exact Ext.drew (Ext.refl _)) hen2;obtain⟨p2,l2,k2,rfl⟩:=hi2.form;have gk:=HG.out _ (HE2.out.trans hx);simp only[World.size_alloc]at gk)|(go_at_call 80;((with_reducible refine(HN1.out _ _ _ (by first|rfl|exact HWR.out) hc1).mono ?_));rintro e wn1 ⟨b1,r1,rfl,hi1,hen1⟩;have hx:Ext (w1.alloc (.cells #[.slice pg lg cg] 26)) _:=Ext.trans (by first|assumption|exact Ext.drew (Ext.refl _)) hen1;obtain⟨p1,l1,k1,rfl⟩:=hi1.form))
  go_wp2_with fail
  have st:=HST.out _ _ _ _ _ (.bool b1) (.slice p1 l1 k1) (.bool b2) (.slice p2 l2 k2) (HE2.out.trans hx) ⟨hi1.ext (hep2.trans hen2),hi2⟩;simp only[World.size_alloc]at st;refine bodyPost_ret (v:= .agg #[.bool b1,.slice p1 l1 k1,.bool b2,.slice p2 l2 k2]) ?_ rfl ⟨_,_,_,_,rfl,st.1,(((Ext.refl _).alloc _).alloc _).trans st.2⟩;simp[results,Tryz.results73,go_sem, *]
def RetRE (q:Rat)(er:Int)(w:World)(e:Ending)(w':World):Prop:=∃n u m v,e= .returned (.tuple #[.agg #[.bool n,u,.bool m,v],.int .i64 er])/\RatC w' n u m v q/\Ext w w'
theorem rnew_zero (n m:Bool)(u v:Value)(L:Nat)(y:Int)(w:World)(hu:IntIn L w n u y)(hv:IntIn L w m v 0)(hL:L<=300000):
    Calls Tryz.prog 78 #[.agg #[.bool n,u],.agg #[.bool m,v]] w fun e w'=>e= .returned (.tuple #[.agg #[.bool false,.slice none 0 0,.bool false,.slice none 0 0],.int .i64 9])/\Ext w w':=by
  obtain⟨p,l,cp,rfl⟩:=hu.form;obtain⟨q,k,cq,rfl⟩:=hv.form;have hE1:Ext w ((((w.alloc (.cells #[.bool n,.slice p l cp] 28)).alloc (.cells #[.bool m,.slice q k cq] 28)).alloc (.cells #[.bool false,.slice none 0 0,.bool false,.slice none 0 0] 30))):=(((Ext.refl _).alloc _).alloc _).alloc _;have HS:=zH (sign_any m (.slice q k cq) L 0 _ (hv.ext hE1) hL);rw[show(0:Int).sign=0 from rfl]at HS;have HG:=zH (newRat ((w.alloc (.cells #[.bool n,.slice p l cp] 28)).alloc (.cells #[.bool m,.slice q k cq] 28)));clear hE1 hu hv;go_enter Tryz.func78,Tryz.ntmps78
  go_wp2_with fail
  refine HS.out.mono ?_;rintro e w1 ⟨rfl,he⟩;have gk:=HG.out _ he;simp only[World.size_alloc]at gk;go_wp2_with fail
  refine bodyPost_ret (v:= .tuple #[.agg #[.bool false,.slice none 0 0,.bool false,.slice none 0 0],.int .i64 9]) ?_ rfl ⟨rfl,?_⟩
  · simp[results,Tryz.results78,go_sem, *]
  have he2:Ext ((w.alloc (.cells #[.bool n,.slice p l cp] 28)).alloc (.cells #[.bool m,.slice q k cq] 28)) w1:=((Ext.refl _).alloc _).trans he;exact(((Ext.refl _).alloc _).alloc _).trans (Ext.setCell (Ext.setCell (Ext.setCell (Ext.setCell he2 (by simp) _) (by simp) _) (by simp) _) (by simp) _)
theorem rnew_any (n m:Bool)(u v:Value)(L:Nat)(y z:Int)(w:World)(hu:IntIn L w n u y)(hv:IntIn L w m v z)(hL:L<=300000)(hz:z≠0):
    Calls Tryz.prog 78 #[.agg #[.bool n,u],.agg #[.bool m,v]] w (RetRE (Rat.divInt y z) 0 w):=by
  obtain⟨p,l,cp,rfl⟩:=hu.form;obtain⟨q,k,cq,rfl⟩:=hv.form;have hE1:Ext w ((((w.alloc (.cells #[.bool n,.slice p l cp] 28)).alloc (.cells #[.bool m,.slice q k cq] 28)).alloc (.cells #[.bool false,.slice none 0 0,.bool false,.slice none 0 0] 30))):=(((Ext.refl _).alloc _).alloc _).alloc _;have HS:=zH (sign_any m (.slice q k cq) L z _ (hv.ext hE1) hL);have hsz:z.sign≠0:=by rw[Ne,Int.sign_eq_zero_iff_zero];exact hz
  generalize z.sign=s at HS hsz
  have g0:(s==0)=false:=beq_eq_false_iff_ne.2 hsz;have HLW:=zH (fun W (h:Ext w W)=>lowest_any n m (.slice p l cp) (.slice q k cq) L y z W (hu.ext h) (hv.ext h) hL hz);have HG:=zH (newRat ((w.alloc (.cells #[.bool n,.slice p l cp] 28)).alloc (.cells #[.bool m,.slice q k cq] 28)));have HST:=zH (fun w1 n1 t1 n2 t2 u0 u1 u2 u3=>stored_rat (w:=((w.alloc (.cells #[.bool n,.slice p l cp] 28)).alloc (.cells #[.bool m,.slice q k cq] 28))) (w1:=w1) (n:=n1) (u:=t1) (m:=n2) (v:=t2) (q:=Rat.divInt y z) (u0:=u0) (u1:=u1) (u2:=u2) (u3:=u3));have HE1:=zH hE1;clear hE1 hu hv hz hsz;have gb:∀w',Ext ((w.alloc (.cells #[.bool n,.slice p l cp] 28)).alloc (.cells #[.bool m,.slice q k cq] 28)) w'->
      w'.cell? ⟨w.heap.size,0,none⟩=some (.bool n)/\w'.cell? ⟨w.heap.size,1,none⟩=some (.slice p l cp)/\w'.cell? ⟨w.heap.size+1,0,none⟩=some (.bool m)/\w'.cell? ⟨w.heap.size+1,1,none⟩=some (.slice q k cq):=fun w' h=>
    ⟨h.get (by simp),h.get (by simp),h.get (by simp),h.get (by simp)⟩
  have HGB:=zH gb;clear gb;go_enter Tryz.func78,Tryz.ntmps78
  go_wp2_with fail
  refine HS.out.mono ?_;rintro e w1 ⟨rfl,he⟩;have g1:=HGB.out _ (((Ext.refl _).alloc _).trans he);go_wp2_with fail
  refine(HLW.out _ (HE1.out.trans he)).mono ?_;rintro e w2 ⟨b1,t1,b2,t2,rfl,hc,he2⟩;have HC:=zH hc;obtain⟨p1,l1,k1,p2,l2,k2,rfl,rfl⟩:=hc.form;have gk:=HG.out _ (he.trans he2);simp only[World.size_alloc]at gk;clear hc g1;go_wp2_with fail
  have st:=HST.out _ _ _ _ _ (.bool b1) (.slice p1 l1 k1) (.bool b2) (.slice p2 l2 k2) (he.trans he2) HC.out;simp only[World.size_alloc]at st;refine bodyPost_ret (v:= .tuple #[.agg #[.bool b1,.slice p1 l1 k1,.bool b2,.slice p2 l2 k2],.int .i64 0]) ?_ rfl ⟨_,_,_,_,rfl,st.1,(((Ext.refl _).alloc _).alloc _).trans st.2⟩;simp[results,Tryz.results78,go_sem, *]
theorem ratC_int {w:World}{n m:Bool}{u v:Value}{a:Int}(h1:IntC w n u a)(h2:IntC w m v 1):RatC w n u m v (a:Rat):=by
  refine⟨?_,?_⟩
  · rw[Rat.num_intCast];exact h1
  rw[Rat.den_intCast];exact h2
theorem rfromInt_any (a:Int)(w:World)(h1: -9223372036854775808<=a)(h2:a<=9223372036854775807):
    Calls Tryz.prog 18 #[.int .i64 a] w (RetR (a:Rat) w):=by
  have HF:=zH (fun W=>fromInt_any a W h1 h2);have HF1:=zH (fun W=>fromInt_any 1 W (by omega) (by omega));have HG:=zH (newRat w);have HST:=zH (fun w1 n1 t1 n2 t2 u0 u1 u2 u3=>stored_rat (w:=w) (w1:=w1) (n:=n1) (u:=t1) (m:=n2) (v:=t2) (q:=(a:Rat)) (u0:=u0) (u1:=u1) (u2:=u2) (u3:=u3));clear h1 h2;go_enter Tryz.func18,Tryz.ntmps18
  go_wp2_with fail
  refine(HF.out _).mono ?_;rintro e w1 ⟨b1,t1,rfl,hc1,he1⟩;have HC1:=zH hc1;obtain⟨p1,l1,k1,rfl⟩:=hc1.form;clear hc1;go_wp2_with fail
  refine(HF1.out _).mono ?_;rintro e w2 ⟨b2,t2,rfl,hc2,he2⟩;have HC2:=zH hc2;obtain⟨p2,l2,k2,rfl⟩:=hc2.form;have gk:=HG.out _ (he1.trans he2);clear hc2;go_wp2_with fail
  have st:=HST.out _ _ _ _ _ (.bool b1) (.slice p1 l1 k1) (.bool b2) (.slice p2 l2 k2) (he1.trans he2) (ratC_int (HC1.out.ext he2) HC2.out);refine bodyPost_ret (v:= .agg #[.bool b1,.slice p1 l1 k1,.bool b2,.slice p2 l2 k2]) ?_ rfl ⟨_,_,_,_,rfl,st.1,st.2⟩;simp[results,Tryz.results18,go_sem, *]
theorem rfromInts_any (a b:Int)(w:World)(h1: -9223372036854775808<=a)(h2:a<=9223372036854775807)(h3: -9223372036854775808<=b)(h4:b<=9223372036854775807)(hb:b≠0):
    Calls Tryz.prog 41 #[.int .i64 a,.int .i64 b] w (RetRE (Rat.divInt a b) 0 w):=by
  have HF:=zH (fun W=>fromInt_any a W h1 h2);have HF1:=zH (fun W=>fromInt_any b W h3 h4);have hla:=nl_i64 a h1 h2;have hlb:=nl_i64 b h3 h4;have HN:=zH (fun W n u m v (x:IntC W n u a) (z:IntC W m v b)=>rnew_any n m u v 2 a b W (x.isIn hla) (z.isIn hlb) (by omega) hb);have HG:=zH (newRat w);have HST:=zH (fun w1 n1 t1 n2 t2 u0 u1 u2 u3=>stored_rat (w:=w) (w1:=w1) (n:=n1) (u:=t1) (m:=n2) (v:=t2) (q:=Rat.divInt a b) (u0:=u0) (u1:=u1) (u2:=u2) (u3:=u3));clear h1 h2 h3 h4 hla hlb hb;go_enter Tryz.func41,Tryz.ntmps41
  go_wp2_with fail
  refine(HF.out _).mono ?_;rintro e w1 ⟨b1,t1,rfl,hc1,he1⟩;have HC1:=zH hc1;clear hc1;go_wp2_with fail
  refine(HF1.out _).mono ?_;rintro e w2 ⟨b2,t2,rfl,hc2,he2⟩;have HC2:=zH hc2;clear hc2;go_wp2_with fail
  refine(HN.out _ _ _ _ _ (HC1.out.ext he2) HC2.out).mono ?_;rintro e w3 ⟨n1,u1,n2,u2,rfl,hc,he3⟩;have HC:=zH hc;obtain⟨p1,l1,k1,p2,l2,k2,rfl,rfl⟩:=hc.form;have gk:=HG.out _ ((he1.trans he2).trans he3);clear hc;go_wp2_with fail
  have st:=HST.out _ _ _ _ _ (.bool n1) (.slice p1 l1 k1) (.bool n2) (.slice p2 l2 k2) ((he1.trans he2).trans he3) HC.out;refine bodyPost_ret (v:= .tuple #[.agg #[.bool n1,.slice p1 l1 k1,.bool n2,.slice p2 l2 k2],.int .i64 0]) ?_ rfl ⟨_,_,_,_,rfl,st.1,st.2⟩;simp[results,Tryz.results41,go_sem, *]
theorem rnorm_any (n m:Bool)(u v:Value)(L:Nat)(q:Rat)(w:World)(h:RatIn L w n u m v q)(hL:L<=300000):
    Calls Tryz.prog 72 #[.agg #[.bool n,u,.bool m,v]] w (RetR q w):=by
  obtain⟨y,z,hu,hv,hq⟩:=h;obtain⟨p,l,cp,rfl⟩:=hu.form;obtain⟨q2,k,cq,rfl⟩:=hv.form;have hE1:Ext w ((w.alloc (.cells #[.bool n,.slice p l cp,.bool m,.slice q2 k cq] 30)).alloc (.cells #[.bool false,.slice none 0 0,.bool false,.slice none 0 0] 30)):=((Ext.refl _).alloc _).alloc _;have HG:=zH (newRat (w.alloc (.cells #[.bool n,.slice p l cp,.bool m,.slice q2 k cq] 30)));have HST:=zH (fun w1 n1 t1 n2 t2 u0 u1 u2 u3=>stored_rat (w:=w.alloc (.cells #[.bool n,.slice p l cp,.bool m,.slice q2 k cq] 30)) (w1:=w1) (n:=n1) (u:=t1) (m:=n2) (v:=t2) (q:=q) (u0:=u0) (u1:=u1) (u2:=u2) (u3:=u3));by_cases hz:z=0
  · subst hz
    have hq0:q=((0:Int):Rat):=by rw[hq,Rat.divInt_zero];rfl
    subst hq0;have HN:=zH (rnew_zero n m (.slice p l cp) (.slice q2 k cq) L y _ (hu.ext hE1) (hv.ext hE1) hL);have HF:=zH (fun W=>rfromInt_any 0 W (by omega) (by omega));clear hu hv hq hE1;go_enter Tryz.func72,Tryz.ntmps72
    go_wp2_with fail
    refine HN.out.mono ?_;rintro e w1 ⟨rfl,he⟩;go_wp2_with fail
    refine(HF.out _).mono ?_;rintro e w2 ⟨b1,t1,b2,t2,rfl,hc,he2⟩;have HC:=zH hc;obtain⟨p1,l1,k1,p2,l2,k2,rfl,rfl⟩:=hc.form;have hE:=he.trans (((Ext.refl _).alloc _).trans he2);have gk:=HG.out _ hE;simp only[World.size_alloc]at gk;have HE:=zH hE;clear hc hE;go_wp2_with fail
    have st:=HST.out _ _ _ _ _ (.bool b1) (.slice p1 l1 k1) (.bool b2) (.slice p2 l2 k2) HE.out HC.out;simp only[World.size_alloc]at st;refine bodyPost_ret (v:= .agg #[.bool b1,.slice p1 l1 k1,.bool b2,.slice p2 l2 k2]) ?_ rfl ⟨_,_,_,_,rfl,st.1,((Ext.refl _).alloc _).trans st.2⟩;simp[results,Tryz.results72,go_sem, *]
  have HN0:=rnew_any n m (.slice p l cp) (.slice q2 k cq) L y z _ (hu.ext hE1) (hv.ext hE1) hL hz;rw[<-hq]at HN0;have HN:=zH HN0;clear hu hv hq hE1 hz HN0;go_enter Tryz.func72,Tryz.ntmps72
  go_wp2_with fail
  refine HN.out.mono ?_;rintro e w1 ⟨b1,t1,b2,t2,rfl,hc,he⟩;have HC:=zH hc;obtain⟨p1,l1,k1,p2,l2,k2,rfl,rfl⟩:=hc.form;have gk:=HG.out _ he;simp only[World.size_alloc]at gk;have hz:=he.size;simp only[World.size_alloc]at hz;have hz2:w.heap.size+1<w1.heap.size:=by omega
  have hz3:w.heap.size+1≠w1.heap.size:=by omega
  clear hc hz;go_wp2_with fail
  have st:=HST.out _ _ _ _ _ (.bool b1) (.slice p1 l1 k1) (.bool b2) (.slice p2 l2 k2) he HC.out;simp only[World.size_alloc]at st;refine bodyPost_ret (v:= .agg #[.bool b1,.slice p1 l1 k1,.bool b2,.slice p2 l2 k2]) ?_ rfl ⟨_,_,_,_,rfl,st.1.ext ((Ext.refl _).alloc _),(((Ext.refl _).alloc _).trans st.2).alloc _⟩;simp[results,Tryz.results72,go_sem, *]
end
end Go.Proofs.YtdkfmkeaaeooeaaGreat
