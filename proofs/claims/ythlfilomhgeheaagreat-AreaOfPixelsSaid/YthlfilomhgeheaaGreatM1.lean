import Derived.Test.YthlfilomhgeheaaGreatProg
import Derived.WalkKit
import Derived.WalkSpells
import Derived.WalkLawsBesides
import Derived.Lib.Hide
import Derived.Deep.QuietTactic
import Derived.BigQuiet
import Derived.Deep.RegionHeld3
import Derived.Deep.DrawnRows
import Derived.Deep.Draws
import Derived.Outline
import Derived.IntWalk
import Derived.Deep.OwnRows
import Derived.Maps.AppendAt
import Derived.WalkMore
import Derived.Laws.BitsAllLaws
import Derived.Lib.BitFns
import Derived.Lib.ItoaNum
import Derived.Shelf.Small.Bits
import Derived.ArgAppend
import Derived.Deep.LoopGhost
set_option maxRecDepth 100000
set_option maxHeartbeats 4000000
namespace Go.Proofs.YthlfilomhgeheaaGreat
open Go.RowKit
open Go.Proofs.Tryz
@[match_pattern] abbrev iV (x:Int):Value:=.int .i64 x
abbrev wC:= @List.getElem?_eq_getElem
abbrev wD:= @List.length_append
abbrev wE:= @List.mem_of_getElem?
abbrev wF:= @List.getD_eq_getElem?_getD
abbrev wG:= @World.size_alloc
abbrev wH:= @Nat.zero_add
abbrev wI:= @List.take_of_length_le
abbrev wJ:= @List.getElem?_append_right
abbrev wK:= @List.length_take
abbrev wL:= @List.getElem?_toArray
abbrev wM:= @Nat.zero_le
abbrev wN:= @List.append_assoc
abbrev wO:= @List.length_set
abbrev wP:= @List.eq_nil_of_length_eq_zero
abbrev wQ:= @List.getElem?_append_left
abbrev wR:= @List.cons_append
abbrev wS:= @List.mem_cons_of_mem
abbrev wT:= @List.nil_append
abbrev wU:= @List.length_map
abbrev wV:= @List.take_succ_eq_append_getElem
abbrev wW:= @Nat.mul_le_mul_left
abbrev wY:= @Nat.mul_add
abbrev wZ:= @Int.natCast_mul
abbrev xA:= @Bool.and_eq_true
abbrev xB:= @List.length_cons
abbrev xC:= @Nat.mul_le_mul_right
abbrev xD:= @List.append_nil
abbrev xE:= @List.mem_cons_self
abbrev xF:= @Nat.le_of_eq
abbrev xG:= @Nat.lt_of_lt_of_le
abbrev xH:= @List.mem_singleton
abbrev xI:= @List.map_append
abbrev xJ:= @List.getElem?_map
abbrev xK:= @List.take_length
abbrev xL:= @Nat.add_mul
abbrev xM:= @Int.natAbs_natCast
abbrev xN:= @Nat.mul_comm
abbrev xO:= @Nat.add_zero
abbrev xP:= @List.getElem?_eq_none
abbrev xQ:= @Nat.le_of_lt
abbrev xR:= @Nat.mul_one
abbrev xS:= @List.mem_append
theorem ω{P:Prop}(h:P:=by omega):P:=h
@[match_pattern]abbrev φ:Value:= .bool false
@[match_pattern]abbrev τ:Value:= .bool true
@[match_pattern]abbrev π (g:Nat):Option Addr:=some ⟨g,0,none⟩
abbrev γ (a:Act)(k:Nat):Value:=a.tmps.getD k undef
abbrev μ (w:World)(n:Bool)(p:Option Addr)(l c:Nat)(m:Bool)(q:Option Addr)(k d:Nat):World:=w.alloc (.cells #[.bool n,.slice p l c,.bool m,.slice q k d] 31)
abbrev ν (w:World)(n:Bool)(p:Option Addr)(l c:Nat):World:=w.alloc (.cells #[.bool n,.slice p l c] 29)
abbrev θ:Array Value:=#[.bool false,.slice none 0 0]
structure Hd (p : Prop) : Prop where a : p
theorem Aw {a b c:Nat} (h:a<=b) (k:b<=c):a<=c:=Nat.le_trans h k
theorem Bz (a:Nat):a<=a:=Nat.le_refl a
section
theorem zH {p:Prop}(h:p):Hd p:=⟨h⟩
theorem zA {α:Type}(l:List α)(i:Nat)(a:α):l.toArray.setIfInBounds i a=(l.set i a).toArray:=List.setIfInBounds_toArray l i a
theorem zB {α:Type}{x:α}{xs:List α}{a:α}:(x::xs).set 0 a=a::xs:=List.set_cons_zero
theorem zC {α:Type}{x:α}{xs:List α}{i:Nat}{a:α}:(x::xs).set (i+1) a=x::xs.set i a:=List.set_cons_succ
theorem ζ:(∀(a:Act)(d:Nat)(v:Value),a.put d v={a with tmps:=a.tmps.setIfInBounds d v})/\(∀(α:Type)(l:List α)(i:Nat)(a:α),l.toArray.setIfInBounds i a=(l.set i a).toArray)/\(∀(α:Type)(x:α)(xs:List α)(a:α),(x::xs).set 0 a=a::xs)/\(∀(α:Type)(x:α)(xs:List α)(n:Nat)(a:α),(x::xs).set (n+1) a=x::xs.set n a):=⟨fun _ _ _=>rfl,fun _ l i a=>zA l i a,fun _ _ _ _=>rfl,fun _ _ _ _ _=>rfl⟩
def Aa (w w':World):Prop:=Below w.heap.size w w'
theorem Aa.below {w w':World}(h:Aa w w'):Below w.heap.size w w':=h
theorem Aa.refl (w:World):Aa w w:=Below.refl _ _
theorem Ak {w:World}:Aa w w:=Aa.refl _
theorem Aa.trans {a b c:World}(h:Aa a b)(k:Aa b c):Aa a c:=Below.trans h (Below.mono k h.size)
theorem Aa.via {a b c:World}(k:Aa b c)(h:Aa a b):Aa a c:=h.trans k
theorem Aa.drew {a w:World}(h:Aa a w):Aa a w.drew:=Below.drew h
theorem Aa.drewN {a w:World}(h:Aa a w)(n:Nat):Aa a (w.drewN n):=⟨h.os,h.tape,h.output,h.size,h.block⟩
theorem Aa.alloc {a w:World}(h:Aa a w)(o:Obj):Aa a (w.alloc o):=Below.alloc h h.size o
theorem Aa.setCell {a w:World}(h:Aa a w){p:Addr}(hp:a.heap.size<=p.block)(u:Value):Aa a (w.setCell p u):=Below.setCell h hp u
theorem Aa.grown {a w w':World}{row:Option Nat}(h:Aa a w)(hg:w.grownBy w' row)(hr:∀k,row=some k->a.heap.size<=k):Aa a w':=Below.grown h hg h.size hr
theorem Aa.size {a w:World}(h:Aa a w):a.heap.size<=w.heap.size:=Below.size h
theorem Aa.cell {a w:World}(h:Aa a w){p:Addr}(hp:p.block<a.heap.size):w.cell? p=a.cell? p:=Below.cell h hp
theorem Aa.frozen {a w:World}(h:Aa a w){p:Addr}(hp:p.block<a.heap.size):w.frozen? p=a.frozen? p:=Below.frozen h hp
theorem Aa.get {a w:World}(h:Aa a w){p:Addr}{v:Value}(hc:a.cell? p=some v):w.cell? p=some v:=
  (h.cell (World.block_lt_of_cell? a p hc)).trans hc
theorem Ey {k:IntKind}{a b:Int}(h:a=b):Ending.returned (.int k a)= .returned (.int k b):=by rw[h]
def Ba (g:Nat)(w w':World):Prop:=w.grownBy w' (some g)
theorem Ba.refl (g:Nat)(w:World):Ba g w w:=World.grownBy.refl w _
theorem Ba.drew {g:Nat}{a w:World}(h:Ba g a w):Ba g a w.drew:=⟨h.os,h.tape,h.output,h.size,h.block⟩
theorem Ba.size {g:Nat}{a w:World}(h:Ba g a w):a.heap.size<=w.heap.size:=World.grownBy.size h
theorem Ba.set {g:Nat}{a w:World}(h:Ba g a w){p:Addr}(hp:p.block=g\/a.heap.size<=p.block)(u:Value):Ba g a (w.setCell p u):=
  ⟨h.os,h.tape,h.output,by simpa[World.setCell]using h.size,fun i hi hne=>(Below.heap_setCell w p u i (by
    rintro rfl;rcases hp with hp|hp
    · exact hne (by rw[hp])
    omega)).trans (h.block i hi hne)⟩
theorem Ba.set_at {g:Nat}{a w:World}(h:Ba g a w)(o:Nat)(s:Option Nat)(u:Value):Ba g a (w.setCell ⟨g,o,s⟩ u):=h.set (.inl rfl) u
theorem Ba.then_ext {g:Nat}{a b c:World}(h:Ba g a b)(k:Aa b c):Ba g a c:=
  ⟨k.os.trans h.os,k.tape.trans h.tape,k.output.trans h.output,Aw h.size k.size,fun i hi hn=>(k.block i (xG hi h.size)).trans (h.block i hi hn)⟩
theorem Ba.of_ext {g:Nat}{a b:World}(h:Aa a b):Ba g a b:=(Ba.refl g a).then_ext h
theorem Ba.cell {g:Nat}{a w:World}(h:Ba g a w){p:Addr}(hp:p.block<a.heap.size)(hne:p.block≠g):w.cell? p=a.cell? p:=
  World.cell?_of_block (h.block p.block hp (fun e=>hne (by injection e)))
theorem Ba.get {g:Nat}{a w:World}(h:Ba g a w){p:Addr}{v:Value}(hc:a.cell? p=some v)(hne:p.block≠g):w.cell? p=some v:=
  (h.cell (World.block_lt_of_cell? a p hc) hne).trans hc
theorem Ba.ext {g:Nat}{w a b:World}(h:Ba g a b)(e:Aa w a)(hg:w.heap.size<=g):Aa w b:=
  ⟨h.os.trans e.os,h.tape.trans e.tape,h.output.trans e.output,Aw e.size h.size,fun k hk=>(h.block k (xG hk e.size) (fun x=>by injection x;omega)).trans (e.block k hk)⟩
def Al (w:World)(g:Nat)(t:TypeId)(cs:Array Value):Prop:=w.heap[g]?=some (.cells cs t (0,0))
section
variable {w w':World} {g:Nat} {t:TypeId} {cs:Array Value}
theorem Al.lt (h:Al w g t cs):g<w.heap.size:=by
  rcases Nat.lt_or_ge g w.heap.size with hlt|hge
  · exact hlt
  unfold Al at h;rw[Array.getElem?_eq_none hge]at h;cases h
theorem Al.cell (h:Al w g t cs)(i:Nat):w.cell? ⟨g,i,none⟩=cs[i]?:=cell_of_row w g i cs t (0,0) h
theorem Al.frozen (h:Al w g t cs)(i:Nat):w.frozen? ⟨g,i,none⟩=false:=by
  unfold Al at h;simp[World.frozen?,h]
theorem Al.new (w:World)(t:TypeId)(cs:Array Value):Al (w.alloc (.cells cs t)) w.heap.size t cs:=heap_alloc_new w _
theorem Al.drew (h:Al w g t cs):Al w.drew g t cs:=h
theorem Al.alloc (h:Al w g t cs)(o:Obj):Al (w.alloc o) g t cs:=(Below.heap_alloc w o g h.lt).trans h
theorem Al.set_ (h:Al w g t cs)(i:Nat)(u:Value):Al (w.setCell ⟨g,i,none⟩ u) g t (cs.setIfInBounds i u):=by
  unfold Al at h⊢;simp[World.setCell,Array.getElem?_modify,h]
theorem Al.far (h:Al w g t cs){p:Addr}(hp:g≠p.block)(u:Value):Al (w.setCell p u) g t cs:=(Below.heap_setCell w p u g hp).trans h
theorem Al.ext (h:Al w g t cs)(hb:Aa w w'):Al w' g t cs:=(Below.block hb g h.lt).trans h
end
theorem Ea (a b c d:Int)(w:World):
    (binOp .eql 24 (.agg #[iV a,iV b]) (.agg #[iV c,iV d])).run prog w= .ok (.bool (a==c&&b==d)) w:=by
  by_cases h:a=c<;>by_cases h2:b=d<;>simp[go_sem,h,h2]
theorem Dz (a b c d:Int)(w:World):
    (binOp .neq 24 (.agg #[iV a,iV b]) (.agg #[iV c,iV d])).run prog w= .ok (.bool (!(a==c&&b==d))) w:=by
  by_cases h:a=c<;>by_cases h2:b=d<;>simp[go_sem,h,h2]
theorem Az (ts:Array TypeId)(t:TypeId)(k k':IntKind)(x y:Int)(w:World):(Builtin.max_ ts t #[.int k x,.int k' y]).run prog w= .ok (.int k (max x y)) w:=by
  rw[run_max_int2];congr 2;by_cases h:x<y
  · rw[if_pos h];omega
  rw[if_neg h];omega
theorem Ay (ts:Array TypeId)(t:TypeId)(k k':IntKind)(x y:Int)(w:World):(Builtin.min_ ts t #[.int k x,.int k' y]).run prog w= .ok (.int k (min x y)) w:=by
  simp only[Builtin.min_,Builtin.min2,List.foldlM_cons,List.foldlM_nil];simp;by_cases h:y<x
  · rw[if_pos h];omega
  rw[if_neg h];omega
end
namespace Nm
def val:List Nat->Nat
  | []=>0
  |x::xs=>x+4294967296*val xs
def digs (n:Nat):List Nat:=if n=0 then[]else(n%4294967296)::digs (n/4294967296)
termination_by n
decreasing_by omega
def Dg (xs:List Nat):Prop:=∀x,x∈xs->x<4294967296
def nl (n:Nat):Nat:=(digs n).length
theorem digs_zero:digs 0=[]:=by rw[digs];simp
theorem digs_pos {n:Nat}(h:n≠0):digs n=(n%4294967296)::digs (n/4294967296):=by rw[digs,if_neg h]
theorem digs_one {n:Nat}(h:n≠0)(hn:n<4294967296):digs n=[n]:=by
  rw[digs_pos h,Nat.mod_eq_of_lt hn,Nat.div_eq_of_lt hn,digs_zero]
theorem val_nil:val []=0:=rfl
theorem val_cons (x:Nat)(xs:List Nat):val (x::xs)=x+4294967296*val xs:=rfl
theorem val_digs (n:Nat):val (digs n)=n:=by
  induction n using Nat.strongRecOn with
  | _ n ih=>
    by_cases h:n=0
    · subst h;rw[digs_zero];rfl
    rw[digs_pos h,val_cons,ih (n/4294967296) ω];omega
theorem dg_digs (n:Nat):Dg (digs n):=by
  induction n using Nat.strongRecOn with
  | _ n ih=>
    by_cases h:n=0
    · subst h;rw[digs_zero];intro x hx;cases hx
    rw[digs_pos h];intro x hx;rcases List.mem_cons.1 hx with rfl|hx
    · exact Nat.mod_lt _ (ω)
    exact ih (n/4294967296) ω x hx
theorem Dg.tail {x:Nat}{xs:List Nat}(h:Dg (x::xs)):Dg xs:=fun y hy=>h y (wS _ hy)
theorem Dg.head {x:Nat}{xs:List Nat}(h:Dg (x::xs)):x<4294967296:=h x xE
theorem Dg.nil:Dg []:=fun _ h=>by cases h
theorem Dg.cons {x:Nat}{xs:List Nat}(hx:x<4294967296)(h:Dg xs):Dg (x::xs):=fun y hy=>by
  rcases List.mem_cons.1 hy with rfl|hy
  · exact hx
  exact h y hy
theorem Dg.take {xs:List Nat}(h:Dg xs)(k:Nat):Dg (xs.take k):=fun y hy=>h y (List.mem_of_mem_take hy)
theorem Dg.drop {xs:List Nat}(h:Dg xs)(k:Nat):Dg (xs.drop k):=fun y hy=>h y (List.mem_of_mem_drop hy)
theorem Dg.append {xs ys:List Nat}(h:Dg xs)(k:Dg ys):Dg (xs++ys):=fun y hy=>by
  rcases List.mem_append.1 hy with hy|hy
  · exact h y hy
  exact k y hy
theorem Dg.zeros (k:Nat):Dg (List.replicate k 0):=fun y hy=>by
  rw[List.mem_replicate]at hy;omega
theorem Dg.set {xs:List Nat}(h:Dg xs)(i:Nat){d:Nat}(hd:d<4294967296):Dg (xs.set i d):=fun y hy=>by
  rcases List.mem_or_eq_of_mem_set hy with hy|rfl
  · exact h y hy
  exact hd
theorem Dg.getD {xs:List Nat}(h:Dg xs)(i:Nat):xs.getD i 0<4294967296:=by
  rw[wF];by_cases hi:i<xs.length
  · rw[wC hi];exact h _ (List.getElem_mem hi)
  rw[xP ω];simp
theorem Dg.get {xs:List Nat}(h:Dg xs){i:Nat}(hi:i<xs.length):xs[i]<4294967296:=h _ (List.getElem_mem hi)
theorem val_append (xs ys:List Nat):val (xs++ys)=val xs+4294967296^xs.length*val ys:=by
  induction xs with
  |nil=>simp[val]
  | cons x xs ih=>
    rw[wR,val_cons,val_cons,ih,xB,Nat.pow_succ,wY];have:4294967296*(4294967296^xs.length*val ys)=4294967296^xs.length*4294967296*val ys:=by
      rw[<-Nat.mul_assoc,xN 4294967296 (4294967296^xs.length)]
    omega
theorem val_zeros (k:Nat):val (List.replicate k 0)=0:=by
  induction k with
  |zero=>rfl
  |succ k ih=>rw[List.replicate_succ,val_cons,ih]
theorem pow_pos32 (k:Nat):0<4294967296^k:=Nat.pow_pos (ω)
theorem val_lt {xs:List Nat}(h:Dg xs):val xs<4294967296^xs.length:=by
  induction xs with
  |nil=>simp[val]
  | cons x xs ih=>
    have:=ih h.tail;have hx:=h.head;rw[val_cons,xB,Nat.pow_succ];have:4294967296*(val xs+1)<=4294967296*4294967296^xs.length:=wW _ this;rw[xN (4294967296^xs.length)];omega
theorem val_split (xs:List Nat)(k:Nat)(hk:k<=xs.length):val xs=val (xs.take k)+4294967296^k*val (xs.drop k):=by
  have:=val_append (xs.take k) (xs.drop k);rwa[List.take_append_drop,wK,Nat.min_eq_left hk]at this
theorem val_take_succ {xs:List Nat}{i:Nat}(hi:i<xs.length):val (xs.take (i+1))=val (xs.take i)+4294967296^i*xs[i]:=by
  rw[wV hi,val_append,wK,Nat.min_eq_left ω];simp[val]
theorem val_drop {xs:List Nat}{i:Nat}(hi:i<xs.length):val (xs.drop i)=xs[i]+4294967296*val (xs.drop (i+1)):=by
  rw[List.drop_eq_getElem_cons hi,val_cons]
theorem val_set {xs:List Nat}{i:Nat}(hi:i<xs.length)(d:Nat):val (xs.set i d)+4294967296^i*xs[i]=val xs+4294967296^i*d:=by
  induction xs generalizing i with
  |nil=>simp at hi
  | cons x xs ih=>
    match i with
    |0=>simp only[List.set_cons_zero,val_cons,List.getElem_cons_zero,Nat.pow_zero,Nat.one_mul];omega
    | i+1=>
      have A0:i<xs.length:=by simpa using hi
      have:=ih A0;simp only[List.set_cons_succ,val_cons,List.getElem_cons_succ,Nat.pow_succ];have e1:4294967296^i*4294967296*xs[i]=4294967296*(4294967296^i*xs[i]):=by rw[Nat.mul_right_comm,xN]
      have e2:4294967296^i*4294967296*d=4294967296*(4294967296^i*d):=by rw[Nat.mul_right_comm,xN]
      rw[e1,e2];omega
def Tight (xs:List Nat):Prop:=∀h:xs≠ [],xs.getLast h≠0
theorem Tight.val_pos {xs:List Nat}(t:Tight xs)(h:xs≠ []):4294967296^(xs.length-1)<=val xs:=by
  induction xs with
  |nil=>exact absurd rfl h
  | cons x xs ih=>
    by_cases he:xs=[]
    · subst he
      have:=t (by simp);simp only[List.getLast_singleton]at this;simp[val];omega
    have:=ih (fun h'=>by have:=t (by simp);rwa[List.getLast_cons he]at this) he;have hl:0<xs.length:=List.length_pos_iff.2 he;rw[xB,val_cons,Nat.add_sub_cancel];have e:xs.length=(xs.length-1)+1:=ω
    rw[e,Nat.pow_succ,xN];have:=wW 4294967296 this;omega
theorem digs_val {xs:List Nat}(h:Dg xs)(t:Tight xs):digs (val xs)=xs:=by
  induction xs with
  |nil=>exact digs_zero
  | cons x xs ih=>
    have hv:val (x::xs)≠0:=by
      have:=t.val_pos (by simp);have:=pow_pos32 ((x::xs).length-1);omega
    have hx:=h.head;rw[digs_pos hv,val_cons];have e1:(x+4294967296*val xs)%4294967296=x:=ω
    have e2:(x+4294967296*val xs)/4294967296=val xs:=ω;rw[e1,e2,ih h.tail];intro h';have:=t (by simp);rwa[List.getLast_cons h']at this
theorem tight_digs (n:Nat):Tight (digs n):=by
  induction n using Nat.strongRecOn with
  | _ n ih=>
    intro A0;by_cases h:n=0
    · subst h;exact absurd digs_zero A0
    by_cases h2:digs (n/4294967296)=[]
    · have hz:n/4294967296=0:=by rw[<-val_digs (n/4294967296),h2];rfl
      simp only[digs_pos h,h2,List.getLast_singleton];omega
    have:=ih (n/4294967296) ω h2;simp only[digs_pos h];rwa[List.getLast_cons h2]
theorem nl_zero:nl 0=0:=by unfold nl;rw[digs_zero];rfl
theorem nl_eq_zero {n:Nat}:nl n=0↔n=0:=by
  constructor
  · intro h;have h2:digs n=[]:=wP h;rw[<-val_digs n,h2];rfl
  rintro rfl;exact nl_zero
theorem lt_pow_nl (n:Nat):n<4294967296^nl n:=by
  have:=val_lt (dg_digs n);rwa[val_digs]at this
theorem pow_le_of_nl {n:Nat}(h:n≠0):4294967296^(nl n-1)<=n:=by
  have:=(tight_digs n).val_pos (fun e=>h (nl_eq_zero.1 (by unfold nl;rw[e];rfl)));rwa[val_digs]at this
theorem nl_le {n k:Nat}(h:n<4294967296^k):nl n<=k:=by
  by_cases hn:n=0
  · subst hn;rw[nl_zero];omega
  have:=pow_le_of_nl hn;rcases Nat.lt_or_ge k (nl n)with hk|hk
  · have:4294967296^k<=4294967296^(nl n-1):=Nat.pow_le_pow_right ω (ω)
    omega
  exact hk
theorem nl_mono {a b:Nat}(h:a<=b):nl a<=nl b:=nl_le (Nat.lt_of_le_of_lt h (lt_pow_nl b))
theorem nl_mul (a b:Nat):nl (a*b)<=nl a+nl b:=by
  apply nl_le;rw[Nat.pow_add];exact Nat.mul_lt_mul'' (lt_pow_nl a) (lt_pow_nl b)
theorem nl_add (a b:Nat):nl (a+b)<=max (nl a) (nl b)+1:=by
  apply nl_le;have h1:4294967296^nl a<=4294967296^max (nl a) (nl b):=Nat.pow_le_pow_right ω ω;have h2:4294967296^nl b<=4294967296^max (nl a) (nl b):=Nat.pow_le_pow_right ω ω;have:=lt_pow_nl a;have:=lt_pow_nl b;rw[Nat.pow_succ];omega
theorem nl_val {xs:List Nat}(h:Dg xs):nl (val xs)<=xs.length:=nl_le (val_lt h)
theorem nl_one {n:Nat}(h:n≠0)(hn:n<4294967296):nl n=1:=by unfold nl;rw[digs_one h hn];rfl
theorem digs_take {xs:List Nat}(h:Dg xs)(n:Nat)(hn:n<=xs.length)(hz:val (xs.drop n)=0)(ht:n=0\/xs.getD (n-1) 0≠0):digs (val xs)=xs.take n:=by
  rw[val_split xs n hn,hz,Nat.mul_zero,xO];apply digs_val (h.take n);intro A0;rcases ht with rfl|ht
  · exact absurd (List.take_zero) A0
  have hl:(xs.take n).length=n:=by rw[wK];omega
  have A1:0<n:=by
    rcases Nat.eq_zero_or_pos n with h0|h0
    · subst h0;exact absurd (List.take_zero) A0
    exact h0
  rw[List.getLast_eq_getElem];simp only[hl,List.getElem_take];rw[wF,wC ω]at ht;exact ht
theorem val_lt_of {xs ys:List Nat}{i:Nat}(hx:Dg xs)(hl:xs.length=ys.length)(hi:i<xs.length)(he:xs.drop (i+1)=ys.drop (i+1))(hlt:xs.getD i 0<ys.getD i 0):val xs<val ys:=by
  have A0:i<ys.length:=ω;rw[val_split xs i ω,val_split ys i ω,val_drop hi,val_drop A0,he];rw[wF,wC hi,wF,wC A0]at hlt;simp only[Option.getD_some]at hlt;have h1:val (xs.take i)<4294967296^i:=by
    have:=val_lt (hx.take i);rwa[wK,Nat.min_eq_left ω]at this
  have h2:4294967296^i*(xs[i]+4294967296*val (ys.drop (i+1))+1)<=4294967296^i*(ys[i]+4294967296*val (ys.drop (i+1))):=wW _ ω;rw[wY _ _ 1,xR]at h2;omega
theorem digs_lt_of_len {a b:Nat}(h:nl a<nl b):a<b:=by
  rcases Nat.lt_or_ge a b with h1|h1
  · exact h1
  have:=nl_mono h1;omega
theorem val_take_succD (xs:List Nat)(i:Nat):val (xs.take (i+1))=val (xs.take i)+4294967296^i*xs.getD i 0:=by
  by_cases hi:i<xs.length
  · rw[val_take_succ hi,wF,wC hi];rfl
  rw[wI ω,wI ω,wF,xP ω];rfl
theorem val_set_take {os:List Nat}{i:Nat}(hi:i<os.length)(d:Nat):val ((os.set i d).take (i+1))=val (os.take i)+4294967296^i*d:=by
  have A0:i<(os.set i d).length:=by rw[wO];exact hi
  rw[val_take_succ A0,List.take_set_of_le (Bz _),List.getElem_set_self]
theorem val_take_len {xs:List Nat}{k:Nat}(h:xs.length<=k):val (xs.take k)=val xs:=by rw[wI h]
theorem val_lt_pow {xs:List Nat}(h:Dg xs){k:Nat}(hk:xs.length<=k):val xs<4294967296^k:=
  xG (val_lt h) (Nat.pow_le_pow_right ω hk)
theorem val_take_lt {xs:List Nat}(h:Dg xs)(k:Nat):val (xs.take k)<4294967296^k:=
  val_lt_pow (h.take k) (by rw[wK];omega)
theorem round_arith {p vt c xv yv x y d c2:Nat}(h:vt+p*c=xv+yv)(e:c+(x+y)=d+4294967296*c2):vt+p*d+p*4294967296*c2=xv+p*x+(yv+p*y):=by
  have e2:p*(c+(x+y))=p*(d+4294967296*c2):=congrArg (p* ·) e;rw[wY,wY,wY,<-Nat.mul_assoc]at e2;omega
theorem add_round {xs ys os:List Nat}{i c:Nat}(hi:i<os.length)(h:val (os.take i)+4294967296^i*c=val (xs.take i)+val (ys.take i))(x y:Nat)(hx:xs.getD i 0=x)(hy:ys.getD i 0=y):
    val ((os.set i ((c+(x+y))%4294967296)).take (i+1))+4294967296^(i+1)*((c+(x+y))/4294967296)=val (xs.take (i+1))+val (ys.take (i+1)):=by
  rw[val_set_take hi,val_take_succD,val_take_succD,Nat.pow_succ,hx,hy];exact round_arith h (Nat.mod_add_div _ _).symm
theorem carry_none {p c a b o:Nat}(k1:a<p)(k2:b<p)(h:o+p*4294967296*c=a+b):o=a+b:=by
  rcases Nat.eq_zero_or_pos c with h0|h0
  · rw[h0,Nat.mul_zero,xO]at h
    exact h
  have h4:p*4294967296<=p*4294967296*c:=Nat.le_mul_of_pos_right _ h0;generalize p*4294967296*c=z at h h4;omega
theorem add_done {xs ys os:List Nat}{n c:Nat}(hx:Dg xs)(hy:Dg ys)(hn:os.length=n+1)(h1:xs.length<=n)(h2:ys.length<=n)(h:val (os.take (n+1))+4294967296^(n+1)*c=val (xs.take (n+1))+val (ys.take (n+1))):
    val os=val xs+val ys:=by
  rw[val_take_len (xF hn),val_take_len (Nat.le_succ_of_le h1),val_take_len (Nat.le_succ_of_le h2)]at h;rw[Nat.pow_succ]at h;exact carry_none (val_lt_pow hx h1) (val_lt_pow hy h2) h
theorem sub_arith {p vt s xv yv x y d s2 b2:Nat}(h:vt+yv=xv+p*s2)(hs:s2=s)(e:x+4294967296*b2=d+y+s):vt+p*d+(yv+p*y)=xv+p*x+p*4294967296*b2:=by
  subst hs;have e2:p*(x+4294967296*b2)=p*(d+y+s2):=congrArg (p* ·) e;rw[wY,wY,wY,<-Nat.mul_assoc]at e2;generalize p*4294967296*b2=z at e2⊢
  omega
theorem sub_round {xs ys os:List Nat}{i s:Nat}(hi:i<os.length)(h:val (os.take i)+val (ys.take i)=val (xs.take i)+4294967296^i*s)(x y d b:Nat)(hx:xs.getD i 0=x)(hy:ys.getD i 0=y)(e:x+4294967296*b=d+y+s):
    val ((os.set i d).take (i+1))+val (ys.take (i+1))=val (xs.take (i+1))+4294967296^(i+1)*b:=by
  rw[val_set_take hi,val_take_succD,val_take_succD,Nat.pow_succ,hx,hy];exact sub_arith h rfl e
theorem borrow_none {p a b o s:Nat}(hba:b<=a)(ho:o<p)(h:o+b=a+p*s):o=a-b:=by
  rcases Nat.eq_zero_or_pos s with h0|h0
  · rw[h0,Nat.mul_zero,xO]at h
    omega
  have h4:p<=p*s:=Nat.le_mul_of_pos_right _ h0;generalize p*s=z at h h4;omega
theorem val_take_of_lt {xs:List Nat}{n:Nat}(h:val xs<4294967296^n):val (xs.take n)=val xs:=by
  rcases Nat.le_total xs.length n with hl|hl
  · exact val_take_len hl
  rw[val_split xs n hl]at h⊢;rcases Nat.eq_zero_or_pos (val (xs.drop n))with h0|h0
  · rw[h0,Nat.mul_zero,xO]
  have h4:4294967296^n<=4294967296^n*val (xs.drop n):=Nat.le_mul_of_pos_right _ h0;omega
theorem sub_done {xs ys os:List Nat}{n s:Nat}(ho:Dg os)(hn:os.length=n)(h1:val (xs.take n)=val xs)(h2:val (ys.take n)=val ys)(hle:val ys<=val xs)(h:val (os.take n)+val (ys.take n)=val (xs.take n)+4294967296^n*s):
    val os=val xs-val ys:=by
  rw[val_take_len (xF hn),h2,h1]at h;exact borrow_none hle (val_lt_pow ho (xF hn)) h
def Zeros (os:List Nat)(m:Nat):Prop:=∀j,m<=j->os.getD j 0=0
theorem Zeros.all (n m:Nat):Zeros (List.replicate n 0) m:=fun j _=>by
  rw[wF,List.getElem?_replicate];split<;>rfl
theorem Zeros.mono {os:List Nat}{m k:Nat}(h:Zeros os m)(hk:m<=k):Zeros os k:=fun j hj=>h j (Aw hk hj)
theorem Zeros.set {os:List Nat}{m i d:Nat}(h:Zeros os m)(hi:i<m):Zeros (os.set i d) m:=fun j hj=>by
  have:=h j hj;rw[wF]at this⊢;rwa[List.getElem?_set_ne ω]
theorem val_setD {xs:List Nat}{i:Nat}(hi:i<xs.length)(d o:Nat)(ho:xs.getD i 0=o):val (xs.set i d)+4294967296^i*o=val xs+4294967296^i*d:=by
  have:=val_set hi d;rw[wF,wC hi]at ho;simp only[Option.getD_some]at ho;rwa[ho]at this
theorem mul_arith {P q v1 v0 o d c c2 x y base t:Nat}(h:v0+P*c=base+q*(x*t))(hs:v1+P*o=v0+P*d)(e:c+(x*y+o)=d+4294967296*c2):v1+P*4294967296*c2=base+q*(x*t)+P*(x*y):=by
  have e2:P*(c+(x*y+o))=P*(d+4294967296*c2):=congrArg (P* ·) e;rw[wY,wY,wY,<-Nat.mul_assoc P 4294967296]at e2;generalize P*4294967296*c2=z at e2⊢;generalize P*(x*y)=z2 at e2⊢;omega
theorem mul_round {ys os:List Nat}{i k c x base:Nat}(hi:i+k<os.length)(h:val os+4294967296^(i+k)*c=base+4294967296^i*(x*val (ys.take k)))(y o d c2:Nat)(hy:ys.getD k 0=y)(ho:os.getD (i+k) 0=o)(e:c+(x*y+o)=d+4294967296*c2):
    val (os.set (i+k) d)+4294967296^(i+(k+1))*c2=base+4294967296^i*(x*val (ys.take (k+1))):=by
  have:=mul_arith h (val_setD hi d o ho) e;rw[val_take_succD,hy,<-Nat.add_assoc,Nat.pow_succ,this,wY,wY,Nat.add_assoc];congr 2;rw[Nat.pow_add,<-Nat.mul_assoc x,xN x (4294967296^k),Nat.mul_assoc,Nat.mul_assoc]
theorem mul_row {xs ys os:List Nat}{i c x:Nat}(hi:i+ys.length<os.length)(hz:Zeros os (i+ys.length))(hx:xs.getD i 0=x)(h:val os+4294967296^(i+ys.length)*c=val (xs.take i)*val ys+4294967296^i*(x*val (ys.take ys.length))):
    val (os.set (i+ys.length) c)=val (xs.take (i+1))*val ys:=by
  have h2:=val_setD hi c 0 (hz _ (Bz _));rw[Nat.mul_zero,xO]at h2;rw[h2,h,xK,val_take_succD,hx,xL,Nat.mul_assoc]
theorem mul_skip {xs ys os:List Nat}{i:Nat}(hx:xs.getD i 0=0)(h:val os=val (xs.take i)*val ys):val os=val (xs.take (i+1))*val ys:=by
  rw[val_take_succD,hx,Nat.mul_zero,xO,h]
theorem mul_start {x base:Nat}{ys os:List Nat}{i:Nat}(h:val os=base):val os+4294967296^(i+0)*0=base+4294967296^i*(x*val (ys.take 0)):=by
  rw[List.take_zero,h];simp[val]
theorem digit_mul {x y:Nat}(hx:x<4294967296)(hy:y<4294967296):x*y<=18446744065119617025:=
  Nat.mul_le_mul (show x<=4294967295 by omega) (show y<=4294967295 by omega)
end Nm
section
attribute [local go_sem ↓] Go.wp_at_zero Go.wp_at_succ
def Ej (w:World)(v:Value)(xs:List Nat):Prop:=
  ∃p cap,v= .slice p xs.length cap/\xs.length<=cap/\Nm.Dg xs/\(0<xs.length->∃b o,p=some ⟨b,o,none⟩/\∀i,i<xs.length->w.cell? ⟨b,o+i,none⟩=some (.int .u32 (xs.getD i 0:Nat)))
theorem Ej.ext {w w':World}{v:Value}{xs:List Nat}(h:Ej w v xs)(e:Aa w w'):Ej w' v xs:=by
  obtain⟨p,A0,rfl,hc,hd,hp⟩:=h;refine⟨p,A0,rfl,hc,hd,fun h0=> ?_⟩;obtain⟨b,o,rfl,hb⟩:=hp h0;exact⟨b,o,rfl,fun i hi=>e.get (hb i hi)⟩
theorem Ej.dg {w:World}{v:Value}{xs:List Nat}(h:Ej w v xs):Nm.Dg xs:=by
  obtain⟨p,A0,rfl,hc,hd,hp⟩:=h;exact hd
def Bp (L:Nat)(w:World)(v:Value)(n:Nat):Prop:=∃xs,Ej w v xs/\Nm.val xs=n/\xs.length<=L
def Ce (w:World)(v:Value)(n:Nat):Prop:=Ej w v (Nm.digs n)
theorem Bp.ext {L:Nat}{w w':World}{v:Value}{n:Nat}(h:Bp L w v n)(e:Aa w w'):Bp L w' v n:=by
  obtain⟨xs,h1,h2⟩:=h;exact⟨xs,h1.ext e,h2⟩
theorem Ce.ext {w w':World}{v:Value}{n:Nat}(h:Ce w v n)(e:Aa w w'):Ce w' v n:=Ej.ext h e
theorem Ce.isIn {L:Nat}{w:World}{v:Value}{n:Nat}(h:Ce w v n)(hl:Nm.nl n<=L):Bp L w v n:=⟨_,h,Nm.val_digs n,hl⟩
theorem Bp.mono {L M:Nat}{w:World}{v:Value}{n:Nat}(h:Bp L w v n)(hl:L<=M):Bp M w v n:=by
  obtain⟨xs,h1,h2,h3⟩:=h;exact⟨xs,h1,h2,Aw h3 hl⟩
theorem Bp.nl {L:Nat}{w:World}{v:Value}{n:Nat}(h:Bp L w v n):Nm.nl n<=L:=by
  obtain⟨xs,h1,rfl,h3⟩:=h;exact Aw (Nm.nl_val h1.dg) h3
def Md (n:Nat)(w:World)(e:Ending)(w':World):Prop:=∃v,e= .returned v/\Ce w' v n/\Aa w w'
def Yj (n:Nat)(w:World)(e:Ending)(w':World):Prop:=∃v,e= .returned v/\Ce w v n/\w=w'
def tU (n:Nat)(w:World)(e:Ending)(w':World):Prop:=∃p,e= .returned (.slice p (Nm.digs n).length (Nm.digs n).length)/\Ce w (.slice p (Nm.digs n).length (Nm.digs n).length) n/\w=w'
def uO (n:Nat)(w:World)(e:Ending)(w':World):Prop:=∃p,e= .returned (.slice p (Nm.digs n).length (Nm.digs n).length)/\Ce w' (.slice p (Nm.digs n).length (Nm.digs n).length) n/\Aa w w'
theorem Ry {w:World}{p:Option Addr}{xs:List Nat}(k:Nat)(hk:k<=xs.length)(hd:Nm.Dg xs)
    (hp:0<xs.length->∃b o,p=some ⟨b,o,none⟩/\∀i,i<xs.length->w.cell? ⟨b,o+i,none⟩=some (.int .u32 (xs.getD i 0:Nat))):Ej w (.slice p k k) (xs.take k):=by
  have hl:(xs.take k).length=k:=by rw[wK];omega
  refine⟨p,k,by rw[hl],ω,hd.take k,fun h0=> ?_⟩;obtain⟨b,o,h1,h2⟩:=hp ω;refine⟨b,o,h1,fun i hi=> ?_⟩;rw[h2 i ω,wF,wF,List.getElem?_take_of_lt ω]
theorem My {xs:List Nat}{j:Nat}(hj:j<xs.length)(h0:xs.getD j 0=0)(hz:Nm.val (xs.drop (j+1))=0):Nm.val (xs.drop j)=0:=by
  rw[Nm.val_drop hj,hz];rw[wF,wC hj]at h0;simpa using h0
theorem Qm (v:Value)(xs:List Nat)(w:World)(h:Ej w v xs)(hn:xs.length<=1000000):
    Calls prog 136 #[v] w (tU (Nm.val xs) w):=by
  obtain⟨p,A1,rfl,hc,hd,hp⟩:=h;have HP:=zH hp;clear hp;go_enter func136,ntmps136
  go_wp2_with fail;go_loop [3] (fun i=>∃k:Nat,k<=xs.length/\i= iV k/\Nm.val (xs.drop k)=0) (fun i=>(intOf i).toNat)
  case atStart=>exact⟨xs.length,Bz _,rfl,by simp[Nm.val]⟩
  obtain⟨k,hk,rfl,hz⟩:=hrel;have HZ:=zH hz;clear hz;match k,hk,HZ with
  | 0,hk,HZ=>
    go_wp2_with fail;go_ret;unfold tU Ce;rw[Nm.digs_take hd 0 hk HZ.1 (.inl rfl),wK,Nat.min_eq_left hk];exact⟨_,rfl,Ry 0 hk hd HP.1,rfl⟩
  | j+1,hk,HZ=>
    obtain⟨b,o,rfl,hb⟩:=HP.1 ω;have c0:=hb j ω;clear hb;generalize hx:xs.getD j 0=x at c0
    have HX:=zH hx;clear hx;by_cases h0:x=0
    · subst h0
      go_wp2_with fail;go_round
      case rel=>exact⟨j,ω,rfl,My ω HX.1 HZ.1⟩
      case measure=>simp[intOf]<;>omega
    have A0:((x:Int)==0)=false:=by simp;omega
    have H0:=zH h0;clear h0;go_wp2_with fail;go_ret;unfold tU Ce;rw[Nm.digs_take hd (j+1) hk HZ.1 (.inr (by rw[Nat.add_sub_cancel,HX.1];exact H0.1)),wK,Nat.min_eq_left hk];exact⟨_,rfl,Ry (j+1) hk hd HP.1,rfl⟩
theorem Ci (v:Value)(xs:List Nat)(w:World)(h:Ej w v xs)(hn:xs.length<=1000000):
    Calls prog 136 #[v] w (Yj (Nm.val xs) w):=
  (Qm v xs w h hn).mono fun _ _ ⟨_,h1,h2,h3⟩=>⟨_,h1,h2,h3⟩
theorem Im (v:Value)(xs:List Nat)(i:Int)(w:World)(h:Ej w v xs)(h0:0<=i)(hi:i<=2000000):
    Calls prog 145 #[v,iV i] w fun e w'=>e= .returned (.int .u64 (xs.getD i.toNat 0:Nat))/\w=w':=by
  obtain⟨p,A1,rfl,hc,hd,hp⟩:=h;obtain⟨k,rfl⟩:=Int.eq_ofNat_of_zero_le h0;rw[Int.toNat_natCast];have A0:=hd.getD k;by_cases hk:k<xs.length
  · obtain⟨b,o,rfl,hb⟩:=hp (ω)
    have c0:=hb k hk;clear hb hp hd;generalize xs.getD k 0=x at c0 A0;go_enter func145,ntmps145;go_wp2_with fail;go_ret;exact⟨rfl,rfl⟩
  have e:xs.getD k 0=0:=by rw[wF,xP ω];rfl
  rw[e];clear hp hd A0 e;go_enter func145,ntmps145;go_wp2_with fail;go_ret;exact⟨rfl,rfl⟩
end
section
attribute [local go_sem ↓] Go.wp_at_zero Go.wp_at_succ Az Ay
theorem Nd:(prog.info? 96).map (fun i=>(i.zero,i.size,i.bytes))=some (some (.int .u32 0),1,4):=by kernel_rfl
theorem Gp {k:IntKind}{a b:Int}(h:a=b):Value.int k a=Value.int k b:=by rw[h]
def Bw (xs:List Nat):List Value:=xs.map fun x:Nat=>Value.int .u32 (x:Int)
theorem Fm (xs:List Nat):(Bw xs).length=xs.length:=by simp[Bw]
theorem Ix (xs:List Nat)(i:Nat)(h:i<xs.length):(Bw xs)[i]?=some (.int .u32 (xs.getD i 0:Nat)):=by
  unfold Bw;rw[xJ,wC h,wF,wC h];rfl
theorem dM (xs:List Nat):∀u∈Bw xs,u.oneCell'=true:=by
  intro u hu;obtain⟨x,_,rfl⟩:=List.mem_map.1 hu;rfl
theorem Cs (xs ys:List Nat):Bw (xs++ys)=Bw xs++Bw ys:=by simp[Bw]
def Fi (w:World)(g:Nat)(os:List Nat):Prop:=Al w g 96 (Bw os).toArray
theorem Fi.cell {w:World}{g:Nat}{os:List Nat}(h:Fi w g os){i:Nat}(hi:i<os.length):w.cell? ⟨g,i,none⟩=some (.int .u32 (os.getD i 0:Nat)):=by
  rw[Al.cell h i,wL,Ix os i hi]
theorem Fi.frozen {w:World}{g:Nat}{os:List Nat}(h:Fi w g os)(i:Nat):w.frozen? ⟨g,i,none⟩=false:=Al.frozen h i
theorem Fi.set {w:World}{g:Nat}{os:List Nat}(h:Fi w g os)(i d:Nat):Fi (w.setCell ⟨g,i,none⟩ (.int .u32 (d:Int))) g (os.set i d):=by
  have e:(Bw (os.set i d)).toArray=(Bw os).toArray.setIfInBounds i (.int .u32 (d:Int)):=by
    simp[Bw,List.map_set]
  unfold Fi;rw[e];exact Al.set_ h i _
theorem Fi.setI {w:World}{g:Nat}{os:List Nat}(h:Fi w g os)(i d:Nat){d':Int}(hd:d'=(d:Int)):Fi (w.setCell ⟨g,i,none⟩ (.int .u32 d')) g (os.set i d):=by
  subst hd;exact h.set i d
theorem Fi.ext {w w':World}{g:Nat}{os:List Nat}(h:Fi w g os)(e:Aa w w'):Fi w' g os:=Al.ext h e
theorem Fi.dig {w:World}{g:Nat}{os:List Nat}(h:Fi w g os)(hd:Nm.Dg os)(cap:Nat)(hc:os.length<=cap):Ej w (.slice (π g) os.length cap) os:=
  ⟨_,cap,rfl,hc,hd,fun _=>⟨g,0,rfl,fun i hi=>by rw[wH];exact h.cell hi⟩⟩
def Ht (w:World)(g:Nat)(os:List Nat)(rest:List Value):Prop:=Al w g 96 (Bw os++rest).toArray
theorem Ht.cell {w:World}{g:Nat}{os:List Nat}{rest:List Value}(h:Ht w g os rest){i:Nat}(hi:i<os.length):w.cell? ⟨g,i,none⟩=some (.int .u32 (os.getD i 0:Nat)):=by
  rw[Al.cell h i,wL,wQ (by rw[Fm];exact hi),Ix os i hi]
theorem Ht.frozen {w:World}{g:Nat}{os:List Nat}{rest:List Value}(h:Ht w g os rest)(i:Nat):w.frozen? ⟨g,i,none⟩=false:=Al.frozen h i
theorem Ht.set {w:World}{g:Nat}{os:List Nat}{rest:List Value}(h:Ht w g os rest)(i d:Nat)(hi:i<os.length):Ht (w.setCell ⟨g,i,none⟩ (.int .u32 (d:Int))) g (os.set i d) rest:=by
  have e:(Bw (os.set i d)++rest).toArray=(Bw os++rest).toArray.setIfInBounds i (.int .u32 (d:Int)):=by
    have:i<(Bw os).length:=by rw[Fm];exact hi
    simp only[List.setIfInBounds_toArray,List.set_append_left _ _ this];simp[Bw,List.map_set]
  unfold Ht;rw[e];exact Al.set_ h i _
theorem Ht.setI {w:World}{g:Nat}{os:List Nat}{rest:List Value}(h:Ht w g os rest)(i d:Nat)(hi:i<os.length){d':Int}(hd:d'=(d:Int)):Ht (w.setCell ⟨g,i,none⟩ (.int .u32 d')) g (os.set i d) rest:=by
  subst hd;exact h.set i d hi
theorem Ht.ext {w w':World}{g:Nat}{os:List Nat}{rest:List Value}(h:Ht w g os rest)(e:Aa w w'):Ht w' g os rest:=Al.ext h e
theorem Ht.far {w:World}{g:Nat}{os:List Nat}{rest:List Value}(h:Ht w g os rest){p:Addr}(hp:g≠p.block)(u:Value):Ht (w.setCell p u) g os rest:=Al.far h hp u
theorem Fi.far {w:World}{g:Nat}{os:List Nat}(h:Fi w g os){p:Addr}(hp:g≠p.block)(u:Value):Fi (w.setCell p u) g os:=Al.far h hp u
theorem Fi.own {w w':World}{g g':Nat}{os:List Nat}(h:Fi w g os)(e:Ba g' w w')(hne:g≠g'):Fi w' g os:=
  (e.block g (Al.lt h) (fun x=>hne (by injection x))).trans h
theorem Ht.part {w:World}{g k n cap:Nat}{pre seg post:List Nat}{rest:List Value}(h:Ht w g (pre++(seg++post)) rest)(hk:pre.length=k)(hn:seg.length=n)(hc:n<=cap)(hd:Nm.Dg seg):Ej w (.slice (some ⟨g,k,none⟩) n cap) seg:=by
  refine⟨_,cap,by rw[hn],ω,hd,fun _=>⟨g,k,rfl,fun i hi=> ?_⟩⟩;have:=h.cell (i:=k+i) (by rw[wD,wD];omega);rw[this];subst hk;rw[wF,wF,wJ ω,Nat.add_sub_cancel_left,wQ hi]
theorem iB {w:World}{base:Nat}{v:Value}{xs:List Nat}(h:w.ownsRow base 96 1 v xs.length (Bw xs))(h0:xs≠ []):∃g cap rest,v= .slice (π g) xs.length cap/\base<=g/\xs.length<=cap/\Ht w g xs rest:=by
  rcases h.2 with⟨rfl,hx⟩|⟨g,cap,cur,rfl,hg,hh,hc,hm,hs,ht⟩
  · exact absurd (wP hx) h0
  refine⟨g,cap,cur.toList.drop xs.length,rfl,hg,hc,?_⟩;rw[xR]at ht;unfold Ht Al;rw[hh,<-ht,List.take_append_drop]
theorem uG (n:Nat):madeCells #[Value.int .u32 0] n=(Bw (List.replicate n 0)).toArray:=by
  apply Array.ext
  · rw[size_madeCells];simp[Bw]
  intro i h1 h2;rw[size_madeCells]at h1;simp[madeCells,Bw,Nat.mod_one]
theorem Fk (n:Nat)(hn:n<=4000000)(m:Int)(hm:m=(n:Int))(w:World):
    (Instr.makeSlice 27 (iV m) (iV m)).run prog w= .ok (.slice (π w.heap.size) n n) (w.alloc (.cells (Bw (List.replicate n 0)).toArray 96)):=by
  subst hm;rw[<-uG];exact run_make_row' 27 96 (.int .u32 0) 4 underlying27 Nd rfl .i64 .i64 n ω ω w
theorem Gl (w:World)(os:List Nat):Fi (w.alloc (.cells (Bw os).toArray 96)) w.heap.size os:=Al.new w _ _
theorem Ir {w:World}{base:Nat}{v:Value}{xs:List Nat}(h:w.ownsRow base 96 1 v xs.length (Bw xs))(hd:Nm.Dg xs):Ej w v xs:=by
  rcases h.2 with⟨rfl,hx⟩|⟨g,cap,cur,rfl,hg,hh,hc,hm,hs,ht⟩
  · have:xs=[]:=wP hx
    subst this;exact⟨none,0,rfl,Bz _,hd,fun h0=>absurd rfl (Nat.ne_of_lt h0).symm⟩
  refine⟨_,cap,rfl,hc,hd,fun _=>⟨g,0,rfl,fun i hi=> ?_⟩⟩;have c:=World.ownsRow.cells h (g:=g) rfl _ _ (Ix xs i hi);rwa[Addr.add_lit]at c
theorem Wp (v:Value)(xs:List Nat)(w:World)(h:Ej w v xs)(hn:xs.length<=4000000):
    Calls prog 138 #[v] w fun e w'=>∃v',e= .returned v'/\Ej w' v' xs/\Aa w w':=by
  obtain⟨p,A8,rfl,hc,hd,hp⟩:=h;have B0:∀(w:World) (a:Option Addr) (n c n' c':Nat),(binOp .eql 27 (.slice a n c) (.slice none n' c')).run prog w= .ok (.bool a.isNone) w:=fun w a n c n' c'=>Lib.run_eql_slice_nil w _ _ a n c n' c' underlying27
  have A9:∀w,Sem.run prog (underlying 27) w= .ok (TypeDesc.slice 96) w:=run_underlying underlying27;match p,hp with
  | none,hp=>
    have hx:xs=[]:=by
      rcases Nat.eq_zero_or_pos xs.length with h0|h0
      · exact wP h0
      obtain⟨b,o,h1,_⟩:=hp h0;cases h1
    subst hx;clear hp;go_enter func138,ntmps138;go_wp2_with fail;go_ret;exact⟨_,rfl,⟨none,0,rfl,Bz _,hd,fun h0=>absurd rfl (Nat.ne_of_lt h0).symm⟩,Aa.refl _⟩
  | some a,hp=>
    obtain⟨i0,hi,A6,A5,A4⟩:=info_parts Nd;have A0:∀W,Aa w W->∀j u,(Bw xs)[j]?=some u->W.cell? (a.add j)=some u:=by
      intro W hW j u hj;have A3:j<xs.length:=by
        have:=(List.getElem?_eq_some_iff.1 hj).1;rwa[Fm]at this
      obtain⟨b,o,h1,h2⟩:=hp ω;obtain rfl:a=⟨b,o,none⟩:=Option.some.inj h1;rw[Ix xs j A3]at hj;rw[Addr.add_lit,hW.get (h2 j A3)];exact hj
    have HC:=zH A0;clear A0 hp;go_enter func138,ntmps138;go_wp2_with (at_builtin;refine wpList_append_own _ rfl _ _ 27 rfl w.heap.size 96 i0 (.int .u32 0) 1 4 underlying27 hi A6 A5 A4 rfl (by decide) _ _ _ rfl (World.ownsRow_made w #[] 0 (Bz _) (wM _) rfl) a xs.length A8 (Bw xs) rfl (by rw[Fm];omega) (HC.1 _ (Ak.alloc _)) (dM xs) (by unfold maxLen;omega) ω (by simp) ?_;intro v' w1 A2 A1 A7)
    go_ret;refine⟨v',rfl,Ir (base:=w.heap.size) (by simpa using A2) hd,?_⟩;exact((Aa.refl w).alloc _).grown A1 (fun k hk=>by cases hk;exact Bz _)
theorem Hu (v:Value)(L n:Nat)(w:World)(h:Bp L w v n)(hL:L<=1000000):
    Calls prog 132 #[v] w (Md n w):=by
  obtain⟨xs,hx,rfl,hl⟩:=h;have A1:(Nm.digs (Nm.val xs)).length<=xs.length:=Nm.nl_val hx.dg;have S1:=zH (Ci v xs w hx ω);clear hx;go_enter func132,ntmps132
  go_wp2_with fail;refine S1.1.mono ?_;rintro e w' ⟨u,rfl,hu,rfl⟩;have C1:=zH (Wp u _ w hu ω);clear hu;go_wp2_with fail
  refine C1.1.mono ?_;rintro e w' ⟨u2,rfl,A0,hE⟩;go_wp2_with fail;go_ret;exact⟨u2,rfl,A0,hE⟩
theorem qO (u v:Value)(L a b:Nat)(w:World)(hu:Bp L w u a)(hv:Bp L w v b)(hL:L<=400000):
    Calls prog 96 #[u,v] w (Md (a+b) w):=by
  obtain⟨xs,hx,rfl,B1⟩:=hu;obtain⟨ys,hy,rfl,B0⟩:=hv;have A3:=hx.dg;have A2:=hy.dg;obtain⟨n,hn⟩:∃n,n=max xs.length ys.length:=⟨_,rfl⟩;have hm:max (xs.length:Int) (ys.length:Int)+1=((n+1:Nat):Int):=ω
  have A8:=fun w=>Fk (n+1) ω (max (xs.length:Int) (ys.length:Int)+1) hm w
  have A7:xs.length<=n:=ω;have A6:ys.length<=n:=ω;have B2:n<=400000:=ω;clear hm hn;have HX:=zH hx;have HY:=zH hy;obtain⟨p,cp,rfl,_,_,_⟩:=hx;obtain⟨q,cq,rfl,_,_,_⟩:=hy;have A5:=zH A3;have A4:=zH A2;clear A3 A2;go_enter func96,ntmps96
  go_wp2_with fail;clear A8;go_loopw [6,17] (fun c i wr=>∃k s:Nat,∃os:List Nat,k<=n+1/\i= iV k/\c= .int .u64 s/\s<=1/\os.length=n+1/\Nm.Dg os/\Fi wr w.heap.size os/\Nm.val (os.take k)+4294967296^k*s=Nm.val (xs.take k)+Nm.val (ys.take k)/\Aa w wr) (fun _ i _=>n+1-(intOf i).toNat)
  case atStart=>exact⟨0,0,List.replicate (n+1) 0,wM _,rfl,rfl,ω,by simp,Nm.Dg.zeros _,Gl _ _,by simp[Nm.val],Ak.alloc _⟩
  obtain⟨k,s,os,hk,rfl,rfl,hs,A0,A1,hb,hv,he⟩:=hrel;have HV:=zH hv;have HO:=zH A1;have HL:=zH A0;clear hv A1 A0;by_cases hlt:k<n+1
  · have D1:=zH (Im _ xs k wr (HX.1.ext he) ω ω)
    have D2:=zH (Im _ ys k wr (HY.1.ext he) ω ω);have b1:=A5.1.getD k;have b2:=A4.1.getD k;have B4:=hb.cell (i:=k) (by rw[HL.1];exact hlt);have B3:=hb.frozen k;have HR:=zH (Nm.add_round (by rw[HL.1];exact hlt) HV.1);rw[Int.toNat_natCast]at D1 D2;generalize hgx:xs.getD k 0=x at D1 b1
    generalize hgy:ys.getD k 0=y at D2 b2;have A9:=zH (HR.1 x y hgx hgy);clear hgx hgy HR;go_wp2_with fail;refine D1.1.mono ?_;rintro e w1 ⟨rfl,rfl⟩;go_wp2_with fail;refine D2.1.mono ?_;rintro e w1 ⟨rfl,rfl⟩;go_wp2_with fail;go_roundw
    case rel=>exact⟨k+1,(s+(x+y))/4294967296,os.set k ((s+(x+y))%4294967296),ω,by go_num,Gp ω,ω,by rw[wO];exact HL.1,HO.1.set _ ω,hb.setI k _ ω,A9.1,he.setCell (Bz _) _⟩
    case measure=>simp[intOf]<;>omega
  obtain rfl:k=n+1:=ω;have hv:=Nm.add_done A5.1 A4.1 HL.1 A7 A6 HV.1;have S1:=zH (Ci (.slice (π w.heap.size) os.length (n+1)) os wr (hb.dig HO.1 (n+1) (xF HL.1)) (by rw[HL.1];omega));rw[HL.1,hv]at S1;clear hv;go_wp2_with fail
  refine S1.1.mono ?_;rintro e w1 ⟨v,rfl,hc,rfl⟩;go_wp2_with fail;go_ret;exact⟨v,rfl,hc,he⟩
def Ky (a b:Int):Int:=if a<b then-1 else if b<a then 1 else 0
theorem Ji {a b:Int}(h:a<b):Ky a b= -1:=by unfold Ky;rw[if_pos h]
theorem Jj {a b:Int}(h:b<a):Ky a b=1:=by unfold Ky;rw[if_neg ω,if_pos h]
theorem Kx (a:Int):Ky a a=0:=by unfold Ky;rw[if_neg ω,if_neg ω]
theorem jA {xs ys:List Nat}{j:Nat}(h1:j<xs.length)(h2:j<ys.length)(h:xs.drop (j+1)=ys.drop (j+1))(he:xs.getD j 0=ys.getD j 0):xs.drop j=ys.drop j:=by
  rw[List.drop_eq_getElem_cons h1,List.drop_eq_getElem_cons h2,h];rw[wF,wC h1,wF,wC h2]at he;simp only[Option.getD_some]at he;rw[he]
def Qj (c:Int)(w:World)(e:Ending)(w':World):Prop:=e= .returned (iV c)/\Aa w w'
theorem Rr (u v:Value)(L a b:Nat)(w:World)(hu:Bp L w u a)(hv:Bp L w v b)(hL:L<=1000000):
    Calls prog 137 #[u,v] w (Qj (Ky a b) w):=by
  obtain⟨A1,A4,rfl,B3⟩:=hu;obtain⟨A0,A3,rfl,B1⟩:=hv;have S1:=zH (Ci u A1 w A4 ω);have S2:=zH (Ci v A0 w A3 ω);have l1:(Nm.digs (Nm.val A1)).length<=1000000:=Aw (Nm.nl_val A4.dg) ω;have l2:(Nm.digs (Nm.val A0)).length<=1000000:=Aw (Nm.nl_val A3.dg) ω;have v1:=Nm.val_digs (Nm.val A1);have v2:=Nm.val_digs (Nm.val A0);have d1:=Nm.dg_digs (Nm.val A1);have d2:=Nm.dg_digs (Nm.val A0);have A2:∀a b:Nat,(Nm.digs a).length<(Nm.digs b).length->a<b:=fun a b h=>Nm.digs_lt_of_len h
  clear A4 A3;unfold Yj Ce at S1 S2;have n1:=A2 (Nm.val A1) (Nm.val A0);have n2:=A2 (Nm.val A0) (Nm.val A1);clear A2;rw[<-v1,<-v2];have V1:=zH v1;have V2:=zH v2;clear v1 v2;generalize Nm.digs (Nm.val A1)=xs at S1 l1 d1 n1 n2 V1⊢
  generalize Nm.digs (Nm.val A0)=ys at S2 l2 d2 n1 n2 V2⊢;rw[<-V1.1,<-V2.1]at n1 n2;have B5:=zH d1;have B4:=zH d2;clear V1 V2 d1 d2;go_enter func137,ntmps137
  go_wp2_with fail;refine S1.1.mono ?_;rintro e w1 ⟨u1,rfl,hx,rfl⟩;go_wp2_with fail;refine S2.1.mono ?_;rintro e w1 ⟨v1,rfl,hy,rfl⟩;clear S1 S2;obtain⟨p,cp,rfl,B7,_,A9⟩:=hx;obtain⟨q,cq,rfl,B6,_,A8⟩:=hy;have HX:=zH A9;have HY:=zH A8;clear A9 A8;by_cases hl:xs.length=ys.length
  · have b1:((xs.length:Int) != (ys.length:Int))=false:=by simp[hl]
    have HL:=zH hl;clear n1 n2 hl;go_wp2_with fail;go_loopw [5] (fun i wr=>∃k:Nat,k<=xs.length/\i= iV ((k:Int)-1)/\xs.drop k=ys.drop k/\Aa w wr) (fun i _=>(intOf i+1).toNat)
    case atStart=>exact⟨xs.length,Bz _,rfl,by rw[List.drop_eq_nil_of_le (Bz _),List.drop_eq_nil_of_le (by rw[HL.1];exact Bz _)],Aa.refl _⟩
    obtain⟨k,hk,rfl,hz,he⟩:=hrel;have HZ:=zH hz;clear hz;match k,hk,HZ with
    | 0,hk,HZ=>
      have B2:xs=ys:=HZ.1;subst B2;go_wp2_with fail;go_ret;exact⟨Ey (Kx _).symm,he⟩
    | j+1,hk,HZ=>
      obtain⟨b,o,rfl,hb⟩:=HX.1 ω;obtain⟨b',o',rfl,B0⟩:=HY.1 (by rw[<-HL.1];omega);have c0:=he.get (hb j ω);have c1:=he.get (B0 j (by rw[<-HL.1];omega));clear hb B0;generalize hgx:xs.getD j 0=x at c0
      generalize hgy:ys.getD j 0=y at c1;have A7:=zH hgx;have A6:=zH hgy;clear hgx hgy;have i0:(0:Int)<=(j:Int):=ω
      have i1:(j:Int)<(xs.length:Int):=ω;have i2:(j:Int)<(ys.length:Int):=by rw[<-HL.1];omega
      rcases Nat.lt_trichotomy x y with hlt|heq|A5
      · have HR:=zH (Nm.val_lt_of B5.1 HL.1 ω HZ.1 (by rw[A7.1,A6.1];exact hlt))
        go_wp2_with fail;go_quiet (fail)
        go_wp2_with fail;go_ret;exact⟨Ey (Ji (Int.ofNat_lt.2 HR.1)).symm,he.drewN _⟩
      · subst heq
        have HR:=zH (jA ω (by rw[<-HL.1];omega) HZ.1 (A7.1.trans A6.1.symm));go_wp2_with fail;go_quiet (fail)
        go_wp2_with fail;go_quiet (fail)
        go_wp2_with fail;go_roundw
        case rel=>exact⟨j,ω,by go_num,HR.1,he.drewN _⟩
        case measure=>simp[intOf]<;>omega
      have HR:=zH (Nm.val_lt_of B4.1 HL.1.symm (by rw[<-HL.1];omega) HZ.1.symm (by rw[A7.1,A6.1];exact A5));go_wp2_with fail;go_quiet (fail)
      go_wp2_with fail;go_quiet (fail)
      go_wp2_with fail;go_ret;exact⟨Ey (Jj (Int.ofNat_lt.2 HR.1)).symm,(he.drewN _).drewN _⟩
  have b1:((xs.length:Int) != (ys.length:Int))=true:=by simp;omega
  rcases Nat.lt_or_ge xs.length ys.length with h|h
  · have HR:=zH (n1 h)
    clear n1 n2;go_wp2_with fail;go_ret;exact⟨Ey (Ji (Int.ofNat_lt.2 HR.1)).symm,Aa.refl _⟩
  have A5:ys.length<xs.length:=ω;have HR:=zH (n2 A5);clear n1 n2;go_wp2_with fail;go_ret;exact⟨Ey (Jj (Int.ofNat_lt.2 HR.1)).symm,Aa.refl _⟩
def nP (a b:Nat)(w:World)(e:Ending)(w':World):Prop:=
  (b<=a/\∃v,e= .returned (.tuple #[v,.bool true])/\Ce w' v (a-b)/\Aa w w')\/(a<b/\e= .returned (.tuple #[.slice none 0 0,.bool false])/\Aa w w')
theorem eB (u v:Value)(L a b:Nat)(w:World)(hu:Bp L w u a)(hv:Bp L w v b)(hL:L<=400000):
    Calls prog 97 #[u,v] w (nP a b w):=by
  have C1:=zH (Rr u v L a b w hu hv ω);by_cases hab:a<b
  · have b1:decide (Ky (a:Int) (b:Int)<0)=true:=by rw[Ji ω];rfl
    rw[Ji ω]at C1;clear b1;have A3:=zH hab;clear hab hu hv;go_enter func97,ntmps97
    go_wp2_with fail;refine C1.1.mono ?_;rintro e w1 ⟨rfl,he⟩;go_wp2_with fail;go_ret2;exact .inr ⟨A3.1,rfl,he⟩
  have B1:(0:Int)<=Ky (a:Int) (b:Int):=by
    by_cases h:(b:Int)<a
    · rw[Jj h];omega
    have:(a:Int)=b:=ω;rw[this,Kx];exact Int.le_refl _
  generalize Ky (a:Int) (b:Int)=c at C1 B1;obtain⟨xs,hx,A1,B9⟩:=hu;obtain⟨ys,hy,A4,B8⟩:=hv;have A5:=hx.dg;have B2:=hy.dg;have B0:=Nm.nl_val A5;have A0:=Nm.lt_pow_nl (Nm.val xs);rw[A1]at B0 A0;obtain⟨n,hn⟩:∃n,n=Nm.nl a:=⟨_,rfl⟩;have B4:=fun w=>Fk n ω (n:Int) rfl w
  have T1:=zH (Nm.val_take_of_lt (xs:=xs) (n:=n) (by rw[A1,hn];exact A0));have T2:=zH (Nm.val_take_of_lt (xs:=ys) (n:=n) (by rw[A4,hn];omega));have C0:n<=400000:=ω
  have HN:=zH hn;have A3:=zH (Nat.le_of_not_lt hab);have A6:=zH A1;have B3:=zH A4;have HX:=zH hx;have HY:=zH hy;have S1:=zH (fun W (h:Aa w W)=>Ci u xs W (hx.ext h) ω);clear hn A1 A4 hab A0 B0 hy hx;have B7:=zH A5;have B6:=zH B2;clear A5 B2;go_enter func97,ntmps97
  go_wp2_with fail;refine C1.1.mono ?_;rintro e w1 ⟨rfl,A2⟩;go_wp2_with fail;refine(S1.1 w1 A2).mono ?_;rintro e w2 ⟨v2,rfl,B5,rfl⟩;obtain⟨p2,C4,rfl,_,_,_⟩:=B5;rw[A6.1,show(Nm.digs a).length=n from HN.1.symm];go_wp2_with fail;clear B4 S1 C1 B1;go_loopw [7,20] (fun c i wr=>∃k s:Nat,∃os:List Nat,k<=n/\i= iV k/\c= .int .u64 s/\s<=1/\os.length=n/\Nm.Dg os/\Fi wr w1.heap.size os/\Nm.val (os.take k)+Nm.val (ys.take k)=Nm.val (xs.take k)+4294967296^k*s/\Aa w1 wr) (fun _ i _=>n-(intOf i).toNat)
  case atStart=>exact⟨0,0,List.replicate n 0,wM _,rfl,rfl,ω,by simp,Nm.Dg.zeros _,Gl _ _,by simp[Nm.val],Ak.alloc _⟩
  obtain⟨k,s,os,hk,rfl,rfl,hs,A8,A9,hb,hv,he⟩:=hrel;have HV:=zH hv;have HO:=zH A9;have HL:=zH A8;clear hv A9 A8;by_cases hlt:k<n
  · have D1:=zH (Im u xs k wr (HX.1.ext (A2.trans he)) ω ω)
    have D2:=zH (Im v ys k wr (HY.1.ext (A2.trans he)) ω ω);have b1:=B7.1.getD k;have b2:=B6.1.getD k;have C3:=hb.cell (i:=k) (by rw[HL.1];exact hlt);have C2:=hb.frozen k;have HR:=zH (Nm.sub_round (by rw[HL.1];exact hlt) HV.1);rw[Int.toNat_natCast]at D1 D2;generalize hgx:xs.getD k 0=x at D1 b1
    generalize hgy:ys.getD k 0=y at D2 b2;have A7:=zH (fun d b e=>HR.1 x y d b hgx hgy e);clear hgx hgy HR;rcases Nat.lt_or_ge x (y+s)with hc|hc
    · by_cases hxy:x<y
      · go_wp2_with fail
        refine D1.1.mono ?_;rintro e w2 ⟨rfl,rfl⟩;go_wp2_with fail;refine D2.1.mono ?_;rintro e w2 ⟨rfl,rfl⟩;go_wp2_with fail;clear D1 D2;go_roundw
        case rel=>exact⟨k+1,1,os.set k (4294967296+x-y-s),ω,by go_num,Gp (by simp only[IntKind.wrap_u64];omega),ω,by rw[wO];exact HL.1,HO.1.set _ ω,hb.setI k _ (by simp only[IntKind.wrap_u64];omega),A7.1 _ _ ω,he.setCell (Bz _) _⟩
        case measure=>simp[intOf]<;>omega
      obtain rfl:x=y:=ω;obtain rfl:s=1:=ω;go_wp2_with fail;refine D1.1.mono ?_;rintro e w2 ⟨rfl,rfl⟩;go_wp2_with fail;refine D2.1.mono ?_;rintro e w2 ⟨rfl,rfl⟩;go_wp2_with fail;clear D1 D2;go_roundw
      case rel=>exact⟨k+1,1,os.set k 4294967295,ω,by go_num,Gp (by simp only[IntKind.wrap_u64];omega),ω,by rw[wO];exact HL.1,HO.1.set _ ω,hb.setI k _ (by simp only[IntKind.wrap_u64];omega),A7.1 _ _ ω,he.setCell (Bz _) _⟩
      case measure=>simp[intOf]<;>omega
    go_wp2_with fail;refine D1.1.mono ?_;rintro e w2 ⟨rfl,rfl⟩;go_wp2_with fail;refine D2.1.mono ?_;rintro e w2 ⟨rfl,rfl⟩;go_wp2_with fail;clear D1 D2;go_roundw
    case rel=>exact⟨k+1,0,os.set k (x-y-s),ω,by go_num,Gp ω,ω,by rw[wO];exact HL.1,HO.1.set _ ω,hb.setI k _ ω,A7.1 _ _ ω,he.setCell (Bz _) _⟩
    case measure=>simp[intOf]<;>omega
  obtain rfl:k=n:=ω;have hv:=Nm.sub_done HO.1 HL.1 T1.1 T2.1 (by rw[A6.1,B3.1];exact A3.1) HV.1;have S1:=zH (Ci (.slice (π w1.heap.size) os.length k) os wr (hb.dig HO.1 k (xF HL.1)) (by rw[HL.1];omega));rw[HL.1,hv,A6.1,B3.1]at S1;clear hv;go_wp2_with fail
  refine S1.1.mono ?_;rintro e w2 ⟨v2,rfl,hc,rfl⟩;go_wp2_with fail;go_ret2;exact .inl ⟨A3.1,v2,rfl,hc,A2.trans he⟩
theorem pE (u v:Value)(L a b:Nat)(w:World)(hu:Bp L w u a)(hv:Bp L w v b)(hL:L<=400000):
    Calls prog 99 #[u,v] w (Md (a*b) w):=by
  have C3:=hu.nl;have C2:=hv.nl;obtain⟨D2,A0,B5,A7⟩:=hu;obtain⟨D1,B4,B3,A6⟩:=hv;have S1:=zH (Ci u D2 w A0 ω);have S2:=zH (Ci v D1 w B4 ω);unfold Yj Ce at S1 S2;rw[B5]at S1;rw[B3]at S2;clear A0 B4 B5 B3 A7 A6;have C6:=zH (Nm.val_digs a);have C5:=zH (Nm.val_digs b);have D0:=zH (Nm.dg_digs a);have C9:=zH (Nm.dg_digs b);unfold Nm.nl at C3 C2;generalize Nm.digs a=xs at S1 C6 D0 C3
  generalize Nm.digs b=ys at S2 C5 C9 C2;have D4:=fun w=>Fk (xs.length+ys.length) ω ((xs.length:Int)+(ys.length:Int)) ω w
  go_enter func99,ntmps99;go_wp2_with fail;go_step3
  go_wp2_with fail;refine S1.1.mono ?_;rintro e w1 ⟨u1,rfl,hx,rfl⟩;go_wp2_with fail;refine S2.1.mono ?_;rintro e w1 ⟨v1,rfl,hy,rfl⟩;clear S1 S2;obtain⟨p,cp,rfl,D6,_,B9⟩:=hx;obtain⟨q,cq,rfl,D5,_,B8⟩:=hy;have HX:=zH B9;have HY:=zH B8;clear B9 B8;go_wp2_with fail
  clear D4;go_step3
  go_wp2_with fail;go_loopw [23] (fun i wr=>∃k:Nat,∃os:List Nat,k<=xs.length/\i= iV k/\os.length=xs.length+ys.length/\Nm.Dg os/\Fi wr w.heap.size os/\Nm.Zeros os (k+ys.length)/\Nm.val os=Nm.val (xs.take k)*Nm.val ys/\Aa w wr) (fun i _=>xs.length-(intOf i).toNat)
  case atStart=>exact⟨0,List.replicate (xs.length+ys.length) 0,wM _,rfl,by simp,Nm.Dg.zeros _,Gl _ _,Nm.Zeros.all _ _,by rw[Nm.val_zeros];simp[Nm.val],Ak.alloc _⟩
  obtain⟨k,os,hk,rfl,C0,C1,hb,hz,hv,he⟩:=hrel;have HV:=zH hv;have HO:=zH C1;have HL:=zH C0;have HZ:=zH hz;clear hv C1 C0 hz;by_cases hlt:k<xs.length
  · obtain⟨bx,ox,rfl,A9⟩:=HX.1 (ω)
    have c0:=A9 k hlt;have E0:=zH A9;clear A9;have x1:=D0.1.getD k;generalize hgx:xs.getD k 0=x at c0 x1
    have C8:=zH hgx;clear hgx;have cw:=he.get c0;by_cases A0:x=0
    · subst A0
      go_wp2_with fail;go_roundw
      case rel=>exact⟨k+1,os,ω,by go_num,HL.1,HO.1,hb,HZ.1.mono ω,Nm.mul_skip C8.1 HV.1,he⟩
      case measure=>simp[intOf]<;>omega
    have D8:((x:Int)==0)=false:=by simp;omega
    have D9:=zH A0;clear A0;go_wp2_with fail;obtain⟨wo,D3⟩:∃wo:World,wo=wr:=⟨_,rfl⟩;subst D3;go_loopw [8,32] (fun c i wr2=>∃j s:Nat,∃os:List Nat,j<=ys.length/\i= iV j/\c= .int .u64 s/\s<4294967296/\os.length=xs.length+ys.length/\Nm.Dg os/\Fi wr2 w.heap.size os/\Nm.Zeros os (k+ys.length)/\Nm.val os+4294967296^(k+j)*s=Nm.val (xs.take k)*Nm.val ys+4294967296^k*(x*Nm.val (ys.take j))/\Aa w wr2) (fun _ i _=>ys.length-(intOf i).toNat)
    case atStart=>exact⟨0,0,os,wM _,rfl,rfl,ω,HL.1,HO.1,hb,HZ.1,Nm.mul_start HV.1,he⟩
    obtain⟨j,s,A5,hj,rfl,rfl,hs,A3,A4,A1,B2,B7,A8⟩:=hrel;have C7:=zH B7;have B1:=zH A4;have A2:=zH A3;have B0:=zH B2;clear B7 A4 A3 B2 cw;by_cases hjl:j<ys.length
    · obtain⟨D7,oy,rfl,C4⟩:=HY.1 (ω)
      have c1:=A8.get (C4 j hjl);clear C4;have y1:=C9.1.getD j;have o1:=B1.1.getD (k+j);have c2:=A1.cell (i:=k+j) (by rw[A2.1];omega);have f2:=A1.frozen (k+j);generalize hgy:ys.getD j 0=y at c1 y1
      generalize hgo:A5.getD (k+j) 0=o at c2 o1;have HR:=zH (fun d c2 e=>Nm.mul_round (by rw[A2.1];omega) C7.1 y o d c2 hgy hgo e);clear hgy hgo;have m1:=Nm.digit_mul x1 y1;have m2:(0:Int)<=(x:Int)*(y:Int):=by rw[<-wZ];exact Int.natCast_nonneg _
      have m3:(x:Int)*(y:Int)<=18446744065119617025:=by rw[<-wZ];exact Int.ofNat_le.2 m1
      go_wp2_with fail;go_roundw
      case rel=>exact⟨j+1,(s+(x*y+o))/4294967296,A5.set (k+j) ((s+(x*y+o))%4294967296),ω,by go_num,Gp ω,ω,by rw[wO];exact A2.1,B1.1.set _ ω,A1.setI (k+j) _ ω,B0.1.set ω,HR.1 _ _ ω,A8.setCell (Bz _) _⟩
      case measure=>simp[intOf]<;>omega
    obtain rfl:j=ys.length:=ω;have c2:=A1.cell (i:=k+ys.length) (by rw[A2.1];omega);have f2:=A1.frozen (k+ys.length);have HR:=zH (Nm.mul_row (by rw[A2.1];omega) B0.1 C8.1 C7.1);go_wp2_with fail
    go_roundw
    case rel=>exact⟨k+1,A5.set (k+ys.length) s,ω,by go_num,by rw[wO];exact A2.1,B1.1.set _ ω,A1.setI (k+ys.length) _ ω,(B0.1.mono ω).set ω,HR.1,A8.setCell (Bz _) _⟩
    case measure=>simp[intOf]<;>omega
  obtain rfl:k=xs.length:=ω;have B6:Nm.val os=a*b:=by rw[HV.1,xK,C6.1,C5.1]
  have S1:=zH (Ci (.slice (π w.heap.size) os.length (xs.length+ys.length)) os wr (hb.dig HO.1 _ (xF HL.1)) (by rw[HL.1];omega));rw[HL.1,B6]at S1;clear B6;go_wp2_with fail;refine S1.1.mono ?_;rintro e w2 ⟨v2,rfl,hc,rfl⟩;go_wp2_with fail;try rw[Exit.noGoto_ret]
  go_ret;exact⟨v2,rfl,hc,he⟩
end
namespace Nm
theorem guess_dec {P ul vl u2 v2 v1 top q r:Nat}(hul:ul<P)(hqr:q*v1+r=top)(h:4294967296<=q\/r*4294967296+u2<q*v2)
    (hUV:ul+P*(u2+4294967296*top)<4294967296*(vl+P*(v2+4294967296*v1))):
    (ul+P*(u2+4294967296*top))/(vl+P*(v2+4294967296*v1))<q:=by
  have hV:0<vl+P*(v2+4294967296*v1):=ω;rw[Nat.div_lt_iff_lt_mul hV];rcases h with h|h
  · exact xG hUV (xC _ h)
  have e1:q*(vl+P*(v2+4294967296*v1))=q*vl+P*(q*v2+4294967296*(q*v1)):=by grind
  have h2:P*(u2+4294967296*top+1)<=P*(q*v2+4294967296*(q*v1)):=wW _ ω;rw[wY _ _ 1,xR]at h2;omega
theorem guess_exit {P ul vl u2 v2 v1 top q r:Nat}(hvl:vl<P)(hv1:1<=v1)(hqr:q*v1+r=top)(hq:q<4294967296)(h:q*v2<=r*4294967296+u2):
    q<=(ul+P*(u2+4294967296*top))/(vl+P*(v2+4294967296*v1))+1:=by
  have hP:0<P:=ω;have hV:0<vl+P*(v2+4294967296*v1):=by
    have:P*1<=P*(v2+4294967296*v1):=wW _ ω;omega
  rcases Nat.eq_zero_or_pos q with h0|h0
  · rw[h0];exact wM _
  have:q-1<=(ul+P*(u2+4294967296*top))/(vl+P*(v2+4294967296*v1)):=by
    rw[Nat.le_div_iff_mul_le hV];have e1:q*(vl+P*(v2+4294967296*v1))=q*vl+P*(q*v2+4294967296*(q*v1)):=by grind
    have e2:(q-1)*(vl+P*(v2+4294967296*v1))+(vl+P*(v2+4294967296*v1))=q*(vl+P*(v2+4294967296*v1)):=by
      rw[<-Nat.succ_mul,Nat.succ_eq_add_one,Nat.sub_add_cancel h0]
    have h2:P*(q*v2+4294967296*(q*v1))<=P*(u2+4294967296*top):=wW _ ω;have h3:q*vl<=4294967296*P:=Nat.mul_le_mul ω ω;have h4:P*(4294967296*1)<=P*(v2+4294967296*v1):=wW _ ω;omega
  omega
theorem guess_brk {P ul vl u2 v2 v1 top q r:Nat}(hvl:vl<P)(hv2:v2<4294967296)(hv1:1<=v1)(hqr:q*v1+r=top)(hq:q<=4294967296)(hr:4294967296<=r):
    q<=(ul+P*(u2+4294967296*top))/(vl+P*(v2+4294967296*v1)):=by
  have hP:0<P:=ω;have hV:0<vl+P*(v2+4294967296*v1):=by
    have:P*1<=P*(v2+4294967296*v1):=wW _ ω;omega
  rw[Nat.le_div_iff_mul_le hV];have e1:q*(vl+P*(v2+4294967296*v1))=q*(vl+P*v2)+P*(4294967296*(q*v1)):=by grind
  have h1:vl+P*v2<=P*4294967296:=by
    have:P*(v2+1)<=P*4294967296:=wW _ ω;rw[wY]at this;omega
  have h2:q*(vl+P*v2)<=4294967296*(P*4294967296):=Nat.mul_le_mul hq h1;have h3:P*(4294967296*(q*v1)+4294967296*4294967296)<=P*(u2+4294967296*top):=wW _ ω;rw[wY]at h3;have e2:4294967296*(P*4294967296)=P*(4294967296*4294967296):=by grind
  omega
theorem guess_start {P ul vl u2 v2 v1 top:Nat}(hul:ul<P)(hv1:1<=v1)(hu2:u2<4294967296):
    (ul+P*(u2+4294967296*top))/(vl+P*(v2+4294967296*v1))<=top/v1:=by
  have hP:0<P:=ω;have hV:0<vl+P*(v2+4294967296*v1):=by
    have:P*1<=P*(v2+4294967296*v1):=wW _ ω;omega
  apply Nat.le_of_lt_succ;rw[Nat.div_lt_iff_lt_mul hV];have h1:=Nat.lt_mul_div_succ top (show 0<v1 by omega);have h2:P*(u2+4294967296*top+1)<=P*(4294967296*(v1*(top/v1+1))):=wW _ ω;rw[wY _ _ 1,xR]at h2;have e1:(top/v1).succ*(vl+P*(v2+4294967296*v1))=(top/v1+1)*(vl+P*v2)+P*(4294967296*(v1*(top/v1+1))):=by
    rw[Nat.succ_eq_add_one];grind
  omega
theorem take_step {lo hi q y k x d b b2:Nat}(h1:k+q*y=lo+4294967296*hi)(h2:x+4294967296*b2=d+lo+b){s t a p:Nat}(hs:s+q*t=a+p*(k+b)):
    s+p*d+q*(t+p*y)=a+p*x+p*4294967296*(hi+b2):=by
  have e1:p*(k+q*y)=p*(lo+4294967296*hi):=by rw[h1]
  have e2:p*(x+4294967296*b2)=p*(d+lo+b):=by rw[h2]
  grind
theorem val_set_drop {os:List Nat}{j:Nat}(hj:j<os.length)(q:Nat):val ((os.set j q).drop j)=q+4294967296*val (os.drop (j+1)):=by
  have A0:j<(os.set j q).length:=by rw[wO];exact hj
  rw[val_drop A0,List.getElem_set_self,List.drop_set_of_lt ω]
theorem one_round {xs os:List Nat}{j r d:Nat}(hj:j<os.length)(hjx:j<xs.length)(h:val (os.drop (j+1))*d+r=val (xs.drop (j+1)))(x q r2:Nat)(hx:xs.getD j 0=x)(e:4294967296*r+x=q*d+r2):
    val ((os.set j q).drop j)*d+r2=val (xs.drop j):=by
  rw[val_set_drop hj,val_drop hjx];rw[wF,wC hjx]at hx;simp only[Option.getD_some]at hx;rw[hx,<-h,xL,wY,Nat.mul_assoc];omega
theorem div_of {q d r v:Nat}(hr:r<d)(h:q*d+r=v):q=v/d/\r=v%d:=by
  subst h;have hd:0<d:=ω
  rw[xN q d];constructor
  · rw[Nat.mul_add_div hd,Nat.div_eq_of_lt hr,xO]
  rw[Nat.mul_add_mod,Nat.mod_eq_of_lt hr]
theorem getD_set_ne {os:List Nat}{i j d:Nat}(h:i≠j):(os.set i d).getD j 0=os.getD j 0:=by
  rw[wF,wF,List.getElem?_set_ne h]
theorem getD_set_self {os:List Nat}{i d:Nat}(h:i<os.length):(os.set i d).getD i 0=d:=by
  rw[wF,List.getElem?_set_self h];rfl
theorem shl_parts {x k:Nat}(hx:x<4294967296)(hk:k<32):(x*2^k)/4294967296<2^k/\(x*2^k)%4294967296%2^k=0/\x*2^k<4294967296*2^k/\2^k<=2147483648/\4294967296%2^k=0:=by
  have hp:0<2^k:=Nat.two_pow_pos k;have h1:x*2^k<4294967296*2^k:=Nat.mul_lt_mul_of_pos_right hx hp;have h2:2^k∣4294967296:=⟨2^(32-k),by rw[<-Nat.pow_add,show k+(32-k)=32 by omega]⟩;refine⟨by rw[Nat.div_lt_iff_lt_mul ω,xN (2^k)];exact h1,?_,h1,?_,Nat.mod_eq_zero_of_dvd h2⟩
  · rw[Nat.mod_mod_of_dvd _ h2,Nat.mul_mod_left]
  exact Aw (Nat.pow_le_pow_right ω (show k<=31 by omega)) (by decide)
theorem shl_fit {o p m:Nat}(ho:o<p)(hm:m%p=0)(hb:m<4294967296)(hp:4294967296%p=0):o+m<4294967296:=by
  have A0:0<p:=ω;obtain⟨q,hq⟩:=Nat.dvd_of_mod_eq_zero hm;obtain⟨r,hr⟩:=Nat.dvd_of_mod_eq_zero hp;have:q<r:=by
    apply Nat.lt_of_mul_lt_mul_left (a:=p);omega
  have h2:p*(q+1)<=p*r:=wW _ this;rw[wY,xR]at h2;omega
theorem shl_arith {P v v2 o x p wl wh s:Nat}(h:v+P*o=s*p)(hw:x*p=wl+4294967296*wh)(h2:v2=v+P*(o+wl)):v2+P*4294967296*wh=(s+P*x)*p:=by
  have e:P*(x*p)=P*(wl+4294967296*wh):=congrArg (P* ·) hw;rw[wY,<-Nat.mul_assoc P 4294967296]at e;rw[h2,wY,xL,Nat.mul_assoc P x p,<-h,e];generalize P*4294967296*wh=z;omega
theorem shl_round {xs os:List Nat}{i p:Nat}(hi:i+1<os.length)(h:val (os.take i)+4294967296^i*os.getD i 0=val (xs.take i)*p)(x o:Nat)(hx:xs.getD i 0=x)(ho:os.getD i 0=o)(wl wh:Nat)(hw:x*p=wl+4294967296*wh):
    val (((os.set i (o+wl)).set (i+1) wh).take (i+1))+4294967296^(i+1)*((os.set i (o+wl)).set (i+1) wh).getD (i+1) 0=val (xs.take (i+1))*p:=by
  rw[List.take_set_of_le (Bz _),getD_set_self (by rw[wO];exact hi),val_take_succD xs,hx,Nat.pow_succ];rw[ho]at h;exact shl_arith h hw (val_set_take ω _)
theorem shl_done {xs os:List Nat}{n p:Nat}(hn:os.length=n+1)(hx:xs.length<=n)(h:val (os.take n)+4294967296^n*os.getD n 0=val (xs.take n)*p):val os=val xs*p:=by
  rw[val_take_len hx]at h;rw[<-h,<-val_take_succD,val_take_len ω]
theorem pow_dvd32 {k:Nat}(hk:k<32):4294967296=2^k*2^(32-k):=by rw[<-Nat.pow_add,show k+(32-k)=32 by omega]
theorem shr_arith {x y z k:Nat}(hk:k<32):(x+y*4294967296)/2^k%4294967296=(x+4294967296*(y+4294967296*z))/2^k%4294967296:=by
  have e:=pow_dvd32 hk;generalize 2^(32-k)=m at e;have hp:0<2^k:=Nat.two_pow_pos k;have e2:x+4294967296*(y+4294967296*z)=x+y*4294967296+2^k*(4294967296*(m*z)):=by
    rw[Nat.mul_left_comm (2^k),<-Nat.mul_assoc (2^k),<-e];omega
  rw[e2,Nat.add_mul_div_left _ _ hp,Nat.add_mul_mod_self_left]
theorem shr_round {xs os:List Nat}{i k:Nat}(hd:Dg xs)(hk:k<32)(hi:i<os.length)(hix:i<xs.length)(h:val (os.take i)=(val xs/2^k)%4294967296^i)(x y:Nat)(hx:xs.getD i 0=x)(hy:xs.getD (i+1) 0=y):
    val ((os.set i ((x+y*4294967296)/2^k%4294967296)).take (i+1))=(val xs/2^k)%4294967296^(i+1):=by
  rw[val_set_take hi,h,Nat.mod_pow_succ];congr 2;have e1:val xs/2^k/4294967296^i=val (xs.drop i)/2^k:=by
    rw[Nat.div_div_eq_div_mul,xN,<-Nat.div_div_eq_div_mul];congr 1;rw[val_split xs i ω,Nat.add_mul_div_left _ _ (pow_pos32 i),Nat.div_eq_of_lt (val_take_lt hd i),wH]
  rw[e1,val_drop hix];rw[wF,wC hix]at hx;simp only[Option.getD_some]at hx;rw[hx];by_cases h2:i+1<xs.length
  · rw[val_drop h2]
    rw[wF,wC h2]at hy;simp only[Option.getD_some]at hy;rw[hy];exact shr_arith hk
  rw[wF,xP ω]at hy;simp only[Option.getD_none]at hy;subst hy;rw[List.drop_eq_nil_of_le ω,val_nil]
theorem shr_done {xs os:List Nat}{n k:Nat}(hd:Dg xs)(hn:os.length=n)(hx:xs.length<=n)(h:val (os.take n)=(val xs/2^k)%4294967296^n):val os=val xs/2^k:=by
  rw[val_take_len ω]at h;rw[h];exact Nat.mod_eq_of_lt (Nat.lt_of_le_of_lt (Nat.div_le_self _ _) (val_lt_pow hd hx))
theorem getD_eq {xs:List Nat}{i:Nat}(h:i<xs.length):xs.getD i 0=xs[i]:=by
  rw[wF,wC h];rfl
theorem split3 {us:List Nat}{m:Nat}(h:us.length=m+3):val us=val (us.take m)+4294967296^m*(us.getD m 0+4294967296*(us.getD (m+2) 0*4294967296+us.getD (m+1) 0)):=by
  rw[val_split us m ω,val_drop (i:=m) ω,val_drop (i:=m+1) ω,val_drop (i:=m+2) ω,List.drop_eq_nil_of_le ω,val_nil];rw[getD_eq ω,getD_eq ω,getD_eq ω];generalize us[m+2]=c;generalize us[m+1]=b;generalize us[m]=a;rw[Nat.mul_zero,xO,xN c,Nat.add_comm b]
theorem split2 {vs:List Nat}{m:Nat}(h:vs.length=m+2):val vs=val (vs.take m)+4294967296^m*(vs.getD m 0+4294967296*vs.getD (m+1) 0):=by
  rw[val_split vs m ω,val_drop (i:=m) ω,val_drop (i:=m+1) ω,List.drop_eq_nil_of_le ω,val_nil];rw[getD_eq ω,getD_eq ω];rw[Nat.mul_zero,xO]
theorem guess_first {P ul vl u2 v2 v1 top:Nat}(hvl:vl<P)(hv2:v2<4294967296)(hv1:2147483648<=v1)
    (hUV:ul+P*(u2+4294967296*top)<4294967296*(vl+P*(v2+4294967296*v1))):top/v1<=4294967297:=by
  have h1:vl+P*v2<P*4294967296:=by
    have:P*(v2+1)<=P*4294967296:=wW _ ω;rw[wY]at this;omega
  have h2:P*(4294967296*top)<P*(4294967296*(4294967296*(v1+1))):=by
    have e1:4294967296*(vl+P*(v2+4294967296*v1))=4294967296*(vl+P*v2)+P*(4294967296*(4294967296*v1)):=by grind
    have e2:P*(4294967296*(4294967296*(v1+1)))=P*(4294967296*(4294967296*v1))+4294967296*(P*4294967296):=by grind
    have e3:P*(u2+4294967296*top)=P*u2+P*(4294967296*top):=wY _ _ _;omega
  have h3:=Nat.lt_of_mul_lt_mul_left h2;apply Nat.le_of_lt_succ;rw[Nat.div_lt_iff_lt_mul ω];omega
theorem seg_set {pre seg post:List Nat}{i k:Nat}(d:Nat)(hk:pre.length=k)(hi:i<seg.length):(pre++(seg++post)).set (k+i) d=pre++(seg.set i d++post):=by
  subst hk;rw[List.set_append_right _ _ ω,Nat.add_sub_cancel_left,List.set_append_left _ _ hi]
theorem seg_get {pre seg post:List Nat}{i k:Nat}(hk:pre.length=k)(hi:i<seg.length):(pre++(seg++post)).getD (k+i) 0=seg.getD i 0:=by
  subst hk;rw[wF,wF,wJ ω,Nat.add_sub_cancel_left,wQ hi]
theorem take_round {us vs os:List Nat}{i c s q:Nat}(hi:i<os.length)(h:val (os.take i)+q*val (vs.take i)=val (us.take i)+4294967296^i*(c+s))(x y lo hi2 d b:Nat)(hx:us.getD i 0=x)(hy:vs.getD i 0=y)(e1:c+q*y=lo+4294967296*hi2)(e2:x+4294967296*b=d+lo+s):
    val ((os.set i d).take (i+1))+q*val (vs.take (i+1))=val (us.take (i+1))+4294967296^(i+1)*(hi2+b):=by
  rw[val_set_take hi,val_take_succD vs,val_take_succD us,hx,hy,Nat.pow_succ];exact take_step e1 e2 h
theorem take_last {us os:List Nat}{n V c s q x d b:Nat}(hn:os.length=n+1)(hu:us.length=n+1)(h:val (os.take n)+q*V=val (us.take n)+4294967296^n*(c+s))(hx:us.getD n 0=x)(e2:x+4294967296*b=d+c+s):
    val (os.set n d)+q*V=val us+4294967296^(n+1)*b:=by
  have h1:val (os.set n d)=val (os.take n)+4294967296^n*d:=by
    rw[<-val_set_take ω,wI (by rw[wO];omega)]
  have h2:val us=val (us.take n)+4294967296^n*x:=by
    rw[<-hx,<-val_take_succD,wI ω]
  rw[h1,h2,Nat.pow_succ];have e3:4294967296^n*(x+4294967296*b)=4294967296^n*(d+c+s):=congrArg (4294967296^n* ·) e2;generalize 4294967296^n=P at h e3⊢
  rw[wY,<-Nat.mul_assoc,wY,wY]at e3;rw[wY]at h;generalize P*4294967296*b=z at e3⊢;omega
end Nm
section
attribute [local go_sem ↓] Go.wp_at_zero Go.wp_at_succ Az Ay
theorem sN (a b:Nat)(ha:a<4294967296)(hb:b<4294967296):bits .or .u64 ((a:Int)*4294967296) (b:Int)=(a:Int)*4294967296+b:=by
  have h:=u64_or_nat (a*4294967296) b ω ω;rw[nat_join 32 (a*4294967296) b ω ω]at h;rw[wZ]at h;rw[show((a:Int)*4294967296)=(a:Int)*((4294967296:Nat):Int)from rfl,h];omega
theorem iJ {q:Nat}(h:q<4294967296):(q:Int)%4294967296=q:=ω
theorem oT (u:Value)(L a d:Nat)(w:World)(hu:Bp L w u a)(hL:L<=400000)(hd0:0<d)(hd1:d<4294967296):
    Calls prog 139 #[u,.int .u32 d] w fun e w'=>∃v,e= .returned (.tuple #[v,.int .u32 ((a%d:Nat):Int)])/\Ce w' v (a/d)/\Aa w w':=by
  obtain⟨xs,hx,A1,B5⟩:=hu;have B3:=zH hx.dg;obtain⟨p,cp,rfl,B7,_,A4⟩:=hx;have HX:=zH A4;clear A4;have B0:=zH A1;clear A1;have B1:=fun w=>Fk xs.length ω (xs.length:Int) rfl w
  go_enter func139,ntmps139;go_wp2_with fail;clear B1;go_loopw [7,8] (fun c i wr=>∃k r:Nat,∃os:List Nat,k<=xs.length/\i= iV ((k:Int)-1)/\c= .int .u64 r/\r<d/\os.length=xs.length/\Nm.Dg os/\Fi wr w.heap.size os/\Nm.val (os.drop k)*d+r=Nm.val (xs.drop k)/\Aa w wr) (fun _ i _=>(intOf i+1).toNat)
  case atStart=>exact⟨xs.length,0,List.replicate xs.length 0,Bz _,rfl,rfl,hd0,by simp,Nm.Dg.zeros _,Gl _ _,by simp[Nm.val],Ak.alloc _⟩
  obtain⟨k,r,os,hk,rfl,rfl,hr,A5,A6,hb,hv,he⟩:=hrel;have HV:=zH hv;have HO:=zH A6;have HL:=zH A5;clear hv A6 A5;match k,hk,HV with
  | 0,hk,HV=>
    have hq:=Nm.div_of hr HV.1;have A2:Nm.val os=a/d:=by rw[<-B0.1];exact hq.1
    have A3:r=a%d:=by rw[<-B0.1];exact hq.2
    have S1:=zH (Ci (.slice (π w.heap.size) os.length xs.length) os wr (hb.dig HO.1 _ (xF HL.1)) (by rw[HL.1];omega));rw[HL.1,A2]at S1;have A0:=zH A3;clear A2 A3 hq;go_wp2_with fail
    refine S1.1.mono ?_;rintro e w2 ⟨v2,rfl,hc,rfl⟩;go_wp2_with fail;go_ret2;rw[<-A0.1];exact⟨v2,rfl,hc,he⟩
  | j+1,hk,HV=>
    obtain⟨b,o,rfl,A9⟩:=HX.1 ω;have c0:=he.get (A9 j ω);clear A9;have b1:=B3.1.getD j;have c2:=hb.cell (i:=j) (by rw[HL.1];omega);have f2:=hb.frozen j;have HR:=zH (Nm.one_round (by rw[HL.1];omega) ω HV.1);generalize hgx:xs.getD j 0=x at c0 b1
    have A0:=zH (fun q r2 e=>HR.1 x q r2 hgx e);clear hgx HR;have B6:=sN r x ω b1;have A8:=Nat.div_add_mod (r*4294967296+x) d;have A7:=Nat.mod_lt (r*4294967296+x) hd0;have hq:(r*4294967296+x)/d<4294967296:=by
      rw[Nat.div_lt_iff_lt_mul hd0];have:(r+1)*4294967296<=d*4294967296:=xC _ hr;rw[xN 4294967296 d];omega
    have ev:(r:Int)*4294967296+x=((r*4294967296+x:Nat):Int):=ω;have EV:=zH ev;have B4:=zH (show 4294967296*r+x=(r*4294967296+x)/d*d+(r*4294967296+x)%d by rw[xN _ d,A8];omega);have B2:=zH A7;have HQ:=zH hq;clear ev A8 A7 hq;go_wp2_with fail
    go_roundw
    case rel=>exact⟨j,(r*4294967296+x)%d,os.set j ((r*4294967296+x)/d),ω,by go_num,Gp (by rw[EV.1,<-Int.natCast_emod]),B2.1,by rw[wO];exact HL.1,HO.1.set _ HQ.1,hb.setI j _ (by rw[EV.1,<-Int.natCast_ediv];exact iJ HQ.1),A0.1 _ _ B4.1,he.setCell (Bz _) _⟩
    case measure=>simp[intOf]<;>omega
theorem We (n:Nat)(w:World)(hn:n<18446744073709551616):
    Calls prog 83 #[.int .u64 n] w (Md n w):=by
  have hd:Nm.Dg [n%4294967296,n/4294967296]:=by
    intro x hx;simp at hx;omega
  have hv:Nm.val [n%4294967296,n/4294967296]=n:=by simp only[Nm.val];omega
  have HN:=zH (fun(W:World) (g:Nat) (h:Fi W g [n%4294967296,n/4294967296])=>Hu (.slice (π g) 2 2) 2 n W ⟨_,h.dig hd 2 (by simp),hv,by simp⟩ ω);clear hd hv;go_enter func83,ntmps83;go_wp2_with fail;have e:(#[.int .u32 ((n:Int)%4294967296),.int .u32 ((n:Int)/4294967296)]:Array Value)=(Bw [n%4294967296,n/4294967296]).toArray:=by simp[Bw]
  rw[e];refine(HN.1 _ _ (Gl _ _)).mono ?_;rintro e1 w1 ⟨v,rfl,hc,he⟩;clear e;go_wp2_with fail;go_ret;exact⟨v,rfl,hc,(Ak.alloc _).trans he⟩
theorem vF (o m k:Nat)(ho:o<2^k)(hm:m%2^k=0)(hs:o+m<4294967296):bits .or .u32 (o:Int) (m:Int)=((o+m:Nat):Int):=by
  rw[u32_or_nat o m ω ω,Nat.or_comm,nat_join k m o hm ho,Nat.add_comm]
theorem fX (y x k:Nat)(hk:k<32)(hx:x<4294967296)(hy:y<2^k):
    bits .or .u32 (y:Int) (IntKind.u64.wrap ((x:Int)*2^(k%32))%4294967296)=((y+x*2^k%4294967296:Nat):Int)/\
    IntKind.u64.wrap ((x:Int)*2^(k%32))/4294967296%4294967296=((x*2^k/4294967296:Nat):Int):=by
  obtain⟨h1,h2,h3,h4,h5⟩:=Nm.shl_parts hx hk;rw[Nat.mod_eq_of_lt hk];have e:(x:Int)*2^k=((x*2^k:Nat):Int):=by rw[wZ,Int.natCast_pow];rfl
  have hw:IntKind.u64.wrap ((x:Int)*2^k)=((x*2^k:Nat):Int):=by
    rw[e];generalize x*2^k=z at h3;generalize 2^k=p at h3 h4;rw[IntKind.wrap_u64];omega
  rw[hw];have A0:=Nm.shl_fit hy h2 (Nat.mod_lt _ ω) h5;have A1:=vF y (x*2^k%4294967296) k hy h2 A0;constructor
  · rw[<-A1]
    congr 1
  generalize x*2^k=z at h1⊢;generalize 2^k=p at h1 h4;omega
theorem Xd (u:Value)(L a k:Nat)(w:World)(hu:Bp L w u a)(hL:L<=400000)(hk:k<32):
    Calls prog 141 #[u,iV k] w (uO (a*2^k) w):=by
  have B1:=hu.nl;obtain⟨B5,A5,A4,A1⟩:=hu;have S1:=zH (Ci u B5 w A5 ω);unfold Yj Ce at S1;rw[A4]at S1;clear A5 A4 A1;have B3:=zH (Nm.val_digs a);have B4:=zH (Nm.dg_digs a);unfold Nm.nl at B1;generalize Nm.digs a=xs at S1 B3 B4 B1
  have B6:=fun w=>Fk (xs.length+1) ω ((xs.length:Int)+1) ω w
  have q1:(k:Int)/32=0:=ω;have q2:(k:Int)%32=k:=ω;have q3:min (k:Int) 4096=k:=ω;have HP:=zH (Nm.shl_parts (x:=0) (k:=k) ω hk);go_enter func141,ntmps141;go_wp2_with fail;refine S1.1.mono ?_;rintro e w1 ⟨u1,rfl,hx,rfl⟩;obtain⟨p,cp,rfl,B8,_,A7⟩:=hx;have HX:=zH A7;clear A7 S1;go_wp2_with fail
  clear B6 q1 q2 q3;go_loopw [76] (fun i wr=>∃j:Nat,∃os:List Nat,j<=xs.length/\i= iV j/\os.length=xs.length+1/\Nm.Dg os/\os.getD j 0<2^k/\Nm.Zeros os (j+1)/\Fi wr w.heap.size os/\Nm.val (os.take j)+4294967296^j*os.getD j 0=Nm.val (xs.take j)*2^k/\Aa w wr) (fun i _=>xs.length-(intOf i).toNat)
  case atStart=>
    refine⟨0,List.replicate (xs.length+1) 0,wM _,rfl,by simp,Nm.Dg.zeros _,?_,Nm.Zeros.all _ _,Gl _ _,?_,Ak.alloc _⟩
    · rw[Nm.Zeros.all (xs.length+1) 0 0 (Bz _)];exact Nat.two_pow_pos k
    rw[Nm.Zeros.all (xs.length+1) 0 0 (Bz _)];simp[Nm.val]
  obtain⟨j,os,hj,rfl,A9,B0,A2,A8,hb,hv,he⟩:=hrel;have HV:=zH hv;have HO:=zH B0;have HL:=zH A9;have HZ:=zH A8;clear hv B0 A9 A8;by_cases hlt:j<xs.length
  · obtain⟨b,o,rfl,B2⟩:=HX.1 (ω)
    have c0:=he.get (B2 j hlt);clear B2;have b1:=B4.1.getD j;have c2:=hb.cell (i:=j) (by rw[HL.1];omega);have f2:=hb.frozen j;have c3:=hb.cell (i:=j+1) (by rw[HL.1];omega);have f3:=hb.frozen (j+1);have HR:=zH (Nm.shl_round (by rw[HL.1];omega) HV.1);generalize hgx:xs.getD j 0=x at c0 b1
    generalize hgo:os.getD j 0=y at c2 A2;have B7:=zH (fun wl wh e=>HR.1 x y hgx hgo wl wh e);have A0:=zH (Nm.shl_parts b1 hk);have A3:=zH (Nm.shl_fit A2 A0.1.2.1 (Nat.mod_lt _ ω) A0.1.2.2.2.2);have HS:=zH (fX y x k hk b1 A2);clear hgx hgo HR;go_wp2_with fail
    rw[HS.1.1,HS.1.2];go_roundw
    case rel=>
      refine⟨j+1,(os.set j (y+x*2^k%4294967296)).set (j+1) (x*2^k/4294967296),ω,by go_num,by rw[wO,wO];exact HL.1,(HO.1.set _ A3.1).set _ (by have:=A0.1.1;have:=A0.1.2.2.2.1;omega),?_,?_,(hb.set j _).set (j+1) _,B7.1 _ _ (Nat.mod_add_div _ _).symm,(he.setCell (Bz _) _).setCell (Bz _) _⟩
      · rw[Nm.getD_set_self (by rw[wO,HL.1];omega)];exact A0.1.1
      exact((HZ.1.mono ω).set ω).set (ω)
    case measure=>simp[intOf]<;>omega
  obtain rfl:j=xs.length:=ω;have A6:Nm.val os=a*2^k:=by rw[Nm.shl_done HL.1 (Bz _) HV.1,B3.1]
  have S1:=zH (Qm (.slice (π w.heap.size) os.length (xs.length+1)) os wr (hb.dig HO.1 _ (xF HL.1)) (by rw[HL.1];omega));rw[HL.1,A6]at S1;clear A6;go_wp2_with fail;refine S1.1.mono ?_;rintro e w2 ⟨p2,rfl,hc,rfl⟩;go_wp2_with fail;go_ret;exact⟨p2,rfl,hc,he⟩
theorem uD (x y:Nat)(hx:x<4294967296)(hy:y<4294967296):bits .or .u64 (x:Int) ((y:Int)*4294967296)=(((x+y*4294967296:Nat)):Int):=by
  have h:=u64_or_nat x (y*4294967296) ω ω;rw[Nat.or_comm,nat_join 32 (y*4294967296) x ω ω]at h;rw[wZ]at h;rw[show((y:Int)*4294967296)=(y:Int)*((4294967296:Nat):Int)from rfl,h,Nat.add_comm]
theorem jZ (x y k:Nat)(hk:k<32)(hx:x<4294967296)(hy:y<4294967296):
    bits .or .u64 (x:Int) ((y:Int)*4294967296)/2^(k%32)%4294967296=(((x+y*4294967296)/2^k%4294967296:Nat):Int):=by
  rw[uD x y hx hy,Nat.mod_eq_of_lt hk];rw[Int.natCast_emod,Int.natCast_ediv,Int.natCast_pow];rfl
theorem oE (u:Value)(L a k:Nat)(w:World)(hu:Bp L w u a)(hL:L<=400000)(hk:k<32)(hk0:0<k):
    Calls prog 141 #[u,iV (-(k:Int))] w (Md (a/2^k) w):=by
  have A9:=hu.nl;obtain⟨B1,A4,A3,A1⟩:=hu;have S1:=zH (Ci u B1 w A4 ω);unfold Yj Ce at S1;rw[A3]at S1;clear A4 A3 A1;have A2:=zH (Nm.val_digs a);have A0:=zH (Nm.dg_digs a);unfold Nm.nl at A9;generalize Nm.digs a=xs at S1 A2 A0 A9
  have B3:=fun w=>Fk xs.length ω (xs.length:Int) rfl w
  have q1:(k:Int)/32=0:=ω;have q2:(k:Int)%32=k:=ω;by_cases hn0:xs.length=0
  · have A6:a/2^k=0:=by
      rw[<-A2.1,wP hn0];exact Nat.zero_div _
    have B5:=zH A6;clear A6;have bb:decide (-(k:Int)<= -(32*(xs.length:Int)))=true:=by simp;omega
    go_enter func141,ntmps141;go_wp2_with fail;refine S1.1.mono ?_;rintro e w1 ⟨u1,rfl,hx,rfl⟩;obtain⟨p,cp,rfl,B4,_,_⟩:=hx;go_wp2_with fail;go_ret;rw[B5.1];refine⟨_,rfl,?_,Aa.refl _⟩;unfold Ce;rw[Nm.digs_zero];exact⟨none,0,rfl,Bz _,Nm.Dg.nil,fun h=>absurd rfl (Nat.ne_of_lt h).symm⟩
  have B7:1<=xs.length:=ω;clear hn0;go_enter func141,ntmps141;go_wp2_with fail;refine S1.1.mono ?_;rintro e w1 ⟨u1,rfl,hx,rfl⟩;have B0:=zH hx;obtain⟨p,cp,rfl,B4,_,B2⟩:=hx;clear B2 S1;go_wp2_with fail
  clear B3 q1 q2;go_loopw [37] (fun i wr=>∃j:Nat,∃os:List Nat,j<=xs.length/\i= iV j/\os.length=xs.length/\Nm.Dg os/\Fi wr w.heap.size os/\Nm.val (os.take j)=(Nm.val xs/2^k)%4294967296^j/\Aa w wr) (fun i _=>xs.length-(intOf i).toNat)
  case atStart=>exact⟨0,List.replicate xs.length 0,wM _,rfl,by simp,Nm.Dg.zeros _,Gl _ _,by simp[Nm.val,Nat.mod_one],Ak.alloc _⟩
  obtain⟨j,os,hj,rfl,A7,A8,hb,hv,he⟩:=hrel;have HV:=zH hv;have HO:=zH A8;have HL:=zH A7;clear hv A8 A7;by_cases hlt:j<xs.length
  · have d1:∀i:Int,i=(j:Int)->Calls prog 145 #[.slice p xs.length cp,iV i] wr fun e w'=>e= .returned (.int .u64 (xs.getD j 0:Nat))/\wr=w':=fun i h=>by
      subst h;exact Im _ xs j wr (B0.1.ext he) ω (ω)
    have d2:∀i:Int,i=((j+1:Nat):Int)->Calls prog 145 #[.slice p xs.length cp,iV i] wr fun e w'=>e= .returned (.int .u64 (xs.getD (j+1) 0:Nat))/\wr=w':=fun i h=>by
      subst h;exact Im _ xs ((j+1:Nat):Int) wr (B0.1.ext he) ω (ω)
    have b1:=A0.1.getD j;have b2:=A0.1.getD (j+1);have c2:=hb.cell (i:=j) (by rw[HL.1];omega);have f2:=hb.frozen j;have HR:=zH (Nm.shr_round A0.1 hk (by rw[HL.1];omega) hlt HV.1);generalize hgx:xs.getD j 0=x at d1 b1
    generalize hgy:xs.getD (j+1) 0=y at d2 b2;have B6:=zH (HR.1 x y hgx hgy);have D1:=zH d1;have D2:=zH d2;clear hgx hgy HR d1 d2;go_wp2_with fail
    refine(D1.1 _ ω).mono ?_;rintro e w2 ⟨rfl,rfl⟩;go_wp2_with fail;refine(D2.1 _ ω).mono ?_;rintro e w2 ⟨rfl,rfl⟩;go_wp2_with fail;rw[jZ x y k hk b1 b2];go_roundw
    case rel=>exact⟨j+1,os.set j ((x+y*4294967296)/2^k%4294967296),ω,by go_num,by rw[wO];exact HL.1,HO.1.set _ (Nat.mod_lt _ ω),hb.set j _,B6.1,he.setCell (Bz _) _⟩
    case measure=>simp[intOf]<;>omega
  obtain rfl:j=xs.length:=ω;have A5:Nm.val os=a/2^k:=by rw[Nm.shr_done A0.1 HL.1 (Bz _) HV.1,A2.1]
  have S1:=zH (Ci (.slice (π w.heap.size) os.length xs.length) os wr (hb.dig HO.1 _ (xF HL.1)) (by rw[HL.1];omega));rw[HL.1,A5]at S1;clear A5;go_wp2_with fail;refine S1.1.mono ?_;rintro e w2 ⟨v2,rfl,hc,rfl⟩;go_wp2_with fail;go_ret;exact⟨v2,rfl,hc,he⟩
theorem fK {q v r t:Nat}(h:q*v+r=t)(hq:1<=q):(q-1)*v+(r+v)=t:=by
  obtain⟨k,rfl⟩:=Nat.exists_eq_add_of_le hq;rw[Nat.add_sub_cancel_left,<-h,xL,Nat.one_mul];omega
def jJ (Q:Nat)(w:World)(e:Ending)(w':World):Prop:=
  ∃q:Nat,e= .returned (.int .u64 q)/\q<4294967296/\Q<=q/\q<=Q+1/\Aa w w'
theorem iQ (u v:Value)(us vs:List Nat)(m:Nat)(w:World)(hu:Ej w u us)(hv:Ej w v vs)(hvl:vs.length=m+2)(hul:us.length=m+3)(hm:m<=400000)
    (htop:2147483648<=vs.getD (m+1) 0)(hlt:Nm.val us<4294967296*Nm.val vs):
    Calls prog 142 #[u,v] w (jJ (Nm.val us/Nm.val vs) w):=by
  have dU:=hu.dg;have dV:=hv.dg;obtain⟨p,cp,rfl,B6,_,B0⟩:=hu;obtain⟨q,cq,rfl,B5,_,A8⟩:=hv;obtain⟨b,o,rfl,A4⟩:=B0 ω;obtain⟨b',o',rfl,A5⟩:=A8 ω;have c0:=A4 m ω;have c1:=A4 (m+1) ω;have c2:=A4 (m+2) ω;have d0:=A5 m ω;have d1:=A5 (m+1) ω;clear A4 A5 B0 A8;have e1:=Nm.split3 hul;have e2:=Nm.split2 hvl;have lu:=Nm.val_take_lt dU m;have lv:=Nm.val_take_lt dV m;have x0:=dU.getD m;have x1:=dU.getD (m+1);have x2:=dU.getD (m+2);have y0:=dV.getD m;have y1:=dV.getD (m+1);rw[e1,e2]at hlt;rw[e1,e2,hvl,hul];rw[hul]at B6;rw[hvl]at B5;clear e1 e2 dU dV;generalize us.getD m 0=u2 at*
  generalize us.getD (m+1) 0=u1 at*;generalize us.getD (m+2) 0=u0 at*;generalize vs.getD m 0=v2 at*;generalize vs.getD (m+1) 0=v1 at*;generalize Nm.val (us.take m)=ul at*;generalize Nm.val (vs.take m)=vl at*;generalize 4294967296^m=P at*;have G0:=Nm.guess_first lv y0 htop hlt;have G1:=Nm.guess_start (P:=P) (vl:=vl) (v2:=v2) lu (show 1<=v1 by omega) x0 (top:=u0*4294967296+u1);have HD:=zH (fun q r h1 h2=>Nm.guess_dec (q:=q) (r:=r) lu h1 h2 hlt);have HE:=zH (fun(q r:Nat) (h1:q*v1+r=u0*4294967296+u1) (h2:q<4294967296) (h3:q*v2<=r*4294967296+u2)=>Nm.guess_exit (ul:=ul) (u2:=u2) (top:=u0*4294967296+u1) (q:=q) (r:=r) lv (show 1<=v1 by omega) h1 h2 h3);have HB:=zH (fun(q r:Nat) (h1:q*v1+r=u0*4294967296+u1) (h2:q<=4294967296) (h3:4294967296<=r)=>Nm.guess_brk (ul:=ul) (u2:=u2) (top:=u0*4294967296+u1) (q:=q) (r:=r) lv y0 (show 1<=v1 by omega) h1 h2 h3);have B2:=zH (show(ul+P*(u2+4294967296*(u0*4294967296+u1)))/(vl+P*(v2+4294967296*v1))<4294967296 by
    rw[Nat.div_lt_iff_lt_mul ω];exact hlt)
  have C1:=zH (Nat.div_add_mod (u0*4294967296+u1) v1);have B8:=zH (Nat.mod_lt (u0*4294967296+u1) (show 0<v1 by omega));clear hlt lu lv;generalize (ul+P*(u2+4294967296*(u0*4294967296+u1)))/(vl+P*(v2+4294967296*v1))=Q at*
  have B9:=zH G1;have C0:=zH G0;clear G1 G0;have EV:=zH (show(u0:Int)*4294967296+u1=((u0*4294967296+u1:Nat):Int)by omega);have B4:=sN u0 u1 x2 x1;have i0:(0:Int)<=(m:Int):=ω
  have i1:(m:Int)+1<(m:Int)+2:=ω;have i2:(m:Int)+2<(m:Int)+3:=ω;have i3:(0:Int)<=(m:Int)+1:=ω;have i4:(0:Int)<=(m:Int)+2:=ω;have i5:(m:Int)+1<(m:Int)+3:=ω;go_enter func142,ntmps142;go_wp2_with fail;go_quiet (fail)
  go_wp2_with fail;go_quiet (fail)
  go_wp2_with fail;clear B4;go_loopw [7,8] (fun qv rv wr=>∃q r:Nat,qv= .int .u64 q/\rv= .int .u64 r/\q*v1+r=u0*4294967296+u1/\Q<=q/\q<=4294967297/\r<4294967296/\Aa w wr) (fun qv _ _=>(intOf qv).toNat)
  case atStart=>exact⟨(u0*4294967296+u1)/v1,(u0*4294967296+u1)%v1,Gp (by rw[EV.1,<-Int.natCast_ediv]),Gp (by rw[EV.1,<-Int.natCast_emod]),by rw[xN];exact C1.1,B9.1,C0.1,by have:=B8.1;omega,(by first|exact Ak.drewN _|exact(Ak.drewN _).drewN _)⟩
  obtain⟨q,r,rfl,rfl,A9,B1,C2,hr,he⟩:=hrel;have A2:=zH A9;clear A9;have e0:=he.get c0;have e1:=he.get d0;have e2:=he.get d1;by_cases hq:4294967296<=q
  · have bb:((q:Int)/4294967296 != 0)=true:=by simp;omega
    have A7:=zH (HD.1 q r A2.1 (.inl hq));have A1:=zH (fK A2.1 (show 1<=q by omega));have A3:=zH (show Q<=q-1 by have:=A7.1;omega);by_cases hr2:4294967296<=r+v1
    · have A6:(((r:Int)+v1)/4294967296 != 0)=true:=by simp;omega
      have A0:=zH (HB.1 (q-1) (r+v1) A1.1 ω hr2);go_wp2_with fail;go_quiet (fail)
      go_wp2_with fail;go_ret;exact⟨q-1,by rw[Int.ofNat_sub ω];rfl,by have:=A0.1;have:=B2.1;omega,A3.1,by have:=A0.1;omega,(by first|exact he.drewN _|exact(he.drewN _).drewN _)⟩
    have A6:(((r:Int)+v1)/4294967296 != 0)=false:=by simp;omega
    go_wp2_with fail;go_quiet (fail)
    go_wp2_with fail;go_roundw
    case rel=>exact⟨q-1,r+v1,by rw[Int.ofNat_sub ω];rfl,by go_num,A1.1,A3.1,ω,ω,(by first|exact he.drewN _|exact(he.drewN _).drewN _)⟩
    case measure=>simp[intOf]<;>omega
  have bb:((q:Int)/4294967296 != 0)=false:=by simp;omega
  have m1:=Nm.digit_mul (show q<4294967296 by omega) y0;have m2:(0:Int)<=(q:Int)*(v2:Int):=by rw[<-wZ];exact Int.natCast_nonneg _
  have m3:(q:Int)*(v2:Int)<=18446744065119617025:=by rw[<-wZ];exact Int.ofNat_le.2 m1
  have B3:=sN r u2 hr x0;by_cases hc:r*4294967296+u2<q*v2
  · have A7:=zH (HD.1 q r A2.1 (.inr hc))
    have q1:1<=q:=by
      rcases Nat.eq_zero_or_pos q with h0|h0
      · rw[h0,Nat.zero_mul]at hc;omega
      exact h0
    have bc:decide ((r:Int)*4294967296+u2<(q:Int)*v2)=true:=by
      rw[<-wZ];simp;omega
    clear hc;have A1:=zH (fK A2.1 (show 1<=q by omega));have A3:=zH (show Q<=q-1 by have:=A7.1;omega);by_cases hr2:4294967296<=r+v1
    · have A6:(((r:Int)+v1)/4294967296 != 0)=true:=by simp;omega
      have A0:=zH (HB.1 (q-1) (r+v1) A1.1 ω hr2);go_wp2_with fail;go_quiet (fail)
      go_wp2_with fail;go_ret;exact⟨q-1,by rw[Int.ofNat_sub ω];rfl,by have:=A0.1;have:=B2.1;omega,A3.1,by have:=A0.1;omega,(by first|exact he.drewN _|exact(he.drewN _).drewN _)⟩
    have A6:(((r:Int)+v1)/4294967296 != 0)=false:=by simp;omega
    go_wp2_with fail;go_quiet (fail)
    go_wp2_with fail;go_roundw
    case rel=>exact⟨q-1,r+v1,by rw[Int.ofNat_sub ω];rfl,by go_num,A1.1,A3.1,ω,ω,(by first|exact he.drewN _|exact(he.drewN _).drewN _)⟩
    case measure=>simp[intOf]<;>omega
  have A0:=zH (HE.1 q r A2.1 ω ω);have bc:decide ((r:Int)*4294967296+u2<(q:Int)*v2)=false:=by
    rw[<-wZ];simp;omega
  have B7:=zH B1;clear hc B1;go_wp2_with fail;go_quiet (fail)
  go_wp2_with fail;go_ret;exact⟨q,rfl,ω,B7.1,A0.1,(by first|exact he.drewN _|exact(he.drewN _).drewN _)⟩
theorem uN (z:Int)(h0:0<=z)(h1:z<18446744073709551616):bits .and .u64 z 4294967295=z%4294967296:=by
  obtain⟨n,rfl⟩:=Int.eq_ofNat_of_zero_le h0;have h:=u64_and_nat n 4294967295 ω ω;rw[nat_mask32]at h;rw[show(4294967295:Int)=((4294967295:Nat):Int)from rfl,h];rfl
theorem qX (x s:Nat)(lo:Int)(hx:x<4294967296)(hs:s<=1)(h0:0<=lo)(h1:lo<4294967296):
    ∃d b:Nat,IntKind.u64.wrap (IntKind.u64.wrap ((x:Int)-lo)-s)%4294967296=(d:Int)/\IntKind.u64.wrap (IntKind.u64.wrap ((x:Int)-lo)-s)/9223372036854775808=(b:Int)/\d<4294967296/\b<=1/\(x:Int)+4294967296*b=d+lo+s:=by
  obtain⟨l,rfl⟩:=Int.eq_ofNat_of_zero_le h0;simp only[IntKind.wrap_u64];rcases Nat.lt_or_ge x (l+s)with h|h
  · exact⟨4294967296+x-l-s,1,ω,ω,ω,ω,ω⟩
  exact⟨x-l-s,0,ω,ω,ω,ω,ω⟩
def nM (g:Nat)(pre seg post:List Nat)(rest:List Value)(n V q:Nat)(w:World)(e:Ending)(w':World):Prop:=
  ∃seg':List Nat,∃b:Nat,e= .returned (.bool ((b:Int) != 0))/\b<=1/\seg'.length=n+1/\Nm.Dg seg'/\Ht w' g (pre++(seg'++post)) rest/\Nm.val seg'+q*V=Nm.val seg+4294967296^(n+1)*b/\Ba g w w'
theorem jT (g k n cap:Nat)(v:Value)(pre seg post vs:List Nat)(rest:List Value)(q:Nat)(w:World)(hb:Ht w g (pre++(seg++post)) rest)(hk:pre.length=k)(hn:seg.length=n+1)(hvn:vs.length=n)(hds:Nm.Dg seg)(hcap:n+1<=cap)
    (hv:∀W,Ba g w W->Ej W v vs)(hq:q<4294967296)(hsz:n<=400000):
    Calls prog 143 #[.slice (some ⟨g,k,none⟩) (n+1) cap,v,.int .u64 q] w (nM g pre seg post rest n (Nm.val vs) q w):=by
  have HV:=zH hv;have B0:=hv w (Ba.refl g w);have C0:=zH B0.dg;obtain⟨pv,cv,rfl,C2,_,A3⟩:=B0;rw[hvn];have B5:=zH hvn;have HK:=zH hk;have HN:=zH hn;have A8:=zH hds;clear hv A3 hvn hk hn hds;go_enter func143,ntmps143
  go_wp2_with fail;go_loopw [7,8,15] (fun c s i wr=>∃j cn sn:Nat,∃os:List Nat,j<=n/\i= iV j/\c= .int .u64 cn/\s= .int .u64 sn/\cn<4294967296/\sn<=1/\os.length=n+1/\Nm.Dg os/\Ht wr g (pre++(os++post)) rest/\(∀l,j<=l->os.getD l 0=seg.getD l 0)/\Nm.val (os.take j)+q*Nm.val (vs.take j)=Nm.val (seg.take j)+4294967296^j*(cn+sn)/\Ba g w wr) (fun _ _ i _=>n-(intOf i).toNat)
  case atStart=>exact⟨0,0,0,seg,wM _,rfl,rfl,rfl,ω,ω,HN.1,A8.1,hb,fun _ _=>rfl,by simp[Nm.val],Ba.refl _ _⟩
  obtain⟨j,c,s,os,hj,rfl,rfl,rfl,hc,hs,B2,B3,A2,A0,hv,he⟩:=hrel;have B6:=zH hv;have HO:=zH B3;have HL:=zH B2;have HS:=zH A0;clear hv B3 B2 A0;by_cases hlt:j<n
  · obtain⟨C1,C3,B1,A4,_,A3⟩:=HV.1 wr he
    rw[B5.1]at B1 A4 A3;cases B1;obtain⟨b,o,rfl,B4⟩:=A3 ω;have c0:=B4 j hlt;clear B4 A3;have hg:=Nm.seg_get (post:=post) HK.1 (show j<os.length by rw[HL.1];omega);have c2:=A2.cell (i:=k+j) (by rw[wD,wD,HK.1,HL.1];omega);have f2:=A2.frozen (k+j);rw[hg,HS.1 j (Bz _)]at c2;have b1:=C0.1.getD j;have b2:=A8.1.getD j;have HR:=zH (Nm.take_round (by rw[HL.1];omega) B6.1);have A1:=zH (fun d=>Nm.seg_set (post:=post) d HK.1 (show j<os.length by rw[HL.1];omega));generalize hgx:seg.getD j 0=x at c2 b2
    generalize hgy:vs.getD j 0=y at c0 b1;have B8:=zH (fun lo hi2 d b e1 e2=>HR.1 x y lo hi2 d b hgx hgy e1 e2);clear hgx hgy HR hg;have m1:=Nm.digit_mul hq b1;have m2:(0:Int)<=(q:Int)*(y:Int):=by rw[<-wZ];exact Int.natCast_nonneg _
    have m3:(q:Int)*(y:Int)<=18446744065119617025:=by rw[<-wZ];exact Int.ofNat_le.2 m1
    have B7:=uN ((c:Int)+(q:Int)*y) ω ω;obtain⟨d,bw,s1,s2,s3,s4,s5⟩:=qX x s (((c:Int)+(q:Int)*y)%4294967296) b2 hs ω ω;have A7:=zH s1;have A6:=zH s2;have A5:=zH s5;clear s1 s2 s5;go_wp2_with fail
    rw[A7.1,A6.1];go_roundw
    case rel=>
      refine⟨j+1,(c+q*y)/4294967296,bw,os.set j d,ω,by go_num,Gp ω,rfl,ω,s4,by rw[wO];exact HL.1,HO.1.set _ s3,by rw[<-A1.1 d];exact A2.set (k+j) d (by rw[wD,wD,HK.1,HL.1];omega),?_,B8.1 ((c+q*y)%4294967296) _ d bw (Nat.mod_add_div _ _).symm (by have:=A5.1;omega),he.set_at (k+j) none _⟩;intro l hl;rw[Nm.getD_set_ne ω];exact HS.1 l (ω)
    case measure=>simp[intOf]<;>omega
  obtain rfl:j=n:=ω;have hg:=Nm.seg_get (post:=post) HK.1 (show j<os.length by rw[HL.1];omega);have c2:=A2.cell (i:=k+j) (by rw[wD,wD,HK.1,HL.1];omega);have f2:=A2.frozen (k+j);rw[hg,HS.1 j (Bz _)]at c2;have b2:=A8.1.getD j;have A1:=zH (fun d=>Nm.seg_set (post:=post) d HK.1 (show j<os.length by rw[HL.1];omega));have A9:Nm.val (os.take j)+q*Nm.val vs=Nm.val (seg.take j)+4294967296^j*(c+s):=by
    have:=B6.1;rwa[Nm.val_take_len (xF B5.1)]at this
  have HR:=zH (fun x d b h1 h2=>Nm.take_last (x:=x) (d:=d) (b:=b) HL.1 HN.1 A9 h1 h2);generalize hgx:seg.getD j 0=x at c2 b2;have B9:=zH hgx;clear hgx hg A9;obtain⟨d,bw,s1,s2,s3,s4,s5⟩:=qX x s (c:Int) b2 hs ω ω;have A7:=zH s1;have A6:=zH s2;have A5:=zH s5;clear s1 s2 s5;go_wp2_with fail
  go_ret;rw[A7.1,A6.1];exact⟨os.set j d,bw,rfl,s4,by rw[wO];exact HL.1,HO.1.set _ s3,by rw[<-A1.1 d];exact A2.set (k+j) d (by rw[wD,wD,HK.1,HL.1];omega),HR.1 x d bw B9.1 (by have:=A5.1;omega),he.set_at (k+j) none _⟩
end
namespace Nm
theorem bitLen_norm {x:Nat}(h0:x≠0)(hx:x<4294967296):1<=Lib.bitLen x/\Lib.bitLen x<=32/\2147483648<=x*2^(32-Lib.bitLen x)/\(x+1)*2^(32-Lib.bitLen x)<=4294967296:=by
  have h1:=Lib.bitLenAux_bounds 64 x ω h0;have h2:=Lib.bitLen_le x 32 ω ω;unfold Lib.bitLen at h2⊢;generalize Lib.bitLenAux 64 x=l at h1 h2⊢
  obtain⟨a,b,c⟩:=h1;have e1:2^(l-1)*2^(32-l)=2147483648:=by
    rw[<-Nat.pow_add,show l-1+(32-l)=31 by omega]
  have e2:2^l*2^(32-l)=4294967296:=by
    rw[<-Nat.pow_add,show l+(32-l)=32 by omega]
  have m1:=xC (2^(32-l)) b;have m2:=xC (2^(32-l)) (show x+1<=2^l by omega);rw[e1]at m1;rw[e2]at m2;exact⟨a,h2,m1,m2⟩
theorem shifted {ys:List Nat}{m x p:Nat}(hd:Dg ys)(hl:ys.length=m+1)(hx:ys.getD m 0=x)(h1:2147483648<=x*p)(h2:(x+1)*p<=4294967296):
    4294967296^m*2147483648<=val ys*p/\val ys*p<4294967296^(m+1):=by
  have e:val ys=val (ys.take m)+4294967296^m*x:=by
    rw[<-hx,<-val_take_succD,val_take_len ω]
  have A0:=val_take_lt hd m;rw[e];constructor
  · have:=wW (4294967296^m) h1
    rw[xL,Nat.mul_assoc];omega
  have a1:(val (ys.take m)+4294967296^m*x)*p<(4294967296^m+4294967296^m*x)*p\/p=0:=by
    rcases Nat.eq_zero_or_pos p with h0|h0
    · exact .inr h0
    exact .inl (Nat.mul_lt_mul_of_pos_right ω h0)
  rcases a1 with a1|a1
  · have a2:=wW (4294967296^m) h2
    have e2:(4294967296^m+4294967296^m*x)*p=4294967296^m*((x+1)*p):=by
      rw[xL x 1 p,Nat.one_mul,wY,xL,Nat.mul_assoc,Nat.add_comm]
    rw[Nat.pow_succ];omega
  subst a1;simp at h1
theorem nl_of {V m:Nat}(h1:4294967296^m*2147483648<=V)(h2:V<4294967296^(m+1)):(digs V).length=m+1/\2147483648<=(digs V).getD m 0:=by
  have hp:=pow_pos32 m;have hl:nl V=m+1:=by
    have a:=nl_le h2;rcases Nat.lt_or_ge m (nl V)with h|h
    · omega
    have b:=lt_pow_nl V;have c:4294967296^nl V<=4294967296^m:=Nat.pow_le_pow_right ω h;omega
  refine⟨hl,?_⟩;have A1:(digs V).length=m+1:=hl;have e:V=val ((digs V).take m)+4294967296^m*(digs V).getD m 0:=by
    rw[<-val_take_succD,val_take_len ω,val_digs]
  have A0:=val_take_lt (dg_digs V) m;generalize (digs V).getD m 0=t at e;rcases Nat.lt_or_ge t 2147483648 with h|h
  · have:=wW (4294967296^m) (show t+1<=2147483648 by omega)
    rw[wY,xR]at this;omega
  exact h
theorem part_lt {us:List Nat}{k V:Nat}(hd:Dg us)(hk:k<us.length)(h:val (us.drop (k+1))<V):val (us.drop k)<4294967296*V:=by
  have hx:=hd.get hk;rw[val_drop hk];have:=wW 4294967296 (show val (us.drop (k+1))+1<=V by omega);omega
theorem part_val {us:List Nat}{k n V:Nat}(hV:V<=4294967296^n)(h:val (us.drop k)<4294967296*V):val ((us.drop k).take (n+1))=val (us.drop k):=by
  apply val_take_of_lt;rw[Nat.pow_succ,xN];have:=wW 4294967296 hV;omega
theorem part_post {us:List Nat}{k n V:Nat}(hl:k+n+1<=us.length)(hV:V<=4294967296^n)(h:val (us.drop k)<4294967296*V):val (us.drop (k+n+1))=0:=by
  have e:=val_split (us.drop k) (n+1) (by rw[List.length_drop];omega);rw[part_val hV h,List.drop_drop,show k+(n+1)=k+n+1 by omega]at e;have hp:=pow_pos32 (n+1);rcases Nat.eq_zero_or_pos (val (us.drop (k+n+1)))with h0|h0
  · exact h0
  have:=Nat.le_mul_of_pos_right (4294967296^(n+1)) h0;omega
theorem three {us:List Nat}(k n:Nat):us=us.take k++((us.drop k).take (n+1)++us.drop (k+n+1)):=by
  have e:(us.drop k).drop (n+1)=us.drop (k+n+1):=by rw[List.drop_drop,show k+(n+1)=k+n+1 by omega]
  rw[<-e,List.take_append_drop,List.take_append_drop]
theorem take_pos {s' s q V:Nat}(hV:0<V)(h:s'+q*V=s)(h1:s/V<=q):q=s/V/\s'=s-s/V*V:=by
  have:q<=s/V:=by rw[Nat.le_div_iff_mul_le hV];omega
  obtain rfl:q=s/V:=ω;exact⟨rfl,ω⟩
theorem take_neg {s' s q V M:Nat}(hV:0<V)(h:s'+q*V=s+M)(hs:s'<M)(h2:q<=s/V+1):q=s/V+1/\s'+V=s-s/V*V+M:=by
  have h3:s<q*V:=ω;have h4:s/V<q:=by rw[Nat.div_lt_iff_lt_mul hV];exact h3
  obtain rfl:q=s/V+1:=ω;refine⟨rfl,?_⟩;rw[xL,Nat.one_mul]at h;have:=Nat.div_mul_le_self s V;omega
theorem back_last {os ss:List Nat}{n V c x r:Nat}(hn:os.length=n+1)(hsn:ss.length=n+1)(hd:Dg os)(hx:ss.getD n 0=x)(h:val (os.take n)+4294967296^n*c=val (ss.take n)+V)(hr:val ss+V=r+4294967296^(n+1))(hrl:r<4294967296^(n+1)):
    val (os.set n ((x+c)%4294967296))=r:=by
  have h1:val (os.set n ((x+c)%4294967296))=val (os.take n)+4294967296^n*((x+c)%4294967296):=by
    rw[<-val_set_take ω,wI (by rw[wO];omega)]
  have h2:val ss=val (ss.take n)+4294967296^n*x:=by
    rw[<-hx,<-val_take_succD,wI ω]
  have A0:val (os.set n ((x+c)%4294967296))<4294967296^(n+1):=val_lt_pow (hd.set n (Nat.mod_lt _ ω)) (by rw[wO];omega);have e:x+c=(x+c)%4294967296+4294967296*((x+c)/4294967296):=(Nat.mod_add_div _ _).symm;have e2:4294967296^n*(x+c)=4294967296^n*((x+c)%4294967296+4294967296*((x+c)/4294967296)):=congrArg (4294967296^n* ·) e;rw[h1]at A0⊢;rw[h2]at hr;rw[Nat.pow_succ]at hr hrl A0;generalize (x+c)%4294967296=d at*
  generalize (x+c)/4294967296=t at*;rw[wY,wY,<-Nat.mul_assoc]at e2;generalize 4294967296^n*x=px at*;generalize 4294967296^n*c=pc at*;generalize 4294967296^n*d=pd at*;generalize val (os.take n)=o at*;generalize 4294967296^n*4294967296=M at*;have h5:o+pd+M*t=r+M:=ω;rcases Nat.lt_trichotomy t 1 with ht|ht|ht
  · obtain rfl:t=0:=ω
    rw[Nat.mul_zero]at h5;omega
  · subst ht
    rw[xR]at h5;omega
  have:=wW M (show 2<=t by omega);omega
theorem div_step {us qs seg seg':List Nat}{k n V U Q:Nat}(hl:k+n+1<=us.length)(hseg:(us.drop k).take (n+1)=seg)(hn:seg'.length=n+1)(hk:k<qs.length)(hz:qs.getD k 0=0)(h:val us+V*val qs=U)(hs:val seg'+Q*V=val seg):
    val (us.take k++(seg'++us.drop (k+n+1)))+V*val (qs.set k Q)=U:=by
  have e1:val us=val (us.take k)+4294967296^k*(val seg+4294967296^(n+1)*val (us.drop (k+n+1))):=by
    conv=>lhs;rw[three (us:=us) k n,val_append,val_append,hseg]
    rw[wK,Nat.min_eq_left ω,<-hseg,wK,List.length_drop,Nat.min_eq_left ω]
  have e2:=val_setD hk Q 0 hz;rw[Nat.mul_zero,xO]at e2;rw[val_append,val_append,wK,Nat.min_eq_left ω,hn,e2,<-h,e1,<-hs];generalize 4294967296^(n+1)*val (us.drop (k+n+1))=z;generalize 4294967296^k=P;rw[wY V,wY P (val seg'),wY P,wY P (val seg'),Nat.mul_left_comm V P Q,xN V Q];omega
theorem step_lt {us seg':List Nat}{k n V:Nat}(hl:k+n+1<=us.length)(hp:val (us.drop (k+n+1))=0)(hs:val seg'<V):val ((us.take k++(seg'++us.drop (k+n+1))).drop k)<V:=by
  rw[List.drop_append_of_le_length (by rw[wK];omega),show(us.take k).drop k=[]from List.drop_eq_nil_of_le (by rw[wK];omega),wT,val_append,hp,Nat.mul_zero,xO];exact hs
theorem sub_div {s V:Nat}(hV:0<V):s-s/V*V<V/\s-s/V*V+s/V*V=s:=by
  have h1:=Nat.div_mul_le_self s V;have h2:=Nat.lt_div_mul_add hV (a:=s);omega
theorem start_lt {us:List Nat}{nq m V:Nat}(hd:Dg us)(hl:us.length=nq+m+1)(hV:4294967296^(m+1)*2147483648<=V):val ((us++[0]).drop nq)<V:=by
  rw[List.drop_append_of_le_length ω,val_append];have h1:=val_lt_pow (hd.drop nq) (k:=m+1) (by rw[List.length_drop];omega);have h2:val [0]=0:=rfl;rw[h2,Nat.mul_zero,xO];have:=pow_pos32 (m+1);omega
theorem end_divmod {us qs:List Nat}{U V a b p:Nat}(hp:0<p)(h:val us+V*val qs=U)(hlt:val us<V)(h1:U%V=a%b*p)(h2:U/V=a/b):val qs=a/b/\val us/p=a%b:=by
  obtain⟨e1,e2⟩:=div_of (q:=val qs) (d:=V) (r:=val us) (v:=U) hlt (by rw[xN];omega);rw[h2]at e1;rw[h1]at e2;exact⟨e1,by rw[e2,Nat.mul_div_cancel _ hp]⟩
end Nm
section
open Go.Shelf
def aO:Go.Shelf.Ren:=⟨fun|128=>168|n=>n,fun|51=>96|3=>3|4=>4|46=>103|5=>5|9=>9|n=>n,fun|n=>n⟩
theorem pS:Go.Proofs.Lays.n128 prog aO:={
  mixed:=by kernel_rfl
  f128:=func168.trans (congrArg some (by kernel_rfl))
  t3:=underlying3
  a3:=Tryz.isAgg3
  z3:=Tryz.sizeOf3
  v3:=Tryz.zeroValue3
  t4:=underlying4
  a4:=Tryz.isAgg4
  z4:=Tryz.sizeOf4
  v4:=Tryz.zeroValue4
  t5:=underlying5
  a5:=Tryz.isAgg5
  z5:=Tryz.sizeOf5
  v5:=Tryz.zeroValue5
  t9:=underlying9
  a9:=Tryz.isAgg9
  z9:=Tryz.sizeOf9
  v9:=Tryz.zeroValue9
  t46:=underlying103
  a46:=Tryz.isAgg103
  z46:=Tryz.sizeOf103
  v46:=Tryz.zeroValue103
  t51:=underlying96
  a51:=Tryz.isAgg96
  z51:=Tryz.sizeOf96
  v51:=Tryz.zeroValue96}
theorem bits_Len32 (x:Int)(w:World)(h0:0<=x)(h1:x<=4294967295):
    Calls prog 168 #[.int .u32 x] w fun e w'=>e= .returned (iV (Lib.bitLen x.toNat))/\w'=w:=Any.bits_Len32 pS x w h0 h1
def aN:Go.Shelf.Ren:=⟨fun|133=>140|128=>168|n=>n,fun|51=>96|3=>3|4=>4|46=>103|5=>5|9=>9|n=>n,fun|n=>n⟩
theorem pR:Go.Proofs.Lays.n133 prog aN:={
  mixed:=by kernel_rfl
  f128:=func168.trans (congrArg some (by kernel_rfl))
  f133:=func140.trans (congrArg some (by kernel_rfl))
  t3:=underlying3
  a3:=Tryz.isAgg3
  z3:=Tryz.sizeOf3
  v3:=Tryz.zeroValue3
  t4:=underlying4
  a4:=Tryz.isAgg4
  z4:=Tryz.sizeOf4
  v4:=Tryz.zeroValue4
  t5:=underlying5
  a5:=Tryz.isAgg5
  z5:=Tryz.sizeOf5
  v5:=Tryz.zeroValue5
  t9:=underlying9
  a9:=Tryz.isAgg9
  z9:=Tryz.sizeOf9
  v9:=Tryz.zeroValue9
  t46:=underlying103
  a46:=Tryz.isAgg103
  z46:=Tryz.sizeOf103
  v46:=Tryz.zeroValue103
  t51:=underlying96
  a51:=Tryz.isAgg96
  z51:=Tryz.sizeOf96
  v51:=Tryz.zeroValue96}
theorem bits_LeadingZeros32 (x:Int)(w:World)(h0:0<=x)(h1:x<=4294967295):
    Calls prog 140 #[.int .u32 x] w fun e w'=>e= .returned (iV (32-(Lib.bitLen x.toNat:Int)))/\w'=w:=Any.bits_LeadingZeros32 pR x w h0 h1
end
section
attribute [local go_sem ↓] Go.wp_at_zero Go.wp_at_succ Az Ay
def Wv (qn rn:Nat)(w:World)(e:Ending)(w':World):Prop:=
  ∃q r,e= .returned (.tuple #[q,r,iV 0])/\Ce w' q qn/\Ce w' r rn/\Aa w w'
theorem lH (w:World):Ce w (.slice none 0 0) 0:=by
  unfold Ce;rw[Nm.digs_zero];exact⟨none,0,rfl,Bz _,Nm.Dg.nil,fun h=>absurd rfl (Nat.ne_of_lt h).symm⟩
theorem bA (u v:Value)(L a b:Nat)(w:World)(hu:Bp L w u a)(hv:Bp L w v b)(hL:L<=300000)(_hb:b≠0)(hab:a<b):
    Calls prog 94 #[u,v] w (Wv (a/b) (a%b) w):=by
  have B1:=hv.nl;have A4:=hu.nl;have B0:0<(Nm.digs b).length:=by
    have:=Nm.nl_eq_zero (n:=b);unfold Nm.nl at this;omega
  have HD:=zH (show a/b=0/\a%b=a from⟨Nat.div_eq_of_lt hab,Nat.mod_eq_of_lt hab⟩);obtain⟨A7,A3,A2,A9⟩:=hu;obtain⟨A6,A1,A0,A8⟩:=hv;have S1:=zH (Ci u A7 w A3 ω);have S2:=zH (Ci v A6 w A1 ω);rw[A0]at S2;rw[A2]at S1;have HC:=zH (fun p q (h1:Ce w p a) (h2:Ce w q b)=>Rr p q L a b w (h1.isIn A4) (h2.isIn B1) ω);rw[Ji ω]at HC;unfold Yj at S1 S2;have B3:(Nm.digs a).length<=400000:=Aw A4 ω;clear A3 A1 A2 A0 hab _hb;go_enter func94,ntmps94
  go_wp2_with fail;refine S1.1.mono ?_;rintro e w1 ⟨u1,rfl,hx,rfl⟩;go_wp2_with fail;refine S2.1.mono ?_;rintro e w1 ⟨v1,rfl,hy,rfl⟩;have HX:=zH hx;have HY:=zH hy;obtain⟨q,cq,rfl,_,_,_⟩:=hy;clear S1 S2 hx;go_wp2_with fail
  refine(HC.1 _ _ HX.1 HY.1).mono ?_;rintro e w2 ⟨rfl,A5⟩;have HK:=zH (Wp u1 _ w2 (Ej.ext HX.1 A5) ω);go_wp2_with fail
  refine HK.1.mono ?_;rintro e w3 ⟨r,rfl,hr,B2⟩;go_wp2_with fail;go_ret3
  unfold Wv;rw[HD.1.1,HD.1.2];exact⟨_,r,rfl,lH _,hr,A5.trans B2⟩
theorem dI (u v:Value)(L a b:Nat)(w:World)(hu:Bp L w u a)(hv:Bp L w v b)(hL:L<=300000)(hb:b≠0)(hab:¬a<b)(hb1:b<4294967296):
    Calls prog 94 #[u,v] w (Wv (a/b) (a%b) w):=by
  have B5:=hv.nl;have A7:=hu.nl;have B6:(0:Int)<=Ky (a:Int) (b:Int):=by
    by_cases h:(b:Int)<a
    · rw[Jj h];omega
    have:(a:Int)=b:=ω;rw[this,Kx];exact Int.le_refl _
  obtain⟨B1,A6,A5,B3⟩:=hu;obtain⟨B0,A4,A1,B2⟩:=hv;have S1:=zH (Ci u B1 w A6 ω);have S2:=zH (Ci v B0 w A4 ω);rw[A1]at S2;rw[A5]at S1;have HC:=zH (fun p q (h1:Ce w p a) (h2:Ce w q b)=>Rr p q L a b w (h1.isIn A7) (h2.isIn B5) ω);generalize Ky (a:Int) (b:Int)=c at HC B6
  unfold Yj at S1 S2;have ho:=fun p w' (h1:Ce w' p a)=>oT p L a b w' (h1.isIn A7) ω ω hb1
  have hf:=fun w'=>We (a%b) w' (by have:=Nat.mod_lt a (show 0<b by omega);omega)
  have B4:a%b<4294967296:=by have:=Nat.mod_lt a (show 0<b by omega);omega
  generalize a%b=rm at ho hf B4⊢;have HO:=zH ho;have HF:=zH hf;clear ho hf;have A9:=Nm.digs_one hb hb1;have B9:=zH A9;clear A6 A4 A5 A1 hab hb A9;go_enter func94,ntmps94
  go_wp2_with fail;refine S1.1.mono ?_;rintro e w1 ⟨u1,rfl,hx,rfl⟩;go_wp2_with fail;refine S2.1.mono ?_;rintro e w1 ⟨v1,rfl,hy,rfl⟩;have HX:=zH hx;have HY:=zH hy;unfold Ce at hy;rw[B9.1]at hy;obtain⟨q,cq,rfl,B8,_,A2⟩:=hy;obtain⟨b',o',rfl,A3⟩:=A2 (by simp);have c0:=A3 0 (by simp);rw[show([b]:List Nat).getD 0 0=b from rfl,xO]at c0;rw[show([b]:List Nat).length=1 from rfl]at B8 HY⊢;clear S1 S2 hx A3 A2;go_wp2_with fail
  refine(HC.1 _ _ HX.1 HY.1).mono ?_;rintro e w2 ⟨rfl,A0⟩;have c1:=A0.get c0;go_wp2_with fail
  refine(HO.1 _ _ (HX.1.ext A0)).mono ?_;rintro e w3 ⟨qv,rfl,hq,B7⟩;go_wp2_with fail;refine(HF.1 _).mono ?_;rintro e w4 ⟨rv,rfl,hr,A8⟩;go_wp2_with fail;go_ret3
  exact⟨qv,rv,rfl,hq.ext A8,hr,(A0.trans B7).trans A8⟩
theorem Ej.cells {w:World}{p:Option Addr}{n cap:Nat}{xs:List Nat}(h:Ej w (.slice p n cap) xs):∀b,p=some b->∀j u,(Bw xs)[j]?=some u->w.cell? (b.add j)=some u:=by
  intro a ha j u hj;obtain⟨p',A1,he,hc,hd,hp⟩:=h;have A0:j<xs.length:=by
    have:=(List.getElem?_eq_some_iff.1 hj).1;rwa[Fm]at this
  cases he;obtain⟨b,o,h1,h2⟩:=hp ω;subst ha;obtain rfl:a=⟨b,o,none⟩:=Option.some.inj h1;rw[Ix xs j A0]at hj;rw[Addr.add_lit,h2 j A0];exact hj
theorem Ej.none {w:World}{n cap:Nat}{xs:List Nat}(h:Ej w (.slice none n cap) xs):n=0:=by
  obtain⟨p',A0,he,hc,hd,hp⟩:=h;cases he;rcases Nat.eq_zero_or_pos xs.length with h0|h0
  · exact h0
  obtain⟨b,o,h1,_⟩:=hp h0;cases h1
theorem aZ (u v:Value)(L a b:Nat)(w:World)(hu:Bp L w u a)(hv:Bp L w v b)(hL:L<=300000)(hab:¬a<b)(hb1:4294967296<=b):
    Calls prog 94 #[u,v] w (Wv (a/b) (a%b) w):=by
  have H9:=hv.nl;have G5:=hu.nl;have O5:(0:Int)<=Ky (a:Int) (b:Int):=by
    by_cases h:(b:Int)<a
    · rw[Jj h];omega
    have:(a:Int)=b:=ω;rw[this,Kx];exact Int.le_refl _
  obtain⟨N4,K2,K0,H5⟩:=hu;obtain⟨N3,J9,J7,H4⟩:=hv;have S1:=zH (Ci u N4 w K2 ω);have S2:=zH (Ci v N3 w J9 ω);rw[J7]at S2;rw[K0]at S1;have HC:=zH (fun p q (h1:Ce w p a) (h2:Ce w q b)=>Rr p q L a b w (h1.isIn G5) (h2.isIn H9) ω);generalize Ky (a:Int) (b:Int)=c at HC O5
  unfold Yj at S1 S2
  -- the divisor's digits
  obtain⟨m,hm⟩:∃m,(Nm.digs b).length=m+2:=by
    have h1:2<=(Nm.digs b).length:=by
      rcases Nat.lt_or_ge (Nm.nl b) 2 with h|h
      · have h2:=Nm.lt_pow_nl b
        have h3:4294967296^Nm.nl b<=4294967296^1:=Nat.pow_le_pow_right ω ω;omega
      exact h
    exact⟨(Nm.digs b).length-2,ω⟩
  have C7:(Nm.digs b).getD (m+1) 0≠0:=by
    have:=Nm.tight_digs b (by intro h;rw[h]at hm;cases hm);rw[List.getLast_eq_getElem]at this;rw[Nm.getD_eq ω];simpa[hm]using this
  have G8:=Nm.dg_digs b;have K1:=G8.getD (m+1);have K4:=Nm.val_digs b;have P9:m+2<=L:=by have:=H9;unfold Nm.nl at this;omega
  generalize hgt:(Nm.digs b).getD (m+1) 0=x at C7 K1;obtain⟨l1,l2,l3,l4⟩:=Nm.bitLen_norm C7 K1;have D9:=Nm.shifted G8 hm hgt l3 l4;rw[K4]at D9;have E8:=Nm.nl_of D9.1 D9.2;have N0:=zH (fun w=>bits_LeadingZeros32 (x:Int) w ω ω);obtain⟨k,hk⟩:∃k,k=32-Lib.bitLen x:=⟨_,rfl⟩;have L9:(32-(Lib.bitLen (x:Int).toNat:Int))=(k:Int):=by rw[Int.toNat_natCast];omega
  rw[L9]at N0;rw[<-hk]at D9 E8 l3 l4;have C9:k<32:=ω
  have H1:=zH (fun p w' (h1:Ce w' p a)=>Xd p L a k w' (h1.isIn G5) ω C9);have H0:=zH (fun p w' (h1:Ce w' p b)=>Xd p L b k w' (h1.isIn H9) ω C9)
  -- the shifted numbers
  have M4:b*2^k<=a*2^k:=xC _ ω;have M3:a<=a*2^k:=Nat.le_mul_of_pos_right _ (Nat.two_pow_pos k);have B4:=Nat.mul_mod_mul_right (2^k) a b;have F3:=Nat.mul_div_mul_right a b (Nat.two_pow_pos k);have B9:=Nm.nl_mono M3;have G3:Nm.nl (a*2^k)<=Nm.nl a+1:=by
    apply Nm.nl_le;have h1:=Nm.lt_pow_nl a;have h2:2^k<=4294967296:=Aw (Nat.pow_le_pow_right ω (show k<=32 by omega)) (by decide);rw[Nat.pow_succ];exact xG (Nat.mul_lt_mul_of_pos_right h1 (Nat.two_pow_pos k)) (wW _ h2)
  have A5:=Nm.nl_mono M4;have J0:=zH (Nat.two_pow_pos k);unfold Nm.nl at B9 G3 A5 G5;rw[E8.1]at A5;have HU:=zH (And.intro B4 F3);have D4:=zH (And.intro D9 E8.2);have C1:=zH E8.1;have G6:=Nm.dg_digs (b*2^k);have G7:=Nm.dg_digs (a*2^k);have G1:=Nm.val_digs (b*2^k);have G2:=Nm.val_digs (a*2^k);have P3:=zH hgt;clear K2 J9 K0 J7 B4 F3 D9 E8 K4 hk L9 M4 M3 l1 l2 l3 l4 C7 H5 H4 hgt;unfold uO Ce at H1 H0;generalize a*2^k=U0 at H1 HU B9 G3 A5 G7 G2
  generalize b*2^k=V0 at H0 HU D4 C1 A5 G6 G1;generalize Nm.digs V0=vs at H0 D4 C1 G6 G1 A5;generalize Nm.digs U0=us at H1 B9 G3 A5 G7 G2;have HB:=zH (And.intro G8 hm);have D2:=zH (And.intro G6 G1);have I8:=zH (And.intro G7 G2);obtain⟨i0,hi,N8,N7,N6⟩:=info_parts Nd;clear G8 hm G6 G1 G7 G2;have g0:((m:Int)+2==0)=false:=beq_eq_false_iff_ne.2 ω;have g1:((m:Int)+2==1)=false:=beq_eq_false_iff_ne.2 ω;go_enter func94,ntmps94
  go_wp2_with fail;refine S1.1.mono ?_;rintro e w1 ⟨u1,rfl,hx,rfl⟩;go_wp2_with fail;refine S2.1.mono ?_;rintro e w1 ⟨v1,rfl,hy,rfl⟩;have HX:=zH hx;have HY:=zH hy;obtain⟨q,cq,rfl,O6,_,H3⟩:=hy;obtain⟨pu,Q2,rfl,O7,_,_⟩:=hx;rw[HB.1.2]at O6 H3 HY⊢;obtain⟨b',o',rfl,J8⟩:=H3 ω;have c0:=J8 (m+1) ω;rw[P3.1]at c0;clear S1 S2 J8 H3;go_wp2_with fail
  refine(HC.1 _ _ HX.1 HY.1).mono ?_;rintro e w2 ⟨rfl,F2⟩;have c1:=F2.get c0;go_wp2_with fail
  refine(N0.1 _).mono ?_;rintro e P6 ⟨rfl,rfl⟩;go_wp2_with fail;refine(H0.1 _ _ (HY.1.ext F2)).mono ?_;rintro e w3 ⟨pv,rfl,hv,I3⟩;go_wp2_with fail;refine(H1.1 _ _ (HX.1.ext (F2.trans I3))).mono ?_;rintro e w4 ⟨N5,rfl,hu,I2⟩;have I7:=zH (hv.ext I2);have I9:=zH hu;have H6:vs.length=m+2:=C1.1;clear hv hu;go_wp2_with (at_builtin;refine wpList_append_grows _ rfl _ _ 27 rfl 96 i0 (.int .u32 0) 1 4 underlying27 hi N8 N7 N6 rfl (by decide) N5 us.length us.length (Bw us) rfl (fun h=>by subst h;exact⟨Ej.none I9.1,Ej.none I9.1⟩) (by rw[Fm];omega) (fun b hb j u hj=>Ej.cells (I9.1.ext (Ak.alloc _)) b hb j u hj) ⟨w4.heap.size,0,none⟩ 1 1 [.int .u32 0] rfl rfl (by intro j u hj;match j,hj with|0,hj=>(simp at hj;subst hj;simp[Addr.add])) (by simp[Value.oneCell']) ω (by unfold maxLen;omega) ω ?_;intro v' w5 B2 C5;obtain⟨g,F5,rest,rfl,hg,D1,M0⟩:=iB (xs:=us++[0]) (by rw[wD,Cs];exact B2) (by simp);clear B2)
  have M5:Aa w4 w5:=(Ak.alloc _).grown C5 (by intro k hk;cases hk);have J6:=zH M5;have Q0:w4.heap.size+1<=g:=by simpa using hg
  have O4:g<w5.heap.size:=Al.lt M0;rw[wD]at D1;have C6:us.length+1<=F5:=D1;clear hg D1 C5 M5 c0 c1;go_loop [11] (fun u=>u= .slice (π g) (us.length+1) F5) (fun _=>0)
  case atStart=>rfl
  case round=>
  subst hrel;obtain⟨nq,H8⟩:∃nq,us.length=nq+m+1:=⟨us.length-(m+1),ω⟩;have O3:=fun w=>Fk nq ω ((nq:Int)+m+1+1-(m+2)) ω w
  have M9:=zH H8;rw[H8]at C6⊢;have O2:(Nm.digs a).length<=nq+m+1:=ω
  have O1:nq+m+1<=300001:=ω;clear H8 B9 G3 A5 H6 G5;go_wp2_with fail;clear O3;go_loopw [13] (fun i wr=>∃j:Nat,∃os qs:List Nat,j<=nq/\i= iV ((j:Int)-1)/\os.length=nq+m+1+1/\Nm.Dg os/\Ht wr g os rest/\qs.length=nq/\Nm.Dg qs/\Fi wr w5.heap.size qs/\(∀l,l<j->qs.getD l 0=0)/\Nm.val (os.drop j)<V0/\Nm.val os+V0*Nm.val qs=U0/\Aa w4 wr) (fun i _=>(intOf i+1).toNat)
  case atStart=>
    refine⟨nq,us++[0],List.replicate nq 0,Bz _,rfl,by rw[wD,M9.1];rfl,I8.1.1.append (Nm.Dg.cons ω Nm.Dg.nil),M0.ext (Ak.alloc _),by simp,Nm.Dg.zeros _,Gl _ _,fun l _=>Nm.Zeros.all nq 0 l (wM _),Nm.start_lt I8.1.1 M9.1 D4.1.1.1,?_,J6.1.alloc _⟩;rw[Nm.val_append,Nm.val_zeros,Nat.mul_zero,xO,I8.1.2];rfl
  obtain⟨j,os,qs,hj,rfl,L6,L7,I4,K9,L0,M1,K8,L8,E1,he⟩:=hrel;have B3:=zH L6;have D8:=zH L7;have C2:=zH K9;have J5:=zH L0;have D6:=zH K8;have F8:=zH L8;have D3:=zH E1;clear L6 L7 K9 L0 K8 L8 E1;match j,hj,D6,F8 with
  | 0,hj,D6,F8=>
    have I0:=Nm.end_divmod J0.1 D3.1 F8.1 HU.1.1 HU.1.2;have S1:=zH (Ci (.slice (π w5.heap.size) qs.length nq) qs wr (M1.dig J5.1 _ (xF C2.1)) (by rw[C2.1];omega));rw[I0.1,C2.1]at S1;have K7:Bp 300003 wr (.slice (π g) (nq+m+1+1) F5) (Nm.val os):=⟨os,(Ht.part (pre:=[]) (post:=[]) (by rw[wT,xD];exact I4) rfl B3.1 C6 D8.1),rfl,by rw[B3.1];omega⟩;have N1:=zH I0;have M7:=zH K7;clear I0 K7;go_wp2_with fail
    refine S1.1.mono ?_;rintro e w6 ⟨qv,rfl,hq,rfl⟩;have M8:=zH hq;clear hq;go_wp2_with fail
    by_cases hk0:k=0
    · have S2:=Xd _ 300003 _ 0 wr M7.1 ω (ω)
      subst hk0;have B4:Nm.val os*2^0=a%b:=by rw[<-N1.1.2,Nat.pow_zero,xR,Nat.div_one]
      rw[B4]at S2;have J3:=zH S2;clear S2 B4;refine J3.1.mono ?_;rintro e w7 ⟨pr,rfl,hr,F1⟩;go_wp2_with fail
      go_ret3
      exact⟨_,_,rfl,M8.1.ext F1,hr,(((F2.trans I3).trans I2).trans he).trans F1⟩
    have S2:=oE _ 300003 _ k wr M7.1 ω C9 ω;rw[N1.1.2]at S2;have J3:=zH S2;clear S2;refine J3.1.mono ?_;rintro e w7 ⟨pr,rfl,hr,F1⟩;go_wp2_with fail
    go_ret3
    exact⟨_,_,rfl,M8.1.ext F1,hr,(((F2.trans I3).trans I2).trans he).trans F1⟩
  | kk+1,hj,D6,F8=>
    have I5:V0<=4294967296^(m+2):=xQ D4.1.1.2;have A9:0<V0:=xG (Nat.mul_pos (Nm.pow_pos32 (m+1)) ω) D4.1.1.1;have E5:=Nm.part_lt D8.1 (by rw[B3.1];omega) F8.1;have C4:=Nm.part_val I5 E5;have L4:=Nm.part_post (n:=m+2) (by rw[B3.1];omega) I5 E5;obtain⟨B0,B1⟩:∃B0,(os.drop kk).take (m+2+1)=B0:=⟨_,rfl⟩;have G4:B0.length=m+3:=by rw[<-B1,wK,List.length_drop,B3.1];omega
    have B8:Nm.Dg B0:=by rw[<-B1];exact(D8.1.drop _).take _
    rw[B1]at C4;have A4:=Nm.three (us:=os) kk (m+2);rw[B1]at A4;have C8:(os.take kk).length=kk:=by rw[wK,B3.1];omega
    have A2:=I4;rw[A4]at A2;have HP:=zH (And.intro E5 (And.intro C4 L4));have G9:=zH (And.intro B1 (And.intro G4 B8));have A3:=zH C8;have P4:=zH A2;have I6:=I7.1.ext he;have HG:=zH (iQ (.slice (some ⟨g,kk,none⟩) (m+3) (F5-kk)) (.slice pv (m+2) (m+2)) B0 vs m wr (A2.part C8 G4 ω B8) (by rw[C1.1]at I6;exact I6) C1.1 G4 ω D4.1.2 (by rw[C4,D2.1.2];exact E5));clear E5 C4 L4 B1 G4 B8 A4 C8 A2 I4 I6 I5;go_wp2_with fail
    rw[show kk+(m+2)+1-kk=m+3 by omega];refine HG.1.mono ?_;rintro e w6 ⟨qh,rfl,L3,L2,L1,I1⟩;have P2:=zH L2;have P1:=zH L1;clear L2 L1;have D0:=he.trans I1;have J1:=jT g kk (m+2) (F5-kk) (.slice pv (m+2) (m+2)) (os.take kk) B0 (os.drop (kk+(m+2)+1)) vs rest qh w6 (P4.1.ext I1) A3.1 G9.1.2.1 C1.1 G9.1.2.2 (ω)
      (fun W hW=>by have:=I7.1.ext (hW.ext D0 ω);rw[C1.1]at this;exact this) L3 (ω)
    rw[show m+2+1=m+3 from rfl]at J1;have HT:=zH J1;clear J1;go_wp2_with fail
    refine HT.1.mono ?_;rintro e w7 ⟨A1,bb,rfl,Q1,E2,E3,F4,E0,B2⟩;have B5:=zH E2;have B6:=zH E3;have G0:=zH F4;have F6:=zH E0;have F7:=zH B2;have H2:=zH ((M1.ext I1).own B2 ω);clear E2 E3 F4 E0 B2;by_cases hb0:bb=0
    · have O8:((bb:Int) != 0)=false:=by rw[hb0];rfl
      have c2:=H2.1.cell (i:=kk) (by rw[C2.1];omega);have f2:=H2.1.frozen kk;have P5:=zH hb0;clear hb0;go_wp2_with fail
      have A8:Nm.val A1+qh*V0=Nm.val B0:=by have h:=F6.1;rw[P5.1,Nat.mul_zero,xO,D2.1.2]at h;exact h
      have H7:Nm.val B0/V0<=qh:=by have h:=P2.1;rw[D2.1.2]at h;exact h
      have A6:=Nm.take_pos A9 A8 H7;have B8:=Nm.sub_div (s:=Nm.val B0) A9;go_roundw
      case rel=>
        refine⟨kk,os.take kk++(A1++os.drop (kk+(m+2)+1)),qs.set kk qh,ω,rfl,?_,(D8.1.take _).append (B6.1.append (D8.1.drop _)),G0.1.far (by show g≠w5.heap.size;omega) _,by rw[wO];exact C2.1,J5.1.set _ L3,H2.1.set kk qh,?_,?_,?_,(F7.1.ext D0 ω).setCell (J6.1.size) _⟩
        · rw[wD,wD,A3.1,B5.1,List.length_drop,B3.1];omega
        · intro l hl
          rw[Nm.getD_set_ne ω];exact D6.1 l (ω)
        · exact Nm.step_lt (by rw[B3.1];omega) HP.1.2.2 (by rw[A6.2];exact B8.1)
        exact Nm.div_step (by rw[B3.1];omega) G9.1.1 B5.1 (by rw[C2.1];omega) (D6.1 kk ω) D3.1 (by rw[A6.2,A6.1];exact B8.2)
      case measure=>simp[intOf]<;>omega
    have O8:((bb:Int) != 0)=true:=by simpa using hb0
    have hb1:bb=1:=ω;have E9:=Nm.val_lt_pow B6.1 (k:=m+2+1) (by rw[B5.1];exact Bz _);have A8:Nm.val A1+qh*V0=Nm.val B0+4294967296^(m+2+1):=by have h:=F6.1;rw[hb1,xR,D2.1.2]at h;exact h
    have E4:qh<=Nm.val B0/V0+1:=by have h:=P1.1;rw[D2.1.2]at h;exact h
    have A6:=Nm.take_neg A9 A8 E9 E4;have B8:=Nm.sub_div (s:=Nm.val B0) A9;have P7:1<=qh:=by rw[A6.1];exact Nat.le_add_left _ _
    have B7:=zH (And.intro A6 B8);have Q4:=zH hb1;clear A6 B8 hb1 hb0 E9 A8 E4;obtain⟨p',Q3,L5,_,_,C4⟩:=I7.1;rw[C1.1]at L5 C4;cases L5;obtain⟨bv,ov,rfl,K3⟩:=C4 ω;have O9:=zH K3;clear C4 K3;go_wp2_with fail
    obtain⟨wo,N9⟩:∃wo:World,wo=wr:=⟨_,rfl⟩;subst N9;go_loopw [16,105] (fun c i wr2=>∃t s:Nat,∃A7:List Nat,t<=m+2/\i= iV t/\c= .int .u64 s/\s<=1/\A7.length=m+3/\Nm.Dg A7/\Ht wr2 g (os.take kk++(A7++os.drop (kk+(m+2)+1))) rest/\(∀l,t<=l->A7.getD l 0=A1.getD l 0)/\Nm.val (A7.take t)+4294967296^t*s=Nm.val (A1.take t)+Nm.val (vs.take t)/\Ba g w7 wr2) (fun _ i _=>m+2-(intOf i).toNat)
    case atStart=>exact⟨0,0,A1,wM _,rfl,rfl,ω,B5.1,B6.1,G0.1,fun _ _=>rfl,by simp[Nm.val],Ba.refl _ _⟩
    obtain⟨t,s,A7,ht,rfl,rfl,hs,E6,E7,A2,C3,K6,C0⟩:=hrel;have A0:=zH E6;have D7:=zH E7;have J2:=zH C3;have M6:=zH K6;have F9:=zH ((F7.1.ext D0 ω));clear E6 E7 C3 K6;by_cases htl:t<m+2
    · have c0:=(C0.ext F9.1 ω).get (O9.1 t htl)
      have F0:=Nm.seg_get (post:=os.drop (kk+(m+2)+1)) A3.1 (show t<A7.length by rw[A0.1];omega);have c2:=A2.cell (i:=kk+t) (by rw[wD,wD,A3.1,A0.1];omega);have f2:=A2.frozen (kk+t);rw[F0,J2.1 t (Bz _)]at c2;have b1:=D2.1.1.getD t;have b2:=B6.1.getD t;have HR:=zH (Nm.add_round (by rw[A0.1];omega) M6.1);have D5:=zH (fun d=>Nm.seg_set (post:=os.drop (kk+(m+2)+1)) d A3.1 (show t<A7.length by rw[A0.1];omega));generalize hgx:A1.getD t 0=xx at c2 b2
      generalize hgy:vs.getD t 0=yy at c0 b1;have P0:=zH (HR.1 xx yy hgx hgy);clear hgx hgy HR F0;go_wp2_with fail;go_roundw
      case rel=>
        refine⟨t+1,(s+(xx+yy))/4294967296,A7.set t ((s+(xx+yy))%4294967296),ω,by go_num,Gp ω,ω,by rw[wO];exact A0.1,D7.1.set _ ω,by rw[<-D5.1];exact A2.setI (kk+t) _ (by rw[wD,wD,A3.1,A0.1];omega) ω,?_,P0.1,C0.set_at (kk+t) none _⟩;intro l hl;rw[Nm.getD_set_ne ω];exact J2.1 l (ω)
      case measure=>simp[intOf]<;>omega
    obtain rfl:t=m+2:=ω;have F0:=Nm.seg_get (post:=os.drop (kk+(m+2)+1)) A3.1 (show m+2<A7.length by rw[A0.1];omega);have c2:=A2.cell (i:=kk+(m+2)) (by rw[wD,wD,A3.1,A0.1];omega);have f2:=A2.frozen (kk+(m+2));rw[F0,J2.1 (m+2) (Bz _)]at c2;have b2:=B6.1.getD (m+2);have D5:=zH (fun d=>Nm.seg_set (post:=os.drop (kk+(m+2)+1)) d A3.1 (show m+2<A7.length by rw[A0.1];omega));have K5:Nm.val (A7.take (m+2))+4294967296^(m+2)*s=Nm.val (A1.take (m+2))+V0:=by
      have h:=M6.1;rw[Nm.val_take_len (xs:=vs) (xF C1.1),D2.1.2]at h;exact h
    have M2:=fun x (hx:A1.getD (m+2) 0=x)=>Nm.back_last (os:=A7) (ss:=A1) (n:=m+2) A0.1 B5.1 D7.1 hx K5 B7.1.1.2 (xG B7.1.2.1 (Aw (xQ D4.1.1.2) (Nat.pow_le_pow_right ω ω)))
    generalize hgx:A1.getD (m+2) 0=xx at c2 b2;have N2:=zH (M2 xx hgx);clear hgx M2 K5 F0;have J4:=zH (H2.1.own C0 ω);have c4:=J4.1.cell (i:=kk) (by rw[C2.1];omega);have f4:=J4.1.frozen kk;have P8:g≠w5.heap.size:=ω
    go_wp2_with fail;have O0:qh-1=Nm.val B0/V0:=by rw[B7.1.1.1,Nat.add_sub_cancel]
    go_roundw
    case rel=>
      refine⟨kk,os.take kk++(A7.set (m+2) ((xx+s)%4294967296)++os.drop (kk+(m+2)+1)),qs.set kk (qh-1),ω,rfl,?_,(D8.1.take _).append ((D7.1.set _ ω).append (D8.1.drop _)),?_,by rw[wO];exact C2.1,J5.1.set _ ω,?_,?_,?_,?_,?_⟩
      · rw[wD,wD,A3.1,wO,A0.1,List.length_drop,B3.1];omega
      · rw[<-D5.1]
        exact(A2.setI (kk+(m+2)) _ (by rw[wD,wD,A3.1,A0.1];omega) ω).far (by show g≠w5.heap.size;omega) _
      · exact(J4.1.far (by show w5.heap.size≠g;omega) _).setI kk _ (ω)
      · intro l hl
        rw[Nm.getD_set_ne ω];exact D6.1 l (ω)
      · exact Nm.step_lt (by rw[B3.1];omega) HP.1.2.2 (by rw[N2.1];exact B7.1.2.1)
      · exact Nm.div_step (by rw[B3.1];omega) G9.1.1 (by rw[wO];exact A0.1) (by rw[C2.1];omega) (D6.1 kk ω) D3.1 (by rw[N2.1,O0];exact B7.1.2.2)
      exact((C0.set_at (kk+(m+2)) none _).ext F9.1 ω).setCell (J6.1.size) _
    case measure=>simp[intOf]<;>omega
theorem Tu (u v:Value)(L a b:Nat)(w:World)(hu:Bp L w u a)(hv:Bp L w v b)(hL:L<=300000)(hb:b≠0):
    Calls prog 94 #[u,v] w (Wv (a/b) (a%b) w):=by
  by_cases hab:a<b
  · exact bA u v L a b w hu hv hL hb hab
  by_cases hb1:b<4294967296
  · exact dI u v L a b w hu hv hL hb hab hb1
  exact aZ u v L a b w hu hv hL hab (ω)
theorem Ce.form {w:World}{v:Value}{n:Nat}(h:Ce w v n):∃p cap,v= .slice p (Nm.nl n) cap:=by
  obtain⟨p,cap,rfl,_⟩:=h;exact⟨p,cap,rfl⟩
theorem pT (u v:Value)(L a b:Nat)(w:World)(hu:Bp L w u a)(hv:Bp L w v b)(hL:L<=300000):
    Calls prog 92 #[u,v] w (Md (a.gcd b) w):=by
  have A8:=hv.nl;have A9:=hu.nl;have S1:=zH (Hu u L a w hu ω);have S2:=zH (fun w' (h:Aa w w')=>Hu v L b w' (hv.ext h) ω);clear hu hv;go_enter func92,ntmps92
  go_wp2_with fail;refine S1.1.mono ?_;rintro e w1 ⟨u1,rfl,hx,A5⟩;go_wp2_with fail;refine(S2.1 w1 A5).mono ?_;rintro e w2 ⟨v1,rfl,hy,A4⟩;have HX:=zH (hx.ext A4);have HY:=zH hy;clear S1 S2 hx hy;go_wp2_with fail
  go_loopg [0,1] b (fun y u v wr=>∃x:Nat,Ce wr u x/\Ce wr v y/\x.gcd y=a.gcd b/\Nm.nl x<=L/\Nm.nl y<=L/\Aa w2 wr)
  case atStart=>exact⟨a,HX.1,HY.1,rfl,A9,A8,Aa.refl _⟩
  obtain⟨x,hx,hy,hg,B0,A0,he⟩:=hrel;have HG:=zH hg;clear hg;by_cases h0:gk=0
  · subst h0
    have B7:=zH (show x=a.gcd b by rw[<-HG.1,Nat.gcd_zero_right]);obtain⟨p,B1,rfl⟩:=hy.form;rw[Nm.nl_zero];have B2:=zH hx;clear hx hy;go_wp2_with fail
    go_ret;refine⟨_,rfl,?_,A5.trans (A4.trans he)⟩;rw[<-B7.1];exact B2.1
  have A7:=zH (Tu _ _ L x gk wr (hx.isIn B0) (hy.isIn A0) hL h0);have A2:=Nat.mod_lt x (show 0<gk by omega);have B5:=zH A2;have B6:=zH (show gk.gcd (x%gk)=a.gcd b by rw[<-HG.1,Nat.gcd_comm x gk,Nat.gcd_rec gk x,Nat.gcd_comm]);have B3:=zH (Aw (Nm.nl_mono (xQ A2)) A0);have A6:=zH hy;have A1:0<Nm.nl gk:=by
    have:=Nm.nl_eq_zero (n:=gk);omega
  obtain⟨p,B1,rfl⟩:=hy.form;have B4:=zH A0;clear hx hy A2 A0;generalize Nm.nl gk=l at A7 A1 A6⊢
  go_wp2_with fail;refine A7.1.mono ?_;rintro e w3 ⟨qv,rv,rfl,hq,hr,A3⟩;have HR:=zH hr;clear hq hr;go_wp2_with fail
  go_roundg (x%gk)
  case measure=>exact B5.1
  case rel=>exact⟨gk,A6.1.ext A3,HR.1,B6.1,B4.1,B3.1,he.trans A3⟩
def uR (n:Nat)(w:World)(e:Ending)(w':World):Prop:=∃k:Int,e= .returned (iV k)/\(k=0↔n=0)/\0<=k/\w=w'
theorem dN (u:Value)(L a:Nat)(w:World)(hu:Bp L w u a)(hL:L<=300000):
    Calls prog 144 #[u] w (uR a w):=by
  have A5:=hu.nl;obtain⟨A6,A4,A2,A7⟩:=hu;have S1:=zH (Ci u A6 w A4 ω);rw[A2]at S1;unfold Yj at S1;clear A4 A2;by_cases h0:a=0
  · subst h0
    go_enter func144,ntmps144;go_wp2_with fail;refine S1.1.mono ?_;rintro e w1 ⟨u1,rfl,hx,rfl⟩;obtain⟨p,A8,rfl⟩:=hx.form;rw[Nm.nl_zero];go_wp2_with fail;go_ret;exact⟨0,rfl,by simp,Int.le_refl _,rfl⟩
  have HD:=zH (Nm.dg_digs a);have ht:=Nm.tight_digs a;obtain⟨m,hm⟩:∃m,(Nm.digs a).length=m+1:=by
    have:=Nm.nl_eq_zero (n:=a);unfold Nm.nl at this;exact⟨(Nm.digs a).length-1,ω⟩
  have A0:(Nm.digs a).getD m 0≠0:=by
    have:=ht (by intro h;rw[h]at hm;cases hm);rw[List.getLast_eq_getElem]at this;rw[Nm.getD_eq ω];simpa[hm]using this
  have A3:=HD.1.getD m;have B0:m+1<=L:=by unfold Nm.nl at A5;omega
  clear ht;unfold Ce at S1;generalize hgx:(Nm.digs a).getD m 0=x at A0 A3;obtain⟨l1,l2,_,_⟩:=Nm.bitLen_norm A0 A3;have HL:=zH (fun w=>bits_Len32 (x:Int) w ω ω);rw[Int.toNat_natCast]at HL;generalize Lib.bitLen x=k at HL l1 l2
  have A9:=zH hgx;have HM:=zH hm;have H0:=zH h0;clear hgx hm h0 A5;go_enter func144,ntmps144
  go_wp2_with fail;refine S1.1.mono ?_;rintro e w1 ⟨u1,rfl,hx,rfl⟩;obtain⟨p,A8,rfl,A1,_,hp⟩:=hx;rw[HM.1]at hp A1⊢;obtain⟨b,o,rfl,hb⟩:=hp ω;have c0:=hb m ω;rw[A9.1]at c0;clear hp hb S1;have g0:((m:Int)+1==0)=false:=beq_eq_false_iff_ne.2 ω;go_wp2_with fail
  refine(HL.1 _).mono ?_;rintro e w2 ⟨rfl,rfl⟩;go_wp2_with fail;go_ret;refine⟨_,rfl,⟨fun h=> ?_,fun h=>absurd h H0.1⟩,?_,rfl⟩
  · omega
  omega
end
namespace Nm
def rl (q:Rat):Nat:=max (nl q.num.natAbs) (nl q.den)
theorem nl_div (a b:Nat):nl (a/b)<=nl a:=nl_mono (Nat.div_le_self a b)
theorem rl_divInt (a b:Int):rl (Rat.divInt a b)<=max (max (nl a.natAbs) (nl b.natAbs)) 1:=by
  unfold rl;rw[Rat.num_divInt,Rat.den_divInt];have h1:(b.sign*a/(b.gcd a:Int)).natAbs<=a.natAbs:=by
    refine Aw (Int.natAbs_ediv_le_natAbs _ _) ?_;rw[Int.natAbs_mul];have:b.sign.natAbs<=1:=by
      rcases Int.lt_trichotomy b 0 with h|h|h
      · rw[Int.sign_eq_neg_one_of_neg h];decide
      · subst h;decide
      rw[Int.sign_eq_one_of_pos h];decide
    have:=xC a.natAbs this;omega
  have h2:=nl_mono h1;by_cases hb:b=0
  · subst hb
    rw[if_pos rfl];have:=nl_one (n:=1) ω ω;omega
  rw[if_neg hb];have:=nl_div b.natAbs (b.gcd a);omega
theorem nl_den_pos (q:Rat):1<=nl q.den:=by
  rcases Nat.eq_zero_or_pos (nl q.den)with h|h
  · exact absurd (nl_eq_zero.1 h) q.den_nz
  exact h
theorem rl_add (a b:Rat):rl (a+b)<=rl a+rl b+1:=by
  rw[Rat.add_def',<-Rat.divInt_ofNat];refine Aw (rl_divInt _ _) ?_;have e1:=nl_mul a.den b.den;have e2:=nl_mono (Int.natAbs_add_le (a.num*b.den) (b.num*a.den));have e3:=nl_add (a.num*b.den).natAbs (b.num*a.den).natAbs;have e4:=nl_mul a.num.natAbs b.den;have e5:=nl_mul b.num.natAbs a.den;have e6:(a.num*(b.den:Int)).natAbs=a.num.natAbs*b.den:=by rw[Int.natAbs_mul];rfl
  have e7:(b.num*(a.den:Int)).natAbs=b.num.natAbs*a.den:=by rw[Int.natAbs_mul];rfl
  rw[e6,e7]at e3;rw[e6,e7]at e2;unfold rl;have:((a.den*b.den:Nat):Int).natAbs=a.den*b.den:=rfl;rw[this];omega
theorem rl_mul (a b:Rat):rl (a*b)<=rl a+rl b:=by
  rw[Rat.mul_def',<-Rat.divInt_ofNat];refine Aw (rl_divInt _ _) ?_;have e1:=nl_mul a.den b.den;have e4:=nl_mul a.num.natAbs b.num.natAbs;rw[<-Int.natAbs_mul]at e4;have:=nl_den_pos a;unfold rl;have:((a.den*b.den:Nat):Int).natAbs=a.den*b.den:=rfl;rw[this];omega
theorem rl_neg (a:Rat):rl (-a)=rl a:=by
  unfold rl;rw[Rat.neg_num,Rat.neg_den,Int.natAbs_neg]
theorem rl_sub (a b:Rat):rl (a-b)<=rl a+rl b+1:=by
  rw[Rat.sub_eq_add_neg];have:=rl_add a (-b);rwa[rl_neg]at this
theorem rl_inv (a:Rat):rl a⁻¹<=rl a:=by
  rw[Rat.inv_def];refine Aw (rl_divInt _ _) ?_;have:=nl_den_pos a;unfold rl;have:((a.den:Nat):Int).natAbs=a.den:=rfl;rw[this];omega
theorem rl_div (a b:Rat):rl (a/b)<=rl a+rl b:=by
  rw[Rat.div_def];have:=rl_mul a b⁻¹;have:=rl_inv b;omega
theorem mul_eq (a b:Rat):a*b=Rat.divInt (a.num*b.num) (a.den*b.den):=by
  rw[Rat.mul_def',<-Rat.divInt_ofNat];rfl
theorem add_eq (a b:Rat):a+b=Rat.divInt (a.num*b.den+b.num*a.den) (a.den*b.den):=by
  rw[Rat.add_def',<-Rat.divInt_ofNat];rfl
theorem sub_eq (a b:Rat):a-b=Rat.divInt (a.num*b.den-b.num*a.den) (a.den*b.den):=by
  rw[Rat.sub_def',<-Rat.divInt_ofNat];rfl
theorem div_eq (a b:Rat):a/b=Rat.divInt (a.num*b.den) (a.den*b.num):=by
  rw[Rat.div_def,Rat.inv_def,<-Rat.divInt_mul_divInt,Rat.num_divInt_den]
theorem ediv_neg_iff (a b:Int)(hb:0<b):a/b<0↔a<0:=by
  rw[Int.ediv_lt_iff_lt_mul hb,Int.zero_mul]
theorem num_of_pair (n d:Int)(hd:d≠0):(Rat.divInt n d).num.natAbs=n.natAbs/n.natAbs.gcd d.natAbs/\((Rat.divInt n d).num<0↔n.sign*d.sign<0):=by
  rw[Rat.num_divInt];have hg:(d.gcd n:Nat)=n.natAbs.gcd d.natAbs:=by unfold Int.gcd;exact Nat.gcd_comm _ _
  have A0:((d.gcd n:Nat):Int)∣d.sign*n:=Int.dvd_mul_of_dvd_right (Int.gcd_dvd_right ..);have hs:(d.sign*n).natAbs=n.natAbs:=by
    rw[Int.natAbs_mul];rcases Int.lt_or_gt_of_ne hd with h|h
    · rw[Int.sign_eq_neg_one_of_neg h];simp
    rw[Int.sign_eq_one_of_pos h];simp
  have A1:0<d.gcd n:=Int.gcd_pos_of_ne_zero_left _ hd;constructor
  · rw[Int.natAbs_ediv_of_dvd A0,hs,hg];rfl
  have h1:d.sign*n/((d.gcd n:Nat):Int)<0↔d.sign*n<0:=ediv_neg_iff _ _ ω;rw[h1];rcases Int.lt_or_gt_of_ne hd with h|h
  · rw[Int.sign_eq_neg_one_of_neg h]
    rcases Int.lt_trichotomy n 0 with k|k|k
    · rw[Int.sign_eq_neg_one_of_neg k];omega
    · subst k;simp
    rw[Int.sign_eq_one_of_pos k];omega
  rw[Int.sign_eq_one_of_pos h];rcases Int.lt_trichotomy n 0 with k|k|k
  · rw[Int.sign_eq_neg_one_of_neg k];omega
  · subst k;simp
  rw[Int.sign_eq_one_of_pos k];omega
theorem den_of_pair (n d:Int)(hd:d≠0):(Rat.divInt n d).den=d.natAbs/n.natAbs.gcd d.natAbs:=by
  rw[Rat.den_divInt,if_neg hd];have hg:(d.gcd n:Nat)=n.natAbs.gcd d.natAbs:=by unfold Int.gcd;exact Nat.gcd_comm _ _
  rw[hg]
theorem rcmp_lt (a b:Rat):a<b↔a.num*b.den<b.num*a.den:=Rat.lt_iff a b
theorem rcmp_eq (a b:Rat):a=b↔a.num*b.den=b.num*a.den:=Rat.eq_iff_mul_eq_mul
end Nm
section
attribute [local go_sem ↓] Go.wp_at_zero Go.wp_at_succ Az Ay
def sg (n:Bool)(a:Nat):Int:=if n=true then-(a:Int)else(a:Int)
theorem Xf (n:Bool)(a:Nat):(sg n a).natAbs=a:=by
  unfold sg;cases n<;>simp
theorem Gv (a:Nat):sg false a=a:=rfl
theorem Id (a:Nat):sg true a= -(a:Int):=rfl
theorem eD (z:Int):sg (decide (z<0)) z.natAbs=z:=by
  unfold sg;by_cases h:z<0
  · rw[if_pos (by simpa using h)];omega
  rw[if_neg (by simpa using h)];omega
def Cb (L:Nat)(w:World)(n:Bool)(v:Value)(z:Int):Prop:=∃a,Bp L w v a/\z=sg n a
def Bu (w:World)(n:Bool)(v:Value)(z:Int):Prop:=n=decide (z<0)/\Ce w v z.natAbs
theorem Cb.ext {L:Nat}{w w':World}{n:Bool}{v:Value}{z:Int}(h:Cb L w n v z)(e:Aa w w'):Cb L w' n v z:=by
  obtain⟨a,h1,h2⟩:=h;exact⟨a,h1.ext e,h2⟩
theorem Bu.ext {w w':World}{n:Bool}{v:Value}{z:Int}(h:Bu w n v z)(e:Aa w w'):Bu w' n v z:=⟨h.1,h.2.ext e⟩
theorem Bu.isIn {L:Nat}{w:World}{n:Bool}{v:Value}{z:Int}(h:Bu w n v z)(hl:Nm.nl z.natAbs<=L):Cb L w n v z:=
  ⟨z.natAbs,h.2.isIn hl,by rw[h.1,eD]⟩
theorem Cb.abs {L:Nat}{w:World}{n:Bool}{v:Value}{z:Int}(h:Cb L w n v z):Bp L w v z.natAbs/\z=sg n z.natAbs:=by
  obtain⟨a,h1,rfl⟩:=h;rw[Xf];exact⟨h1,rfl⟩
theorem Cb.nl {L:Nat}{w:World}{n:Bool}{v:Value}{z:Int}(h:Cb L w n v z):Nm.nl z.natAbs<=L:=h.abs.1.nl
theorem Cb.mono {L M:Nat}{w:World}{n:Bool}{v:Value}{z:Int}(h:Cb L w n v z)(hl:L<=M):Cb M w n v z:=by
  obtain⟨a,h1,h2⟩:=h;exact⟨a,h1.mono hl,h2⟩
theorem Bu.form {w:World}{n:Bool}{v:Value}{z:Int}(h:Bu w n v z):∃p l cap,v= .slice p l cap:=by
  obtain⟨p,cap,rfl⟩:=h.2.form;exact⟨p,_,cap,rfl⟩
def Kz (z:Int)(w:World)(e:Ending)(w':World):Prop:=∃n v,e= .returned (.agg #[.bool n,v])/\Bu w' n v z/\Aa w w'
def Pp (cs:Array Value):Prop:=∀(i:Nat) (x:Int),cs[i]?≠some (.int .u32 x)
theorem Pz (b:Bool)(p:Option Addr)(n c:Nat):Pp #[.bool b,.slice p n c]:=by
  intro i x;match i with
  |0=>simp
  |1=>simp
  |k+2=>simp
theorem Ox (b:Bool)(p:Option Addr)(n c:Nat)(b':Bool)(p':Option Addr)(n' c':Nat):Pp #[.bool b,.slice p n c,.bool b',.slice p' n' c']:=by
  intro i x;match i with
  |0=>simp
  |1=>simp
  |2=>simp
  |3=>simp
  |k+4=>simp
theorem Ej.own {w w':World}{v:Value}{xs:List Nat}(h:Ej w v xs){g:Nat}{t:TypeId}{cs:Array Value}(hb:Al w g t cs)(hn:Pp cs)(o:Ba g w w'):Ej w' v xs:=by
  obtain⟨p,A3,rfl,hc,hd,hp⟩:=h;refine⟨p,A3,rfl,hc,hd,fun h0=> ?_⟩;obtain⟨b,A0,rfl,A2⟩:=hp h0;refine⟨b,A0,rfl,fun i hi=> ?_⟩;have h1:=A2 i hi;have A1:b≠g:=by
    rintro rfl;rw[hb.cell]at h1;exact hn _ _ h1
  exact o.get h1 A1
theorem Ce.own {w w':World}{v:Value}{n:Nat}(h:Ce w v n){g:Nat}{t:TypeId}{cs:Array Value}(hb:Al w g t cs)(hn:Pp cs)(o:Ba g w w'):Ce w' v n:=Ej.own h hb hn o
theorem Bu.own {w w':World}{n:Bool}{v:Value}{z:Int}(h:Bu w n v z){g:Nat}{t:TypeId}{cs:Array Value}(hb:Al w g t cs)(hn:Pp cs)(o:Ba g w w'):Bu w' n v z:=⟨h.1,h.2.own hb hn o⟩
theorem Ic (w:World):∀w',Aa (ν w false none 0 0) w'->w'.cell? ⟨w.heap.size,0,none⟩=some φ/\w'.cell? ⟨w.heap.size,1,none⟩=some (.slice none 0 0)/\w'.frozen? ⟨w.heap.size,0,none⟩=false/\w'.frozen? ⟨w.heap.size,1,none⟩=false:=fun w' h=>
  ⟨h.get (by simp),h.get (by simp),(h.frozen (by simp)).trans (World.frozen?_alloc_at _ _ _ _ (by simp)),(h.frozen (by simp)).trans (World.frozen?_alloc_at _ _ _ _ (by simp))⟩
theorem Cl {w w1:World}{n:Bool}{v:Value}{z:Int}{u0 u1:Value}(he:Aa (ν w false none 0 0) w1)(h:Bu w1 n v z):
    Bu ((w1.setCell ⟨w.heap.size,0,none⟩ u0).setCell ⟨w.heap.size,1,none⟩ u1) n v z/\Aa w ((w1.setCell ⟨w.heap.size,0,none⟩ u0).setCell ⟨w.heap.size,1,none⟩ u1):=
  ⟨h.own (Al.ext (Al.new w _ _) he) (Pz _ _ _ _) (((Ba.refl _ _).set_at 0 none _).set_at 1 none _),Aa.setCell (Aa.setCell ((Ak.alloc _).trans he) (Bz _) _) (Bz _) _⟩
theorem Ih (n:Bool)(v:Value)(L a:Nat)(w:World)(hv:Bp L w v a)(hL:L<=1000000):
    Calls prog 82 #[.bool n,v] w (Kz (sg n a) w):=by
  have HG:=zH (Ic w);have HN:=zH (Hu v L a _ (hv.ext ((Aa.refl w).alloc (.cells θ 29))) hL);have HA:=zH (Xf n a);have A1:(n&&decide (0<Nm.nl a))=decide (sg n a<0):=by
    have:=Nm.nl_eq_zero (n:=a);rw[Bool.eq_iff_iff];cases n
    · simp[sg]
    simp[sg];omega
  have HF:=zH A1;have A2:=hv.nl;clear hv A1;generalize hl:Nm.nl a=l at A2 HF
  have HL:=zH hl;clear hl;cases n
  · go_enter func82,ntmps82
    go_wp2_with fail;refine HN.1.mono ?_;rintro e w1 ⟨v1,rfl,hc,he⟩;have HC:=zH hc;obtain⟨p,A0,rfl⟩:=hc.form;rw[HL.1]at HC⊢;have gk:=HG.1 _ he;clear hc;go_wp2_with fail
    have st:=Cl (u0:= .bool false) (u1:= .slice p l A0) he (show Bu w1 (decide (sg false a<0)) (.slice p l A0) (sg false a)from⟨rfl,by rw[HA.1];exact HC.1⟩);rw[<-HF.1]at st;refine bodyPost_ret (v:= .agg #[.bool false,.slice p l A0]) ?_ rfl ⟨_,_,rfl,st.1,st.2⟩;simp[results,results82,go_sem, *]
  by_cases h0:0<l
  · go_enter func82,ntmps82
    go_wp2_with fail;refine HN.1.mono ?_;rintro e w1 ⟨v1,rfl,hc,he⟩;have HC:=zH hc;obtain⟨p,A0,rfl⟩:=hc.form;rw[HL.1]at HC⊢;have gk:=HG.1 _ he;clear hc;go_wp2_with fail
    have st:=Cl (u0:= .bool true) (u1:= .slice p l A0) he (show Bu w1 (decide (sg true a<0)) (.slice p l A0) (sg true a)from⟨rfl,by rw[HA.1];exact HC.1⟩);rw[<-HF.1,show decide (0<l)=true by simpa using h0]at st;refine bodyPost_ret (v:= .agg #[.bool true,.slice p l A0]) ?_ rfl ⟨_,_,rfl,st.1,st.2⟩;simp[results,results82,go_sem, *]
  obtain rfl:l=0:=ω;go_enter func82,ntmps82;go_wp2_with fail;refine HN.1.mono ?_;rintro e w1 ⟨v1,rfl,hc,he⟩;have HC:=zH hc;obtain⟨p,A0,rfl⟩:=hc.form;rw[HL.1]at HC⊢;have gk:=HG.1 _ he;clear hc;go_wp2_with fail
  have st:=Cl (u0:= .bool false) (u1:= .slice p 0 A0) he (show Bu w1 (decide (sg true a<0)) (.slice p 0 A0) (sg true a)from⟨rfl,by rw[HA.1];exact HC.1⟩);rw[<-HF.1]at st;refine bodyPost_ret (v:= .agg #[.bool false,.slice p 0 A0]) ?_ rfl ⟨_,_,rfl,st.1,st.2⟩;simp[results,results82,go_sem, *]
theorem Ta (n:Int)(h1: -9223372036854775808<=n)(h2:n<=9223372036854775807):Nm.nl n.natAbs<=2:=Nm.nl_le (ω)
theorem Jg (n:Int)(w:World)(h1: -9223372036854775808<=n)(h2:n<=9223372036854775807):
    Calls prog 45 #[iV n] w (Kz n w):=by
  have HG:=zH (Ic w);have HU:=zH (fun(W:World) (x:Int) (hx:x=(n.natAbs:Int))=>(show Calls prog 83 #[.int .u64 x] W (Md n.natAbs W)by subst hx;exact We n.natAbs W ω));have HL:=zH (Ta n h1 h2);have HR:=zH (And.intro h1 h2);clear h1 h2;by_cases hn:n<0
  · have HN:=zH (fun W v (h:Ce W v n.natAbs)=>Ih true v 2 n.natAbs W (h.isIn HL.1) ω)
    rw[Id,show-(n.natAbs:Int)=n by omega]at HN;go_enter func45,ntmps45;go_wp2_with fail;refine(HU.1 _ _ ?_).mono ?_
    · have:=HR.1
      simp only[IntKind.wrap_u64];omega
    rintro e w1 ⟨v1,rfl,hc,A2⟩;have HC:=zH hc;clear hc;go_wp2_with fail
    refine(HN.1 _ _ HC.1).mono ?_;rintro e w2 ⟨b,v2,rfl,A0,A1⟩;have gk:=HG.1 _ (A2.trans A1);have A4:=zH A0;obtain⟨p,l2,A3,rfl⟩:=A0.form;clear A0;go_wp2_with fail
    have st:=Cl (u0:= .bool b) (u1:= .slice p l2 A3) (A2.trans A1) A4.1;refine bodyPost_ret (v:= .agg #[.bool b,.slice p l2 A3]) ?_ rfl ⟨_,_,rfl,st.1,st.2⟩;simp[results,results45,go_sem, *]
  have HN:=zH (fun W v (h:Ce W v n.natAbs)=>Ih false v 2 n.natAbs W (h.isIn HL.1) ω);rw[Gv,show(n.natAbs:Int)=n by omega]at HN;go_enter func45,ntmps45;go_wp2_with fail;refine(HU.1 _ _ ?_).mono ?_
  · have:=HR.1
    first|omega|(simp only[IntKind.wrap_u64];omega)
  rintro e w1 ⟨v1,rfl,hc,A2⟩;have HC:=zH hc;clear hc;go_wp2_with fail
  refine(HN.1 _ _ HC.1).mono ?_;rintro e w2 ⟨b,v2,rfl,A0,A1⟩;have gk:=HG.1 _ (A2.trans A1);have A4:=zH A0;obtain⟨p,l2,A3,rfl⟩:=A0.form;clear A0;go_wp2_with fail
  have st:=Cl (u0:= .bool b) (u1:= .slice p l2 A3) (A2.trans A1) A4.1;refine bodyPost_ret (v:= .agg #[.bool b,.slice p l2 A3]) ?_ rfl ⟨_,_,rfl,st.1,st.2⟩;simp[results,results45,go_sem, *]
theorem Cb.form {L:Nat}{w:World}{n:Bool}{v:Value}{z:Int}(h:Cb L w n v z):∃p l cap,v= .slice p l cap:=by
  obtain⟨a,⟨xs,⟨p,cap,rfl,_⟩,_⟩,_⟩:=h;exact⟨p,xs.length,cap,rfl⟩
theorem Li (n:Bool)(v:Value)(L:Nat)(z:Int)(w:World)(h:Cb L w n v z)(hL:L<=300000):
    Calls prog 95 #[.agg #[.bool n,v]] w fun e w'=>e= .returned (iV z.sign)/\Aa w w':=by
  obtain⟨ha,hz⟩:=h.abs;have HB:=zH (dN v L z.natAbs _ (ha.ext ((Aa.refl w).alloc (.cells #[.bool n,v] 29))) hL);have HZ:=zH hz;obtain⟨p,l,A1,rfl⟩:=h.form;clear h ha hz;go_enter func95,ntmps95
  go_wp2_with fail;refine HB.1.mono ?_;rintro e w1 ⟨k,rfl,hk,A0,rfl⟩;by_cases h0:k=0
  · have h1:=hk.1 h0
    have HS:=zH (show z.sign=0 by rw[Int.natAbs_eq_zero.1 h1];rfl);subst h0;clear hk h1;go_wp2_with fail;go_ret;exact⟨Ey HS.1.symm,Ak.alloc _⟩
  have h1:¬z.natAbs=0:=fun h=>h0 (hk.2 h)
  have g0:(k==0)=false:=beq_eq_false_iff_ne.2 h0;clear hk;cases n
  · have HS:=zH (show z.sign=1 by
      apply Int.sign_eq_one_of_pos;have:=HZ.1;rw[Gv]at this;omega)
    clear h1 h0;go_wp2_with fail;go_ret;exact⟨Ey HS.1.symm,Ak.alloc _⟩
  have HS:=zH (show z.sign= -1 by
    apply Int.sign_eq_neg_one_of_neg;have:=HZ.1;rw[Id]at this;omega)
  clear h1 h0;go_wp2_with fail;go_ret;exact⟨Ey HS.1.symm,Ak.alloc _⟩
theorem pA (n:Bool)(v:Value)(L:Nat)(z:Int)(w:World)(h:Cb L w n v z)(hL:L<=300000):
    Calls prog 100 #[.agg #[.bool n,v]] w (Kz (-z) w):=by
  obtain⟨ha,hz⟩:=h.abs;obtain⟨p,l,A2,rfl⟩:=h.form;have HG:=zH (Ic (ν w n p l A2));have A3:sg (!n) z.natAbs= -z:=by
    cases n
    · rw[Gv]at hz;rw[Bool.not_false,Id];omega
    rw[Id]at hz;rw[Bool.not_true,Gv];omega
  have hN:=Ih (!n) (.slice p l A2) L z.natAbs _ (ha.ext (((Aa.refl w).alloc (.cells #[.bool n,.slice p l A2] 29)).alloc (.cells θ 29))) ω;rw[A3]at hN;have HN:=zH hN;clear h ha hz A3 hN;go_enter func100,ntmps100
  go_wp2_with fail;refine HN.1.mono ?_;rintro e w2 ⟨b,v2,rfl,A1,A4⟩;have gk:=HG.1 _ A4;simp only[wG]at gk;have A5:=zH A1;obtain⟨p2,l2,A0,rfl⟩:=A1.form;clear A1;go_wp2_with fail
  have st:=Cl (u0:= .bool b) (u1:= .slice p2 l2 A0) A4 A5.1;simp only[wG]at st;refine bodyPost_ret (v:= .agg #[.bool b,.slice p2 l2 A0]) ?_ rfl ⟨_,_,rfl,st.1,(Ak.alloc _).trans st.2⟩;simp[results,results100,go_sem, *]
theorem kD (n m:Bool)(a b:Nat):sg (n != m) (a*b)=sg n a*sg m b:=by
  cases n<;>cases m<;>simp[sg,Int.neg_mul,Int.mul_neg]
theorem Iv (n m:Bool)(u v:Value)(L:Nat)(y z:Int)(w:World)(hu:Cb L w n u y)(hv:Cb L w m v z)(hL:L<=150000):
    Calls prog 55 #[.agg #[.bool n,u],.agg #[.bool m,v]] w (Kz (y*z) w):=by
  obtain⟨ha,hy⟩:=hu.abs;obtain⟨hb,hz⟩:=hv.abs;have A5:=ha.nl;have A4:=hb.nl;obtain⟨p,l,cp,rfl⟩:=hu.form;obtain⟨q,k,cq,rfl⟩:=hv.form;have H1:=zH (fun W (h:Aa (ν (ν w n p l cp) m q k cq) W)=>pE _ _ L y.natAbs z.natAbs W (ha.ext ((((Aa.refl w).alloc _).alloc _).trans h)) (hb.ext ((((Aa.refl w).alloc _).alloc _).trans h)) ω);have hn:=fun W t (h:Ce W t (y.natAbs*z.natAbs))=>Ih (n != m) t (2*L) (y.natAbs*z.natAbs) W (h.isIn (by have:=Nm.nl_mul y.natAbs z.natAbs;omega)) (ω)
  rw[kD,<-hy,<-hz]at hn;have HG:=zH (Ic (ν (ν w n p l cp) m q k cq));have g:∀w',Aa (ν (ν w n p l cp) m q k cq) w'->
      w'.cell? ⟨w.heap.size,0,none⟩=some (.bool n)/\w'.cell? ⟨w.heap.size,1,none⟩=some (.slice p l cp)/\w'.cell? ⟨w.heap.size+1,0,none⟩=some (.bool m)/\w'.cell? ⟨w.heap.size+1,1,none⟩=some (.slice q k cq):=fun w' h=>
    ⟨h.get (by simp),h.get (by simp),h.get (by simp),h.get (by simp)⟩
  have A6:=zH (fun w1 b t u0 u1=>Cl (w:=(ν (ν w n p l cp) m q k cq)) (w1:=w1) (n:=b) (v:=t) (z:=y*z) (u0:=u0) (u1:=u1));clear hu hv ha hb hy hz A5 A4;have HN:=zH (fun W t x (hx:x=(n != m)) (h:Ce W t (y.natAbs*z.natAbs))=>(show Calls prog 82 #[.bool x,t] W (Kz (y*z) W)by subst hx;exact hn W t h));clear hn;go_enter func55,ntmps55
  go_wp2_with fail;go_region_held3 (fun w'=>Aa (ν (ν w n p l cp) m q k cq) w') (first|assumption|exact Aa.drew (Aa.alloc Ak _)|(apply Aa.via;assumption;assumption)|(refine Aa.setCell (Aa.setCell ?_ (by simp) _) (by simp) _;assumption))
    (first|(go_at_call 99;refine(H1.1 _ (by assumption)).mono ?_;rintro e w1 ⟨v1,rfl,hc,A2⟩)|(go_at_call 82;refine(HN.1 _ _ _ (by cases n<;>cases m<;>rfl) hc).mono ?_;rintro e w2 ⟨b,v2,rfl,A3,A1⟩;obtain⟨p2,l2,A0,rfl⟩:=A3.form;have gk:=HG.1 _ (Aa.trans (Aa.trans (Aa.drew Ak) A2) A1);simp only[wG]at gk))
  go_wp2_with fail;have st:=A6.1 _ _ _ (.bool b) (.slice p2 l2 A0) (Aa.trans (Aa.trans (Aa.drew Ak) A2) A1) A3;simp only[wG]at st;refine bodyPost_ret (v:= .agg #[.bool b,.slice p2 l2 A0]) ?_ rfl ⟨_,_,rfl,st.1,((Ak.alloc _).alloc _).trans st.2⟩;simp[results,results55,go_sem, *]
theorem Qo (n:Bool)(a b:Nat):sg n (a+b)=sg n a+sg n b:=by
  cases n<;>simp[sg];omega
theorem Uy {n m:Bool}{a b:Nat}(h:n≠m)(hab:b<=a):sg n (a-b)=sg n a+sg m b:=by
  cases n<;>cases m<;>simp[sg]at h⊢<;>omega
theorem Ux {n m:Bool}{a b:Nat}(h:n≠m)(hab:a<=b):sg m (b-a)=sg n a+sg m b:=by
  cases n<;>cases m<;>simp[sg]at h⊢<;>omega
theorem Pd (n m:Bool)(u v:Value)(L:Nat)(y z:Int)(w:World)(hu:Cb L w n u y)(hv:Cb L w m v z)(hL:L<=150000):
    Calls prog 53 #[.agg #[.bool n,u],.agg #[.bool m,v]] w (Kz (y+z) w):=by
  obtain⟨ha,hy⟩:=hu.abs;obtain⟨hb,hz⟩:=hv.abs;have A6:=ha.nl;have A5:=hb.nl;obtain⟨p,l,cp,rfl⟩:=hu.form;obtain⟨q,k,cq,rfl⟩:=hv.form;have HA:=zH (fun W (h:Aa (ν (ν w n p l cp) m q k cq) W)=>ha.ext ((((Aa.refl w).alloc _).alloc _).trans h));have HB:=zH (fun W (h:Aa (ν (ν w n p l cp) m q k cq) W)=>hb.ext ((((Aa.refl w).alloc _).alloc _).trans h));have HG:=zH (Ic (ν (ν w n p l cp) m q k cq));have g:∀w',Aa (ν (ν w n p l cp) m q k cq) w'->
      w'.cell? ⟨w.heap.size,0,none⟩=some (.bool n)/\w'.cell? ⟨w.heap.size,1,none⟩=some (.slice p l cp)/\w'.cell? ⟨w.heap.size+1,0,none⟩=some (.bool m)/\w'.cell? ⟨w.heap.size+1,1,none⟩=some (.slice q k cq):=fun w' h=>
    ⟨h.get (by simp),h.get (by simp),h.get (by simp),h.get (by simp)⟩
  have B0:=zH (fun w1 b t u0 u1=>Cl (w:=(ν (ν w n p l cp) m q k cq)) (w1:=w1) (n:=b) (v:=t) (z:=y+z) (u0:=u0) (u1:=u1));clear hu hv ha hb;by_cases hnm:n=m
  · subst hnm
    have H1:=zH (fun W h=>qO _ _ L y.natAbs z.natAbs W (HA.1 W h) (HB.1 W h) ω);have hn:=fun W t (h:Ce W t (y.natAbs+z.natAbs))=>Ih n t (L+1) (y.natAbs+z.natAbs) W (h.isIn (by have:=Nm.nl_add y.natAbs z.natAbs;omega)) (ω)
    rw[Qo,<-hy,<-hz]at hn;have HN:=zH hn;clear hn hy hz A6 A5;go_enter func53,ntmps53
    go_wp2_with fail;go_region_held3 (fun w'=>Aa (ν (ν w n p l cp) n q k cq) w') (first|assumption|exact Aa.drew (Aa.alloc Ak _)|(apply Aa.via;assumption;assumption)|(refine Aa.setCell (Aa.setCell ?_ (by simp) _) (by simp) _;assumption))
      (first|(go_at_call 96;refine(H1.1 _ (by assumption)).mono ?_;rintro e w1 ⟨v1,rfl,hc,A1⟩)|(go_at_call 82;refine(HN.1 _ _ hc).mono ?_;rintro e w2 ⟨b,v2,rfl,A2,A3⟩;obtain⟨p2,l2,A0,rfl⟩:=A2.form;have gk:=HG.1 _ (Aa.trans (Aa.trans (Aa.drew Ak) A1) A3);simp only[wG]at gk))
    go_wp2_with fail;have st:=B0.1 _ _ _ (.bool b) (.slice p2 l2 A0) (Aa.trans (Aa.trans (Aa.drew Ak) A1) A3) A2;simp only[wG]at st;refine bodyPost_ret (v:= .agg #[.bool b,.slice p2 l2 A0]) ?_ rfl ⟨_,_,rfl,st.1,((Ak.alloc _).alloc _).trans st.2⟩;simp[results,results53,go_sem, *]
  have B9:(n==m)=false:=by simpa using hnm
  have B4:=zH hnm;clear hnm;have A7:Aa (ν (ν w n p l cp) m q k cq) ((ν (ν w n p l cp) m q k cq).alloc (.cells θ 29)):=Ak.alloc _;have A8:=zH A7;have H1:=zH (eB _ _ L y.natAbs z.natAbs _ (HA.1 _ A7) (HB.1 _ A7) ω);have H2:=zH (fun W h=>eB _ _ L z.natAbs y.natAbs W (HB.1 W h) (HA.1 W h) ω);clear A7;by_cases hab:z.natAbs<=y.natAbs
  · have hn:=fun W t (h:Ce W t (y.natAbs-z.natAbs))=>Ih n t L (y.natAbs-z.natAbs) W (h.isIn (Aw (Nm.nl_mono (Nat.sub_le _ _)) A6)) (ω)
    rw[Uy B4.1 hab,<-hy,<-hz]at hn;have HN:=zH hn;have B2:=zH hab;clear hn hy hz A6 A5 hab;go_enter func53,ntmps53
    go_wp2_with fail;refine H1.1.mono ?_;rintro e w1 (⟨_,v1,rfl,hc,A1⟩|⟨A4,_,_⟩)
    · have HC:=zH hc
      have gw:=g _ (A8.1.trans A1);clear hc;go_wp2_with fail;refine(HN.1 _ _ HC.1).mono ?_;rintro e w2 ⟨b,v2,rfl,A2,A3⟩;have B1:=zH A2;obtain⟨p2,l2,A0,rfl⟩:=A2.form;clear A2;have gk:=HG.1 _ (A1.trans A3);simp only[wG]at gk;go_wp2_with fail
      have st:=B0.1 _ _ _ (.bool b) (.slice p2 l2 A0) (A1.trans A3) B1.1;simp only[wG]at st;refine bodyPost_ret (v:= .agg #[.bool b,.slice p2 l2 A0]) ?_ rfl ⟨_,_,rfl,st.1,((Ak.alloc _).alloc _).trans st.2⟩;simp[results,results53,go_sem, *]
    exact absurd B2.1 (Nat.not_le_of_lt A4)
  have hn:=fun W t (h:Ce W t (z.natAbs-y.natAbs))=>Ih m t L (z.natAbs-y.natAbs) W (h.isIn (Aw (Nm.nl_mono (Nat.sub_le _ _)) A5)) (ω)
  rw[Ux B4.1 ω,<-hy,<-hz]at hn;have HN:=zH hn;have B2:=zH hab;clear hn hy hz A6 A5 hab;go_enter func53,ntmps53
  go_wp2_with fail;refine H1.1.mono ?_;rintro e w1 (⟨B5,_⟩|⟨A4,rfl,A1⟩)
  · exact absurd B5 B2.1
  have gw:=g _ (A8.1.trans A1);have B7:=zH (H2.1 _ (A8.1.trans A1));have B6:=zH A4;clear A4;go_wp2_with fail
  refine B7.1.mono ?_;rintro e w2 (⟨_,v1,rfl,hc,A3⟩|⟨A9,_,_⟩)
  · have HC:=zH hc
    have B8:=g _ ((A8.1.trans A1).trans A3);clear hc gw;go_wp2_with fail;refine(HN.1 _ _ HC.1).mono ?_;rintro e w3 ⟨b,v2,rfl,A2,B3⟩;have B1:=zH A2;obtain⟨p2,l2,A0,rfl⟩:=A2.form;clear A2;have gk:=HG.1 _ ((A1.trans A3).trans B3);simp only[wG]at gk;go_wp2_with fail
    have st:=B0.1 _ _ _ (.bool b) (.slice p2 l2 A0) ((A1.trans A3).trans B3) B1.1;simp only[wG]at st;refine bodyPost_ret (v:= .agg #[.bool b,.slice p2 l2 A0]) ?_ rfl ⟨_,_,rfl,st.1,((Ak.alloc _).alloc _).trans st.2⟩;simp[results,results53,go_sem, *]
  exact absurd (xQ B6.1) (Nat.not_le_of_lt A9)
theorem aP (n m:Bool)(u v:Value)(L:Nat)(y z:Int)(w:World)(hu:Cb L w n u y)(hv:Cb L w m v z)(hL:L<=150000):
    Calls prog 56 #[.agg #[.bool n,u],.agg #[.bool m,v]] w (Kz (y-z) w):=by
  have A1:=hv.nl;obtain⟨p,l,cp,rfl⟩:=hu.form;obtain⟨q,k,cq,rfl⟩:=hv.form;have HA:=zH (fun W (h:Aa (ν (ν w n p l cp) m q k cq) W)=>hu.ext ((((Aa.refl w).alloc _).alloc _).trans h));have HB:=zH (fun W (h:Aa (ν (ν w n p l cp) m q k cq) W)=>hv.ext ((((Aa.refl w).alloc _).alloc _).trans h));have HG:=zH (Ic (ν (ν w n p l cp) m q k cq));have g:∀w',Aa (ν (ν w n p l cp) m q k cq) w'->
      w'.cell? ⟨w.heap.size,0,none⟩=some (.bool n)/\w'.cell? ⟨w.heap.size,1,none⟩=some (.slice p l cp)/\w'.cell? ⟨w.heap.size+1,0,none⟩=some (.bool m)/\w'.cell? ⟨w.heap.size+1,1,none⟩=some (.slice q k cq):=fun w' h=>
    ⟨h.get (by simp),h.get (by simp),h.get (by simp),h.get (by simp)⟩
  have A5:=zH (fun w1 b t u0 u1=>Cl (w:=(ν (ν w n p l cp) m q k cq)) (w1:=w1) (n:=b) (v:=t) (z:=y-z) (u0:=u0) (u1:=u1));have H1:=zH (fun W h=>pA _ _ L z W (HB.1 W h) ω);have H2:=zH (fun W b t h (hc:Bu W b t (-z))=>(show Calls prog 53 #[.agg #[.bool n,.slice p l cp],.agg #[.bool b,t]] W (Kz (y-z) W)by
    rw[Int.sub_eq_add_neg];exact Pd _ _ _ _ L y (-z) W (HA.1 W h) (hc.isIn (by rw[Int.natAbs_neg];exact A1)) hL))
  clear hu hv A1;go_enter func56,ntmps56;go_wp2_with fail;go_region_held3 (fun w'=>Aa (ν (ν w n p l cp) m q k cq) w') (first|assumption|exact Aa.drew (Aa.alloc Ak _)|(apply Aa.via;assumption;assumption)|(refine Aa.setCell (Aa.setCell ?_ (by simp) _) (by simp) _;assumption))
    (first|(go_at_call 100;refine(H1.1 _ (by assumption)).mono ?_;rintro e w1 ⟨b1,v1,rfl,hc,A3⟩)|(go_at_call 53;refine(H2.1 _ _ _ (by assumption) hc).mono ?_;rintro e w2 ⟨b,v2,rfl,A4,A2⟩;obtain⟨p2,l2,A0,rfl⟩:=A4.form;have gk:=HG.1 _ (Aa.trans (Aa.trans (Aa.drew Ak) A3) A2);simp only[wG]at gk))
  go_wp2_with fail;have st:=A5.1 _ _ _ (.bool b) (.slice p2 l2 A0) (Aa.trans (Aa.trans (Aa.drew Ak) A3) A2) A4;simp only[wG]at st;refine bodyPost_ret (v:= .agg #[.bool b,.slice p2 l2 A0]) ?_ rfl ⟨_,_,rfl,st.1,((Ak.alloc _).alloc _).trans st.2⟩;simp[results,results56,go_sem, *]
theorem Np (y z:Int)(L:Nat)(h1:Nm.nl y.natAbs<=L)(h2:Nm.nl z.natAbs<=L):Nm.nl (y-z).natAbs<=L+1:=by
  have:=Nm.nl_mono (show(y-z).natAbs<=y.natAbs+z.natAbs by omega);have:=Nm.nl_add y.natAbs z.natAbs;omega
theorem Ks (y z:Int)(L:Nat)(h1:Nm.nl y.natAbs<=L)(h2:Nm.nl z.natAbs<=L):Nm.nl (y+z).natAbs<=L+1:=by
  have:=Nm.nl_mono (show(y+z).natAbs<=y.natAbs+z.natAbs by omega);have:=Nm.nl_add y.natAbs z.natAbs;omega
theorem Cq (y z:Int)(L M:Nat)(h1:Nm.nl y.natAbs<=L)(h2:Nm.nl z.natAbs<=M):Nm.nl (y*z).natAbs<=L+M:=by
  rw[Int.natAbs_mul];have:=Nm.nl_mul y.natAbs z.natAbs;omega
theorem mB (n m:Bool)(u v:Value)(L:Nat)(y z:Int)(w:World)(hu:Cb L w n u y)(hv:Cb L w m v z)(hL:L<=150000):
    Calls prog 84 #[.agg #[.bool n,u],.agg #[.bool m,v]] w (Qj (y-z).sign w):=by
  have A0:=Np y z L hu.nl hv.nl;obtain⟨p,l,cp,rfl⟩:=hu.form;obtain⟨q,k,cq,rfl⟩:=hv.form;have H1:=zH (aP _ _ _ _ L y z _ (hu.ext (((Aa.refl w).alloc (.cells #[.bool n,.slice p l cp] 29)).alloc (.cells #[.bool m,.slice q k cq] 29))) (hv.ext (((Aa.refl w).alloc (.cells #[.bool n,.slice p l cp] 29)).alloc (.cells #[.bool m,.slice q k cq] 29))) hL);have H2:=zH (fun W b t (hc:Bu W b t (y-z))=>Li b t (L+1) (y-z) W (hc.isIn A0) ω);clear hu hv A0;go_enter func84,ntmps84
  go_wp2_with fail;refine H1.1.mono ?_;rintro e w1 ⟨b,t,rfl,hc,A2⟩;have HC:=zH hc;clear hc;go_wp2_with fail
  refine(H2.1 _ _ _ HC.1).mono ?_;rintro e w2 ⟨rfl,A1⟩;go_wp2_with fail;go_ret;exact⟨rfl,(((Ak.alloc _).alloc _).trans A2).trans A1⟩
def Dt (L:Nat)(w:World)(n:Bool)(u:Value)(m:Bool)(v:Value)(q:Rat):Prop:=∃y z,Cb L w n u y/\Cb L w m v z/\q=Rat.divInt y z
def Cx (w:World)(n:Bool)(u:Value)(m:Bool)(v:Value)(q:Rat):Prop:=Bu w n u q.num/\Bu w m v (q.den:Int)
theorem Dt.ext {L:Nat}{w w':World}{n m:Bool}{u v:Value}{q:Rat}(h:Dt L w n u m v q)(e:Aa w w'):Dt L w' n u m v q:=by
  obtain⟨y,z,h1,h2,h3⟩:=h;exact⟨y,z,h1.ext e,h2.ext e,h3⟩
theorem Cx.ext {w w':World}{n m:Bool}{u v:Value}{q:Rat}(h:Cx w n u m v q)(e:Aa w w'):Cx w' n u m v q:=⟨h.1.ext e,h.2.ext e⟩
theorem Cx.own {w w':World}{n m:Bool}{u v:Value}{q:Rat}(h:Cx w n u m v q){g:Nat}{t:TypeId}{cs:Array Value}(hb:Al w g t cs)(hn:Pp cs)(o:Ba g w w'):Cx w' n u m v q:=⟨h.1.own hb hn o,h.2.own hb hn o⟩
theorem Cx.isIn {L:Nat}{w:World}{n m:Bool}{u v:Value}{q:Rat}(h:Cx w n u m v q)(hl:Nm.rl q<=L):Dt L w n u m v q:=by
  unfold Nm.rl at hl;exact⟨q.num,q.den,h.1.isIn ω,h.2.isIn (by rw[xM];omega),(Rat.num_divInt_den q).symm⟩
theorem Dt.form {L:Nat}{w:World}{n m:Bool}{u v:Value}{q:Rat}(h:Dt L w n u m v q):∃p l c p' l' c',u= .slice p l c/\v= .slice p' l' c':=by
  obtain⟨y,z,h1,h2,h3⟩:=h;obtain⟨p,l,c,rfl⟩:=h1.form;obtain⟨p',l',c',rfl⟩:=h2.form;exact⟨p,l,c,p',l',c',rfl,rfl⟩
theorem Cx.form {w:World}{n m:Bool}{u v:Value}{q:Rat}(h:Cx w n u m v q):∃p l c p' l' c',u= .slice p l c/\v= .slice p' l' c':=by
  obtain⟨p,l,c,rfl⟩:=h.1.form;obtain⟨p',l',c',rfl⟩:=h.2.form;exact⟨p,l,c,p',l',c',rfl,rfl⟩
theorem Dt.rl {L:Nat}{w:World}{n m:Bool}{u v:Value}{q:Rat}(h:Dt L w n u m v q):Nm.rl q<=max L 1:=by
  obtain⟨y,z,h1,h2,rfl⟩:=h;have:=Nm.rl_divInt y z;have:=h1.nl;have:=h2.nl;omega
def Fn (q:Rat)(w:World)(e:Ending)(w':World):Prop:=∃n u m v,e= .returned (.agg #[.bool n,u,.bool m,v])/\Cx w' n u m v q/\Aa w w'
theorem Ha (w:World):∀w',Aa (μ w false none 0 0 false none 0 0) w'->
    w'.cell? ⟨w.heap.size,0,none⟩=some φ/\w'.cell? ⟨w.heap.size,1,none⟩=some (.slice none 0 0)/\w'.cell? ⟨w.heap.size,2,none⟩=some φ/\w'.cell? ⟨w.heap.size,3,none⟩=some (.slice none 0 0)/\
    w'.frozen? ⟨w.heap.size,0,none⟩=false/\w'.frozen? ⟨w.heap.size,1,none⟩=false/\w'.frozen? ⟨w.heap.size,2,none⟩=false/\w'.frozen? ⟨w.heap.size,3,none⟩=false:=fun w' h=>
  ⟨h.get (by simp),h.get (by simp),h.get (by simp),h.get (by simp),(h.frozen (by simp)).trans (World.frozen?_alloc_at _ _ _ _ (by simp)),(h.frozen (by simp)).trans (World.frozen?_alloc_at _ _ _ _ (by simp)),(h.frozen (by simp)).trans (World.frozen?_alloc_at _ _ _ _ (by simp)),(h.frozen (by simp)).trans (World.frozen?_alloc_at _ _ _ _ (by simp))⟩
theorem Dq {w w1:World}{n m:Bool}{u v:Value}{q:Rat}{u0 u1 u2 u3:Value}(he:Aa (μ w false none 0 0 false none 0 0) w1)(h:Cx w1 n u m v q):
    Cx ((((w1.setCell ⟨w.heap.size,0,none⟩ u0).setCell ⟨w.heap.size,1,none⟩ u1).setCell ⟨w.heap.size,2,none⟩ u2).setCell ⟨w.heap.size,3,none⟩ u3) n u m v q/\
    Aa w ((((w1.setCell ⟨w.heap.size,0,none⟩ u0).setCell ⟨w.heap.size,1,none⟩ u1).setCell ⟨w.heap.size,2,none⟩ u2).setCell ⟨w.heap.size,3,none⟩ u3):=
  ⟨h.own (Al.ext (Al.new w _ _) he) (Ox _ _ _ _ _ _ _ _) (((((Ba.refl _ _).set_at 0 none _).set_at 1 none _).set_at 2 none _).set_at 3 none _),
   Aa.setCell (Aa.setCell (Aa.setCell (Aa.setCell ((Ak.alloc _).trans he) (Bz _) _) (Bz _) _) (Bz _) _) (Bz _) _⟩
theorem Zy (n:Bool)(v gv:Value)(L:Nat)(y:Int)(d bg:Nat)(w:World)(hv:Cb L w n v y)(hg:w.cell? ⟨bg,0,none⟩=some gv)(hd:Bp L w gv d)(hd0:d≠0)(hL:L<=300000):
    Calls prog 93 #[.agg #[.bool n,v],.pointer (π bg)] w (Md (y.natAbs/d) w):=by
  have hn:=hv.abs.1;obtain⟨p,l,cp,rfl⟩:=hv.form;obtain⟨q,k,cq,rfl⟩:∃q k cq,gv= .slice q k cq:=by
    obtain⟨xs,⟨q,cq,rfl,_⟩,_⟩:=hd;exact⟨q,_,cq,rfl⟩
  have HD:=zH (Tu _ _ L y.natAbs d _ (hn.ext ((Aa.refl w).alloc (.cells #[.bool n,.slice p l cp] 29))) (hd.ext ((Aa.refl w).alloc (.cells #[.bool n,.slice p l cp] 29))) hL hd0);have c0:(ν w n p l cp).cell? ⟨bg,0,none⟩=some (.slice q k cq):=((Aa.refl w).alloc _).get hg;clear hv hn hg hd hd0;go_enter func93,ntmps93
  go_wp2_with fail;refine HD.1.mono ?_;rintro e w1 ⟨qv,rv,rfl,hq,hr,he⟩;have HQ:=zH hq;clear hq hr;go_wp2_with fail
  go_ret;exact⟨qv,rfl,HQ.1,(Ak.alloc _).trans he⟩
theorem fW (y z:Int): -1<=y.sign*z.sign/\y.sign*z.sign<=1:=by
  rcases Int.lt_trichotomy y 0 with h|h|h<;>rcases Int.lt_trichotomy z 0 with k|k|k<;>
    simp[*,Int.sign_eq_neg_one_of_neg,Int.sign_eq_one_of_pos]
theorem qL (q:Rat):sg false q.den=(q.den:Int):=rfl
theorem Iu (n m:Bool)(u v:Value)(L:Nat)(y z:Int)(w:World)(hu:Cb L w n u y)(hv:Cb L w m v z)(hL:L<=300000)(hz:z≠0):
    Calls prog 52 #[.agg #[.bool n,u],.agg #[.bool m,v]] w (Fn (Rat.divInt y z) w):=by
  have A8:=hv.nl;have B7:=hu.nl;have B5:=hu.abs.1;have B4:=hv.abs.1;obtain⟨p,l,cp,rfl⟩:=hu.form;obtain⟨q,k,cq,rfl⟩:=hv.form;obtain⟨e1,e2⟩:=Nm.num_of_pair y z hz;have e3:=Nm.den_of_pair y z hz;have C1:y.natAbs.gcd z.natAbs≠0:=by
    intro h;have:=Nat.eq_zero_of_gcd_eq_zero_right h;omega
  have C0:Nm.nl (y.natAbs.gcd z.natAbs)<=L:=Aw (Nm.nl_mono (Nat.gcd_le_right _ ω)) A8;have A5:Aa w (((ν (ν w n p l cp) m q k cq).alloc (.cells #[.bool false,.slice none 0 0,.bool false,.slice none 0 0] 31))):=((Ak.alloc _).alloc _).alloc _;have A6:=zH A5;have H1:=zH (pT _ _ L y.natAbs z.natAbs _ (B5.ext A5) (B4.ext A5) hL);have HA:=zH (fun W (h:Aa w W)=>hu.ext h);have HB:=zH (fun W (h:Aa w W)=>hv.ext h);have HG:=zH (Ha (ν (ν w n p l cp) m q k cq));have D0:=zH (fun w1 n1 t1 n2 t2 u0 u1 u2 u3=>Dq (w:=(ν (ν w n p l cp) m q k cq)) (w1:=w1) (n:=n1) (u:=t1) (m:=n2) (v:=t2) (q:=Rat.divInt y z) (u0:=u0) (u1:=u1) (u2:=u2) (u3:=u3));have HQ:=zH (And.intro e1 (And.intro e2 e3));have C5:=zH C1;have C4:=zH C0;clear A5 hu hv B5 B4 e1 e2 e3 C1 C0 hz;go_enter func52,ntmps52
  go_wp2_with fail;refine H1.1.mono ?_;rintro e w1 ⟨gv,rfl,hg,A0⟩;have B3:=zH hg;obtain⟨pg,cg,rfl⟩:=hg.form;clear hg H1;generalize Nm.nl (y.natAbs.gcd z.natAbs)=lg at B3⊢
  go_wp2_with fail;have C3:=zH (fun W (h:Aa (w1.alloc (.cells #[.slice pg lg cg] 27)) W)=>Li n (.slice p l cp) L y W (HA.1 W ((A6.1.trans A0).trans ((Ak.alloc _).trans h))) hL);have C2:=zH (fun W (h:Aa (w1.alloc (.cells #[.slice pg lg cg] 27)) W)=>Li m (.slice q k cq) L z W (HB.1 W ((A6.1.trans A0).trans ((Ak.alloc _).trans h))) hL);have D2:=zH (fun W (h:Aa (w1.alloc (.cells #[.slice pg lg cg] 27)) W)=>Zy n (.slice p l cp) (.slice pg lg cg) L y (y.natAbs.gcd z.natAbs) w1.heap.size W (HA.1 W ((A6.1.trans A0).trans ((Ak.alloc _).trans h))) (h.get (by simp)) ((Ce.ext B3.1 ((Ak.alloc _).trans h)).isIn C4.1) C5.1 hL);have D1:=zH (fun W (h:Aa (w1.alloc (.cells #[.slice pg lg cg] 27)) W)=>Zy m (.slice q k cq) (.slice pg lg cg) L z (y.natAbs.gcd z.natAbs) w1.heap.size W (HB.1 W ((A6.1.trans A0).trans ((Ak.alloc _).trans h))) (h.get (by simp)) ((Ce.ext B3.1 ((Ak.alloc _).trans h)).isIn C4.1) C5.1 hL);have C6:=zH (show Aa ((ν (ν w n p l cp) m q k cq).alloc (.cells #[.bool false,.slice none 0 0,.bool false,.slice none 0 0] 31)) (w1.alloc (.cells #[.slice pg lg cg] 27))from A0.alloc _);have A7:decide (y.sign*z.sign<0)=decide ((Rat.divInt y z).num<0):=by
    rw[Bool.eq_iff_iff];simp only[decide_eq_true_eq];exact HQ.1.2.1.symm
  have A3:∀W t x,x=decide (y.sign*z.sign<0)->Ce W t (y.natAbs/y.natAbs.gcd z.natAbs)->Calls prog 82 #[.bool x,t] W (Kz (Rat.divInt y z).num W):=fun W t x hx h=>by
    subst hx;have hh:=Ih (decide (y.sign*z.sign<0)) t L _ W (h.isIn (Aw (Nm.nl_div _ _) B7)) ω;rw[A7,<-HQ.1.1,eD]at hh;rw[A7];exact hh
  have B6:∀W t,Ce W t (z.natAbs/y.natAbs.gcd z.natAbs)->Calls prog 82 #[.bool false,t] W (Kz ((Rat.divInt y z).den:Int) W):=fun W t h=>by
    have hh:=Ih false t L _ W (h.isIn (Aw (Nm.nl_div _ _) A8)) ω;rw[<-HQ.1.2.2,qL]at hh;exact hh
  have sp:=fW y z;clear A7 HQ B7 A8;generalize y.sign=s1 at C3 A3 sp;generalize z.sign=s2 at C2 A3 sp;obtain⟨E2,E1⟩:=sp;have C9:=zH (show decide (IntKind.i64.wrap (s1*s2)<0)=decide (s1*s2<0)by rw[IntWalk.i64_in _ ω]);have D4:=zH A3;have D3:=zH B6;clear A3 B6;have gl:∀w',Ba (w.heap.size+1+1) (w1.alloc (.cells #[.slice pg lg cg] 27)) w'->w'.cell? ⟨w.heap.size,0,none⟩=some (.bool n)/\w'.cell? ⟨w.heap.size,1,none⟩=some (.slice p l cp)/\w'.cell? ⟨w.heap.size+1,0,none⟩=some (.bool m)/\w'.cell? ⟨w.heap.size+1,1,none⟩=some (.slice q k cq):=fun w' h=>by
    have A4:Aa (ν (ν w n p l cp) m q k cq) w1:=(Ak.alloc _).trans A0;have a0:w1.cell? ⟨w.heap.size,0,none⟩=some (.bool n):=A4.get (by simp);have a1:w1.cell? ⟨w.heap.size,1,none⟩=some (.slice p l cp):=A4.get (by simp);have a2:w1.cell? ⟨w.heap.size+1,0,none⟩=some (.bool m):=A4.get (by simp);have a3:w1.cell? ⟨w.heap.size+1,1,none⟩=some (.slice q k cq):=A4.get (by simp);exact⟨h.get (((Aa.refl w1).alloc _).get a0) (show w.heap.size≠w.heap.size+1+1 by omega),h.get (((Aa.refl w1).alloc _).get a1) (show w.heap.size≠w.heap.size+1+1 by omega),h.get (((Aa.refl w1).alloc _).get a2) (show w.heap.size+1≠w.heap.size+1+1 by omega),h.get (((Aa.refl w1).alloc _).get a3) (show w.heap.size+1≠w.heap.size+1+1 by omega)⟩
  go_region_held3 (fun w'=>Ba (w.heap.size+1+1) (w1.alloc (.cells #[.slice pg lg cg] 27)) w') (first|assumption|exact Ba.drew (Ba.refl _ _)|(apply Ba.of_ext;assumption)|(refine Ba.set_at (Ba.set_at (Ba.set_at (Ba.set_at ?_ _ _ _) _ _ _) _ _ _) _ _ _;first|assumption|(apply Ba.of_ext;assumption)))
    (first|(go_at_call 95;((with_reducible refine(C3.1 _ (by first|assumption|exact Aa.drew Ak)).mono ?_));rintro e D6 ⟨rfl,B0⟩;have hx:Aa (w1.alloc (.cells #[.slice pg lg cg] 27)) _:=Aa.trans (by first|assumption|exact Aa.drew Ak) B0)|(go_at_call 95;((with_reducible refine(C2.1 _ (by first|assumption|exact Aa.drew Ak)).mono ?_));rintro e D5 ⟨rfl,A9⟩;have hx:Aa (w1.alloc (.cells #[.slice pg lg cg] 27)) _:=Aa.trans (by first|assumption|exact Aa.drew Ak) A9)|(go_at_call 93;((with_reducible refine(D2.1 _ (by first|assumption|exact Aa.drew Ak)).mono ?_));rintro e D8 ⟨t1,rfl,C8,B1⟩;have hx:Aa (w1.alloc (.cells #[.slice pg lg cg] 27)) _:=Aa.trans (by first|assumption|exact Aa.drew Ak) B1)|(go_at_call 93;((with_reducible refine(D1.1 _ (by first|assumption|exact Aa.drew Ak)).mono ?_));rintro e D7 ⟨t2,rfl,C7,A1⟩;have hx:Aa (w1.alloc (.cells #[.slice pg lg cg] 27)) _:=Aa.trans (by first|assumption|exact Aa.drew Ak) A1)|(go_at_call 82;((with_reducible refine(D3.1 _ _ C7).mono ?_));rintro e D9 ⟨b2,r2,rfl,B8,A2⟩;have hx:Aa (w1.alloc (.cells #[.slice pg lg cg] 27)) _:=Aa.trans (by first|assumption|exact Aa.drew Ak) A2;obtain⟨p2,l2,k2,rfl⟩:=B8.form;have gk:=HG.1 _ (C6.1.trans hx);simp only[wG]at gk)|(go_at_call 82;((with_reducible refine(D4.1 _ _ _ (by first|rfl|exact C9.1) C8).mono ?_));rintro e E0 ⟨b1,r1,rfl,B9,B2⟩;have hx:Aa (w1.alloc (.cells #[.slice pg lg cg] 27)) _:=Aa.trans (by first|assumption|exact Aa.drew Ak) B2;obtain⟨p1,l1,k1,rfl⟩:=B9.form))
  go_wp2_with fail;have st:=D0.1 _ _ _ _ _ (.bool b1) (.slice p1 l1 k1) (.bool b2) (.slice p2 l2 k2) (C6.1.trans hx) ⟨B9.ext (A1.trans A2),B8⟩;simp only[wG]at st;refine bodyPost_ret (v:= .agg #[.bool b1,.slice p1 l1 k1,.bool b2,.slice p2 l2 k2]) ?_ rfl ⟨_,_,_,_,rfl,st.1,((Ak.alloc _).alloc _).trans st.2⟩;simp[results,results52,go_sem, *]
def Kj (q:Rat)(er:Int)(w:World)(e:Ending)(w':World):Prop:=∃n u m v,e= .returned (.tuple #[.agg #[.bool n,u,.bool m,v],iV er])/\Cx w' n u m v q/\Aa w w'
theorem gM (n m:Bool)(u v:Value)(L:Nat)(y:Int)(w:World)(hu:Cb L w n u y)(hv:Cb L w m v 0)(hL:L<=300000):
    Calls prog 98 #[.agg #[.bool n,u],.agg #[.bool m,v]] w fun e w'=>e= .returned (.tuple #[.agg #[.bool false,.slice none 0 0,.bool false,.slice none 0 0],iV 9])/\Aa w w':=by
  obtain⟨p,l,cp,rfl⟩:=hu.form;obtain⟨q,k,cq,rfl⟩:=hv.form;have A0:Aa w (((ν (ν w n p l cp) m q k cq).alloc (.cells #[.bool false,.slice none 0 0,.bool false,.slice none 0 0] 31))):=((Ak.alloc _).alloc _).alloc _;have HS:=zH (Li m (.slice q k cq) L 0 _ (hv.ext A0) hL);rw[show(0:Int).sign=0 from rfl]at HS;have HG:=zH (Ha (ν (ν w n p l cp) m q k cq));clear A0 hu hv;go_enter func98,ntmps98
  go_wp2_with fail;refine HS.1.mono ?_;rintro e w1 ⟨rfl,he⟩;have gk:=HG.1 _ he;simp only[wG]at gk;go_wp2_with fail
  refine bodyPost_ret (v:= .tuple #[.agg #[.bool false,.slice none 0 0,.bool false,.slice none 0 0],iV 9]) ?_ rfl ⟨rfl,?_⟩
  · simp[results,results98,go_sem, *]
  have A1:Aa (ν (ν w n p l cp) m q k cq) w1:=(Ak.alloc _).trans he;exact((Ak.alloc _).alloc _).trans (Aa.setCell (Aa.setCell (Aa.setCell (Aa.setCell A1 (by simp) _) (by simp) _) (by simp) _) (by simp) _)
theorem Sm (n m:Bool)(u v:Value)(L:Nat)(y z:Int)(w:World)(hu:Cb L w n u y)(hv:Cb L w m v z)(hL:L<=300000)(hz:z≠0):
    Calls prog 98 #[.agg #[.bool n,u],.agg #[.bool m,v]] w (Kj (Rat.divInt y z) 0 w):=by
  obtain⟨p,l,cp,rfl⟩:=hu.form;obtain⟨q,k,cq,rfl⟩:=hv.form;have A1:Aa w (((ν (ν w n p l cp) m q k cq).alloc (.cells #[.bool false,.slice none 0 0,.bool false,.slice none 0 0] 31))):=((Ak.alloc _).alloc _).alloc _;have HS:=zH (Li m (.slice q k cq) L z _ (hv.ext A1) hL);have A0:z.sign≠0:=by rw[Ne,Int.sign_eq_zero_iff_zero];exact hz
  generalize z.sign=s at HS A0;have g0:(s==0)=false:=beq_eq_false_iff_ne.2 A0;have A4:=zH (fun W (h:Aa w W)=>Iu n m (.slice p l cp) (.slice q k cq) L y z W (hu.ext h) (hv.ext h) hL hz);have HG:=zH (Ha (ν (ν w n p l cp) m q k cq));have A3:=zH (fun w1 n1 t1 n2 t2 u0 u1 u2 u3=>Dq (w:=(ν (ν w n p l cp) m q k cq)) (w1:=w1) (n:=n1) (u:=t1) (m:=n2) (v:=t2) (q:=Rat.divInt y z) (u0:=u0) (u1:=u1) (u2:=u2) (u3:=u3));have A6:=zH A1;clear A1 hu hv hz A0;have gb:∀w',Aa (ν (ν w n p l cp) m q k cq) w'->
      w'.cell? ⟨w.heap.size,0,none⟩=some (.bool n)/\w'.cell? ⟨w.heap.size,1,none⟩=some (.slice p l cp)/\w'.cell? ⟨w.heap.size+1,0,none⟩=some (.bool m)/\w'.cell? ⟨w.heap.size+1,1,none⟩=some (.slice q k cq):=fun w' h=>
    ⟨h.get (by simp),h.get (by simp),h.get (by simp),h.get (by simp)⟩
  have A5:=zH gb;clear gb;go_enter func98,ntmps98;go_wp2_with fail;refine HS.1.mono ?_;rintro e w1 ⟨rfl,he⟩;have g1:=A5.1 _ ((Ak.alloc _).trans he);go_wp2_with fail
  refine(A4.1 _ (A6.1.trans he)).mono ?_;rintro e w2 ⟨b1,t1,b2,t2,rfl,hc,A2⟩;have HC:=zH hc;obtain⟨p1,l1,k1,p2,l2,k2,rfl,rfl⟩:=hc.form;have gk:=HG.1 _ (he.trans A2);simp only[wG]at gk;clear hc g1;go_wp2_with fail
  have st:=A3.1 _ _ _ _ _ (.bool b1) (.slice p1 l1 k1) (.bool b2) (.slice p2 l2 k2) (he.trans A2) HC.1;simp only[wG]at st;refine bodyPost_ret (v:= .tuple #[.agg #[.bool b1,.slice p1 l1 k1,.bool b2,.slice p2 l2 k2],iV 0]) ?_ rfl ⟨_,_,_,_,rfl,st.1,((Ak.alloc _).alloc _).trans st.2⟩;simp[results,results98,go_sem, *]
theorem Zo {w:World}{n m:Bool}{u v:Value}{a:Int}(h1:Bu w n u a)(h2:Bu w m v 1):Cx w n u m v (a:Rat):=by
  refine⟨?_,?_⟩
  · rw[Rat.num_intCast];exact h1
  rw[Rat.den_intCast];exact h2
theorem On (a:Int)(w:World)(h1: -9223372036854775808<=a)(h2:a<=9223372036854775807):
    Calls prog 20 #[iV a] w (Fn (a:Rat) w):=by
  have HF:=zH (fun W=>Jg a W h1 h2);have A5:=zH (fun W=>Jg 1 W ω ω);have HG:=zH (Ha w);have A4:=zH (fun w1 n1 t1 n2 t2 u0 u1 u2 u3=>Dq (w:=w) (w1:=w1) (n:=n1) (u:=t1) (m:=n2) (v:=t2) (q:=(a:Rat)) (u0:=u0) (u1:=u1) (u2:=u2) (u3:=u3));clear h1 h2;go_enter func20,ntmps20
  go_wp2_with fail;refine(HF.1 _).mono ?_;rintro e w1 ⟨b1,t1,rfl,A2,A3⟩;have A7:=zH A2;obtain⟨p1,l1,k1,rfl⟩:=A2.form;clear A2;go_wp2_with fail
  refine(A5.1 _).mono ?_;rintro e w2 ⟨b2,t2,rfl,A1,A0⟩;have A6:=zH A1;obtain⟨p2,l2,k2,rfl⟩:=A1.form;have gk:=HG.1 _ (A3.trans A0);clear A1;go_wp2_with fail
  have st:=A4.1 _ _ _ _ _ (.bool b1) (.slice p1 l1 k1) (.bool b2) (.slice p2 l2 k2) (A3.trans A0) (Zo (A7.1.ext A0) A6.1);refine bodyPost_ret (v:= .agg #[.bool b1,.slice p1 l1 k1,.bool b2,.slice p2 l2 k2]) ?_ rfl ⟨_,_,_,_,rfl,st.1,st.2⟩;simp[results,results20,go_sem, *]
theorem Un (a b:Int)(w:World)(h1: -9223372036854775808<=a)(h2:a<=9223372036854775807)(h3: -9223372036854775808<=b)(h4:b<=9223372036854775807)(hb:b≠0):
    Calls prog 147 #[iV a,iV b] w (Kj (Rat.divInt a b) 0 w):=by
  have HF:=zH (fun W=>Jg a W h1 h2);have A8:=zH (fun W=>Jg b W h3 h4);have A2:=Ta a h1 h2;have A1:=Ta b h3 h4;have HN:=zH (fun W n u m v (x:Bu W n u a) (z:Bu W m v b)=>Sm n m u v 2 a b W (x.isIn A2) (z.isIn A1) ω hb);have HG:=zH (Ha w);have A7:=zH (fun w1 n1 t1 n2 t2 u0 u1 u2 u3=>Dq (w:=w) (w1:=w1) (n:=n1) (u:=t1) (m:=n2) (v:=t2) (q:=Rat.divInt a b) (u0:=u0) (u1:=u1) (u2:=u2) (u3:=u3));clear h1 h2 h3 h4 A2 A1 hb;go_enter func147,ntmps147
  go_wp2_with fail;refine(HF.1 _).mono ?_;rintro e w1 ⟨b1,t1,rfl,A6,A4⟩;have B0:=zH A6;clear A6;go_wp2_with fail
  refine(A8.1 _).mono ?_;rintro e w2 ⟨b2,t2,rfl,A5,A0⟩;have A9:=zH A5;clear A5;go_wp2_with fail
  refine(HN.1 _ _ _ _ _ (B0.1.ext A0) A9.1).mono ?_;rintro e w3 ⟨n1,u1,n2,u2,rfl,hc,A3⟩;have HC:=zH hc;obtain⟨p1,l1,k1,p2,l2,k2,rfl,rfl⟩:=hc.form;have gk:=HG.1 _ ((A4.trans A0).trans A3);clear hc;go_wp2_with fail
  have st:=A7.1 _ _ _ _ _ (.bool n1) (.slice p1 l1 k1) (.bool n2) (.slice p2 l2 k2) ((A4.trans A0).trans A3) HC.1;refine bodyPost_ret (v:= .tuple #[.agg #[.bool n1,.slice p1 l1 k1,.bool n2,.slice p2 l2 k2],iV 0]) ?_ rfl ⟨_,_,_,_,rfl,st.1,st.2⟩;simp[results,results147,go_sem, *]
theorem Hk (n m:Bool)(u v:Value)(L:Nat)(q:Rat)(w:World)(h:Dt L w n u m v q)(hL:L<=300000):
    Calls prog 54 #[.agg #[.bool n,u,.bool m,v]] w (Fn q w):=by
  obtain⟨y,z,hu,hv,hq⟩:=h;obtain⟨p,l,cp,rfl⟩:=hu.form;obtain⟨q2,k,cq,rfl⟩:=hv.form;have A0:Aa w (μ (μ w n p l cp m q2 k cq) false none 0 0 false none 0 0):=(Ak.alloc _).alloc _;have HG:=zH (Ha (μ w n p l cp m q2 k cq));have A2:=zH (fun w1 n1 t1 n2 t2 u0 u1 u2 u3=>Dq (w:=w.alloc (.cells #[.bool n,.slice p l cp,.bool m,.slice q2 k cq] 31)) (w1:=w1) (n:=n1) (u:=t1) (m:=n2) (v:=t2) (q:=q) (u0:=u0) (u1:=u1) (u2:=u2) (u3:=u3));by_cases hz:z=0
  · subst hz
    have A3:q=((0:Int):Rat):=by rw[hq,Rat.divInt_zero];rfl
    subst A3;have HN:=zH (gM n m (.slice p l cp) (.slice q2 k cq) L y _ (hu.ext A0) (hv.ext A0) hL);have HF:=zH (fun W=>On 0 W ω ω);clear hu hv hq A0;go_enter func54,ntmps54
    go_wp2_with fail;refine HN.1.mono ?_;rintro e w1 ⟨rfl,he⟩;go_wp2_with fail;refine(HF.1 _).mono ?_;rintro e w2 ⟨b1,t1,b2,t2,rfl,hc,A4⟩;have HC:=zH hc;obtain⟨p1,l1,k1,p2,l2,k2,rfl,rfl⟩:=hc.form;have hE:=he.trans ((Ak.alloc _).trans A4);have gk:=HG.1 _ hE;simp only[wG]at gk;have HE:=zH hE;clear hc hE;go_wp2_with fail
    have st:=A2.1 _ _ _ _ _ (.bool b1) (.slice p1 l1 k1) (.bool b2) (.slice p2 l2 k2) HE.1 HC.1;simp only[wG]at st;refine bodyPost_ret (v:= .agg #[.bool b1,.slice p1 l1 k1,.bool b2,.slice p2 l2 k2]) ?_ rfl ⟨_,_,_,_,rfl,st.1,(Ak.alloc _).trans st.2⟩;simp[results,results54,go_sem, *]
  have A1:=Sm n m (.slice p l cp) (.slice q2 k cq) L y z _ (hu.ext A0) (hv.ext A0) hL hz;rw[<-hq]at A1;have HN:=zH A1;clear hu hv hq A0 hz A1;go_enter func54,ntmps54
  go_wp2_with fail;refine HN.1.mono ?_;rintro e w1 ⟨b1,t1,b2,t2,rfl,hc,he⟩;have HC:=zH hc;obtain⟨p1,l1,k1,p2,l2,k2,rfl,rfl⟩:=hc.form;have gk:=HG.1 _ he;simp only[wG]at gk;have hz:=he.size;simp only[wG]at hz;have A6:w.heap.size+1<w1.heap.size:=ω
  have A5:w.heap.size+1≠w1.heap.size:=ω;clear hc hz;go_wp2_with fail;have st:=A2.1 _ _ _ _ _ (.bool b1) (.slice p1 l1 k1) (.bool b2) (.slice p2 l2 k2) he HC.1;simp only[wG]at st;refine bodyPost_ret (v:= .agg #[.bool b1,.slice p1 l1 k1,.bool b2,.slice p2 l2 k2]) ?_ rfl ⟨_,_,_,_,rfl,st.1.ext (Ak.alloc _),((Ak.alloc _).trans st.2).alloc _⟩;simp[results,results54,go_sem, *]
end
end Go.Proofs.YthlfilomhgeheaaGreat
