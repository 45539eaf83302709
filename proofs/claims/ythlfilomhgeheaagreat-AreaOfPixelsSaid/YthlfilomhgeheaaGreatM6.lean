import Derived.Test.YthlfilomhgeheaaGreatProg
import Derived.Calls
import Derived.Shelf.SlSortCmp.NoneTotal
import Derived.Sort.CutIn
import Derived.Sort.LoopGhostIn
import Derived.Test.YthlfilomhgeheaaGreatM5
set_option maxRecDepth 100000
set_option maxHeartbeats 4000000
namespace Go.Proofs.YthlfilomhgeheaaGreat
open Go.RowKit
open Go.Proofs.Tryz
section
theorem Wc {a b:Int×Int}:Cu a b=true↔a.2<b.2\/(a.2=b.2/\a.1<b.1):=by
  unfold Cu;simp
theorem eU {a b:Int×Int}(h:¬Cu a b=true)(k:¬Cu b a=true):a=b:=by
  rw[Wc]at h k;exact Prod.ext ω (ω)
theorem Vz {a b:Int×Int}(h:Cu a b=true):¬Cu b a=true:=by
  rw[Wc]at h⊢;omega
theorem kB (a b c d:Int×Int):Hi c d a b=Hi a b c d:=by
  unfold Hi;by_cases h:Cu (Cz a b) (Cz c d)=true
  · rw[if_pos h,if_neg (Vz h)]
  by_cases k:Cu (Cz c d) (Cz a b)=true
  · rw[if_neg h,if_pos k]
  rw[if_neg h,if_neg k,eU h k]
theorem kC (a b c d:Int×Int):Jw c d a b=Jw a b c d:=by
  unfold Jw;by_cases h:Cu (Cj a b) (Cj c d)=true
  · rw[if_pos h,if_neg (Vz h)]
  by_cases k:Cu (Cj c d) (Cj a b)=true
  · rw[if_neg h,if_pos k]
  rw[if_neg h,if_neg k,eU h k]
theorem Qn (a b c d:Int×Int):Ai c d a b=Ai a b c d:=by unfold Ai;rw[kB,kC]
theorem Nv {u v:Int×Int}:cr u v= -cr v u:=by unfold cr;grind
theorem Pm (x y:Int):(((-x:Int)):Rat)/(((-y:Int)):Rat)=(x:Rat)/(y:Rat):=by
  rw[Rat.intCast_neg,Rat.intCast_neg];by_cases h:(y:Rat)=0
  · rw[h];simp[Rat.div_def]
  grind
theorem Uz (a b c d:Int×Int):Jn c d a b=Oj a b c d:=by
  unfold Jn Oj;rw[show cr (dv c a) (dv a b)= -cr (dv a c) (dv a b)by unfold cr dv;grind,show cr (dv c d) (dv a b)= -cr (dv a b) (dv c d)from Nv,Pm]
theorem fZ (a b c d:Int×Int):Oj c d a b=Jn a b c d:=by
  unfold Jn Oj;rw[show cr (dv c a) (dv c d)= -cr (dv a c) (dv c d)by unfold cr dv;grind,show cr (dv c d) (dv a b)= -cr (dv a b) (dv c d)from Nv,Pm]
theorem Yd {a b:Int×Int}:dv a b=(0,0)↔a=b:=by
  unfold dv;constructor
  · intro h;injection h with h1 h2;exact Prod.ext ω (ω)
  intro h;subst h;simp
theorem Vx {a b c d:Int×Int}:Cf a b c d=(0,0)↔a=b/\c=d:=by
  unfold Cf;split
  · rename_i h;rw[Yd]at h;rw[Yd];exact⟨fun k=>⟨h,k⟩,fun k=>k.2⟩
  rename_i h;exact⟨fun k=>absurd k h,fun k=>absurd (Yd.2 k.1) h⟩
def aG (a b c d:Int×Int):Prop:=cr (Cf a b c d) (dv a c)≠0\/(Cf a b c d=(0,0)/\a≠c)
theorem sG {u v z:Int×Int}(hu:u≠(0,0))(h:cr u v=0)(k:cr u z=0):cr v z=0:=by
  obtain⟨u1,u2⟩:=u;obtain⟨v1,v2⟩:=v;obtain⟨z1,z2⟩:=z;unfold cr at h k⊢;dsimp only at h k⊢
  have A0:u1≠0\/u2≠0:=by
    by_cases e:u1=0
    · right;intro e2;exact hu (by rw[e,e2])
    exact .inl e
  rcases A0 with e|e
  · have:u1*(v1*z2-v2*z1)=0:=by grind
    exact(Int.mul_eq_zero.1 this).resolve_left e
  have:u2*(v1*z2-v2*z1)=0:=by grind
  exact(Int.mul_eq_zero.1 this).resolve_left e
theorem Sy {a b c d:Int×Int}(h0:cr (dv a b) (dv c d)=0)(h:aG c d a b):aG a b c d:=by
 unfold aG at h⊢;rcases h with h|⟨h1,h2⟩
 ·left
  intro k;apply h;have hz:cr (Cf a b c d) (dv c a)=0:=by
   have:cr (Cf a b c d) (dv c a)= -cr (Cf a b c d) (dv a c):=by unfold cr dv;grind
   omega
  by_cases e1:dv a b=(0,0)
  ·have e3:Cf a b c d=dv c d:=if_pos e1
   rw[e3]at hz;by_cases e2:dv c d=(0,0)
   ·rw[show Cf c d a b=dv a b from if_pos e2,e1];unfold cr;simp
   rw[show Cf c d a b=dv c d from if_neg e2];exact hz
  have e3:Cf a b c d=dv a b:=if_neg e1;rw[e3]at hz;by_cases e2:dv c d=(0,0)
  ·rw[show Cf c d a b=dv a b from if_pos e2];exact hz
  rw[show Cf c d a b=dv c d from if_neg e2];exact sG e1 h0 hz
 rw[Vx]at h1;exact .inr ⟨Vx.2 ⟨h1.2,h1.1⟩,fun e=>h2 e.symm⟩
theorem Vq {a b c d:Int×Int}(h0:cr (dv a b) (dv c d)=0):aG c d a b↔aG a b c d:=
  ⟨Sy h0,Sy (by rw[Nv,h0];rfl)⟩
theorem kG {a b c d:Int×Int}(h:cr (dv a b) (dv c d)=0):Db a b c d=(open Classical in if aG a b c d then 0 else(Ai a b c d).2):=by
  unfold Db;rw[if_neg (by simpa using h)];by_cases k:aG a b c d
  · rw[if_pos k];exact if_pos k
  rw[if_neg k];exact if_neg k
theorem kF {a b c d:Int×Int}(h:cr (dv a b) (dv c d)≠0):Db a b c d=if iP (Jn a b c d)/\iP (Oj a b c d)then 1 else 0:=if_pos h
theorem gC (a b c d:Int×Int):Db c d a b=Db a b c d:=by
  by_cases h:cr (dv a b) (dv c d)=0
  · rw[kG h,kG (by rw[Nv,h];rfl),Qn]
    by_cases k:aG a b c d
    · rw[if_pos k,if_pos ((Vq h).2 k)]
    rw[if_neg k,if_neg (fun e=>k ((Vq h).1 e))]
  rw[kF h,kF (by rw[Nv];omega),Uz a b c d,fZ a b c d];by_cases k:iP (Jn a b c d)/\iP (Oj a b c d)
  · rw[if_pos k,if_pos k.symm]
  rw[if_neg k,if_neg (fun e=>k e.symm)]
theorem tO {u v:Int×Int}:((cr u v:Int):Rat)=(u.1:Rat)*(v.2:Rat)-(u.2:Rat)*(v.1:Rat):=by unfold cr;rw[Rat.intCast_sub,Rat.intCast_mul,Rat.intCast_mul]
theorem vZ (a b:Int×Int):(((dv a b).1:Int):Rat)=(b.1:Rat)-(a.1:Rat):=by unfold dv;rw[Rat.intCast_sub]
theorem vY (a b:Int×Int):(((dv a b).2:Int):Rat)=(b.2:Rat)-(a.2:Rat):=by unfold dv;rw[Rat.intCast_sub]
theorem oP {a b c d:Int×Int}(h:cr (dv a b) (dv c d)≠0):
  (c.1:Rat)+Oj a b c d*((d.1-c.1:Int):Rat)=(a.1:Rat)+Jn a b c d*((b.1-a.1:Int):Rat)/\(c.2:Rat)+Oj a b c d*((d.2-c.2:Int):Rat)=(a.2:Rat)+Jn a b c d*((b.2-a.2:Int):Rat):=by
 have h2:((cr (dv a b) (dv c d):Int):Rat)≠0:=fun e=>h (by exact_mod_cast e)
 unfold Oj Jn;rw[Rat.intCast_sub,Rat.intCast_sub,Rat.intCast_sub,Rat.intCast_sub];simp only[tO,vZ,vY]at h2⊢;generalize (a.1:Rat)=a1 at*;generalize (a.2:Rat)=a2 at*;generalize (b.1:Rat)=b1 at*;generalize (b.2:Rat)=b2 at*;generalize (c.1:Rat)=c1 at*;generalize (c.2:Rat)=c2 at*;generalize (d.1:Rat)=d1 at*;generalize (d.2:Rat)=d2 at*;constructor<;>grind
theorem fY {a b c d:Int×Int}:Jm c d a b=Jm a b c d:=by
  unfold Jm;by_cases h:cr (dv a b) (dv c d)=0
  · rw[if_neg (by rw[Nv,h];decide),if_neg (by rw[h];decide),Qn]
  rw[if_pos (by rw[Nv];omega),if_pos h,Uz];exact(oP h).2
end
section
def Wx {α:Type}:Result α->World
  | .ok _ w=>w
  | .halt _ w=>w
theorem jI {α:Type}(x:Ask α):∀w:World,w.drawn<=(w.ask x).2.drawn:=by
  induction x with
  |done a=>intro w;exact Bz _
  | ask what range k ih=>
    intro w;simp only[World.ask];split
    · exact ih _ w
    exact Aw (Nat.le_succ _) (ih _ {w with drawn:=w.drawn+1})
theorem Uu (w:World)(c:Sys):w.drawn<=(w.sys c).2.drawn:=by
  have h:=jI (Kernel.perform c w.os) w;unfold World.sys;split
  · exact Bz _
  rename_i h1;rw[h1]at h;exact h
theorem Rb {p:Program}{w:World}{a:Addr}{u:TypeId}{k:Addr}{v:Value}{b:Bool}{r:World×List Addr}(h:w.viewStore p a u k v b= .ok r):r.1.drawn=w.drawn:=by
  unfold World.viewStore at h;simp only[bind,Except.bind,pure,Except.pure]at h;repeat' split at h
  all_goals first|(cases h;rfl)|(cases h)
theorem Lv {p:Program}{w:World}{a:Addr}{v:Value}{b:Bool}{r:World×List Addr}(h:w.farStore p a v b= .ok r):r.1.drawn=w.drawn:=by
  unfold World.farStore at h;split at h
  · split at h
    · rename_i h2
      cases h;exact Rb h2
    cases h
  cases h
theorem Pt {α:Type}(p:Program)(s:Sem α):∀w:World,w.drawn<=(Wx (s.run p w)).drawn:=by
  induction s with
  |pure a=>intro w;exact Bz _
  | load m a k ih=>
    intro w;unfold Sem.run;split
    · exact ih _ w
    split
    · exact ih _ w
    exact Bz _
  | store m a v k ih=>
    intro w;cases v<;>simp only[Sem.run]<;>first
      |exact Bz _
      | (split
         · split
           · exact Bz _
           exact ih (w.setCell a _)
         split
         · rename_i h;have e:=Lv h;rw[<-e];exact ih _
         exact Bz _)
  |new o k ih=>intro w;exact ih _ {w with heap:=w.heap.push o}
  |shape r k ih=>intro w;exact ih _ w
  | freeze a n k ih=>
    intro w;have h:=ih (w.freeze a n);have e:(w.freeze a n).drawn=w.drawn:=by unfold World.freeze;split<;>rfl
    rw[e]at h;exact h
  |frozen a k ih=>intro w;exact ih _ w
  | getObj r k ih=>
    intro w;unfold Sem.run;split
    · exact Bz _
    · exact ih _ w
    exact Bz _
  | setObj r o k ih=>
    intro w;unfold Sem.run;split
    · exact Bz _
    · exact ih {w with heap:=w.heap.setIfInBounds r o}
    exact Bz _
  | choose q k ih=>
    intro w;unfold Sem.run;split
    · exact ih _ w
    exact Aw (Nat.le_succ _) (ih _ {w with drawn:=w.drawn+1})
  |sys c k ih=>intro w;exact Aw (Uu w c) (ih _ _)
  |program k ih=>intro w;exact ih _ w
  |mark m k ih=>intro w;exact ih w
  |halt h=>intro w;exact Bz _
theorem Ex {α:Type}(p:Program)(s:Sem α):∀(w:World) (es:Array Event),w.drawn<=(Wx (s.runT p w es).1).drawn:=by
  induction s with
  |pure a=>intro w es;exact Bz _
  | load m a k ih=>
    intro w es;unfold Sem.runT;split
    · exact ih _ w _
    split
    · exact ih _ w _
    exact Bz _
  | store m a v k ih=>
    intro w es;cases v<;>simp only[Sem.runT]<;>first
      |exact Bz _
      | (split
         · split
           · exact Bz _
           exact ih (w.setCell a _) _
         split
         · rename_i h;have e:=Lv h;rw[<-e];exact ih _ _
         exact Bz _)
  |new o k ih=>intro w es;exact ih _ {w with heap:=w.heap.push o} _
  |shape r k ih=>intro w es;exact ih _ w _
  | freeze a n k ih=>
    intro w es;have h:=ih (w.freeze a n) es;have e:(w.freeze a n).drawn=w.drawn:=by unfold World.freeze;split<;>rfl
    rw[e]at h;exact h
  |frozen a k ih=>intro w es;exact ih _ w _
  | getObj r k ih=>
    intro w es;unfold Sem.runT;split
    · exact Bz _
    · exact ih _ w _
    exact Bz _
  | setObj r o k ih=>
    intro w es;unfold Sem.runT;split
    · exact Bz _
    · exact ih {w with heap:=w.heap.setIfInBounds r o} _
    exact Bz _
  | choose q k ih=>
    intro w es;unfold Sem.runT;split
    · exact ih _ w _
    exact Aw (Nat.le_succ _) (ih _ {w with drawn:=w.drawn+1} _)
  |sys c k ih=>intro w es;exact Aw (Uu w c) (ih _ _ _)
  |program k ih=>intro w es;exact ih _ w _
  |mark m k ih=>intro w es;exact ih w _
  |halt h=>intro w es;exact Bz _
theorem Ft {α:Type}{p:Program}{s:Sem α}{w w':World}{a:α}(h:s.run p w= .ok a w'):w.drawn<=w'.drawn:=by
  have h2:=Pt p s w;rw[h]at h2;exact h2
theorem kK {α:Type}{p:Program}{s:Sem α}{w w':World}{a:Halt}(h:s.run p w= .halt a w'):w.drawn<=w'.drawn:=by
  have h2:=Pt p s w;rw[h]at h2;exact h2
theorem eG {α:Type}{p:Program}{s:Sem α}{w w':World}{a:α}{es es':Array Event}(h:s.runT p w es=(.ok a w',es')):w.drawn<=w'.drawn:=by
  have h2:=Ex p s w es;rw[h]at h2;exact h2
theorem gF {α:Type}{p:Program}{s:Sem α}{w w':World}{a:Halt}{es es':Array Event}(h:s.runT p w es=(.halt a w',es')):w.drawn<=w'.drawn:=by
  have h2:=Ex p s w es;rw[h]at h2;exact h2
def Qw (d:Nat):GStep->Prop
  | .go _ w _=>d<=w.drawn
  | .comm _ _ _ _ w _=>d<=w.drawn
  | .spawn _ _ w _=>d<=w.drawn
  | .count _ w _=>d<=w.drawn
  | .timer _ _ w _=>d<=w.drawn
  | .alone _ _ w _=>d<=w.drawn
  | .newcoro _ _ _ w _=>d<=w.drawn
  | .coroswitch _ _ _ w _=>d<=w.drawn
  | .collect _ w _=>d<=w.drawn
  | .watch _ w _=>d<=w.drawn
  | .ended .. =>True
theorem Iy {d:Nat}{es:Array Event}{g:GStep}:Qw d (GStep.after es g)=Qw d g:=by cases g<;>rfl
theorem Nu {c:Prop}[Decidable c]{a b:GStep}{d:Nat}(h1:Qw d a)(h2:Qw d b):Qw d (if c then a else b):=by
  split
  · exact h1
  exact h2
theorem dD (d:Nat)(w:World)(n:Nat)(t:ByteArray)(o:Outcome):Qw d (endWith w n t o):=by
  unfold endWith;dsimp only
  repeat' split
  all_goals exact True.intro
theorem Lw {d:Nat}{p:Program}{fr:Frame}{v:Value}{w:World}(h:d<=w.drawn):Qw d (endPrinting p fr v w):=by
  unfold endPrinting;dsimp only
  split
  · exact h
  exact True.intro
theorem Qx {d:Nat}{p:Program}{fr:Frame}{cs:List Frame}{dy:Option Dying}{m:String}{w:World}(h:d<=w.drawn):Qw d (endFatal p fr cs dy m w):=by
  unfold endFatal;dsimp only
  split
  · rename_i h1
    exact Aw h (Ft h1)
  · exact True.intro
  exact True.intro
theorem Ma {d:Nat}{p:Program}{b:Bool}{fr:Frame}{cs:List Frame}{dy:Option Dying}{v:Value}{w:World}(h:d<=w.drawn):Qw d (doReturn p b fr cs dy v w):=by
  unfold doReturn;repeat' split
  all_goals first|exact h|exact True.intro
theorem Rf {p:Program}{fr:Frame}{cs:List Frame}{dy:Option Dying}{d:Deferred}{w:World}:Qw w.drawn (callDeferred p fr cs dy d w):=by
  unfold callDeferred;refine Nu True.intro ?_
  · have h:=Ex p (invoke d.target d.args) w #[]
    generalize (invoke d.target d.args).runT p w #[]=q at h;obtain⟨r,es⟩:=q;dsimp only
    rw[Iy];repeat' split
    all_goals first|exact h|exact True.intro|exact Qx h
theorem fP {p:Program}{b:Bool}{fr:Frame}{cs:List Frame}{dy:Option Dying}{w:World}:Qw w.drawn (unwind p b fr cs dy w):=by
  unfold unwind;split
  · rename_i block _ _ _
    have h:=Ex p (Instr.takeDeferred block) w #[];generalize (Instr.takeDeferred block).runT p w #[]=q at h;obtain⟨r,es⟩:=q;dsimp only
    rw[Iy];split
    · exact h
    exact True.intro
  · exact Rf
  split
  · exact True.intro
  · split
    · exact True.intro
    split
    · exact Bz _
    split
    · split
      · exact Bz _
      split
      · rename_i h1
        exact Ft h1
      · exact True.intro
      exact True.intro
    split
    · exact Lw (Bz _)
    exact True.intro
  split
  · exact Ma (Bz _)
  rename_i fn _;have h:=Ex p (results fn fr.tmps) w #[];generalize (results fn fr.tmps).runT p w #[]=q at h
  obtain⟨r,es⟩:=q;dsimp only
  rw[Iy];split
  · exact Ma h
  · exact True.intro
  exact True.intro
theorem bM {p:Program}{fr:Frame}{d:Dying}{f:Fatal}{w:World}:Qw w.drawn (writeOn p fr d f w):=by
  unfold writeOn;dsimp only
  split
  · exact True.intro
  split<;>rename_i h1<;>first|exact True.intro|exact eG h1|exact gF h1
theorem tM {p:Program}{fr:Frame}{d:Dying}{w:World}:Qw w.drawn (die p fr d w):=by
  unfold die;split
  · exact bM
  split
  · split
    · exact Bz _
    exact dD _ _ _ _ _
  dsimp only
  split
  · exact Bz _
  · split
    · rename_i h1
      exact Ft h1
    exact True.intro
  · rename_i t recv name _
    have h:=Ex p (invoke (.fn (.method name) #[]) #[.iface t recv]) w #[];generalize (invoke (.fn (.method name) #[]) #[.iface t recv]).runT p w #[]=q at h;obtain⟨r,es⟩:=q;dsimp only
    rw[Iy];split;all_goals first|exact h|exact True.intro|exact Lw h
  exact True.intro
theorem mW {p:Program}{fr:Frame}{cs:List Frame}{dy:Option Dying}{g d:Nat}{w:World}(h:d<=w.drawn):Qw d (early p fr cs dy g w):=by
  have hn:∀w:World,d<=w.drawn->Qw d (match w.heap[g]?with
    |some (.pending c elem)=>GStep.go {frame:=fr,callers:=cs,status:= .running,dying:=dy} {w with heap:=w.heap.setIfInBounds g (.cells c elem)}
    |_=> .ended (.stuck "early: the variable does not wait" (fr.pos p)) w):=by
    intro w hw;split
    · exact hw
    exact True.intro
  unfold early;dsimp only
  refine Nu (hn w h) ?_;split
  · exact True.intro
  refine Nu (hn w h) (Nu (hn w h) ?_);split
  · exact True.intro
  · exact h
  · exact True.intro
  · exact hn w h
  refine Nu h (Nu (hn w h) ?_);split
  · rename_i h1;exact hn _ (Aw h (Ft h1))
  · rename_i h1;exact Aw h (Ft h1)
  exact True.intro
theorem Mc {p:Program}{l:Bool}{fr:Frame}{cs:List Frame}{dy:Option Dying}{s:Sem Next}{w:World}:Qw w.drawn (stepG.apply p l fr cs dy s w):=by
  unfold stepG.apply;dsimp only
  generalize hq:(if l=true then s.runT p w #[]else(s.run p w,#[]))=q;have h:w.drawn<=(Wx q.1).drawn:=by
    subst hq;split
    · exact Ex p s w #[]
    exact Pt p s w
  obtain⟨r,es⟩:=q;dsimp only
  rw[Iy];cases r with
  | ok v w1=>
    have h:w.drawn<=w1.drawn:=h;cases v;all_goals (try dsimp only)
    all_goals (repeat' split)
    all_goals first|exact h|exact True.intro
  | halt v w1=>
    have h:w.drawn<=w1.drawn:=h;cases v with
    | unsupported u=>
      cases u with
      |initOrder g=>exact mW h
      |_=>exact True.intro
    |fatal m=>exact Qx h
    |_=>first|exact h|exact True.intro
theorem oS {p:Program}{l:Bool}{fr:Frame}{cs:List Frame}{dy:Option Dying}{w:World}:Qw w.drawn (stepG.oper p l fr cs dy w):=by
  unfold stepG.oper;split
  · exact True.intro
  split
  · exact Mc
  exact Mc
theorem fF {α:Type}{o:Option α}{a:GStep}{f:α->GStep}{d:Nat}(h1:Qw d a)(h2:∀x,Qw d (f x)):Qw d (o.elim a f):=by
  cases o with
  |none=>exact h1
  |some x=>exact h2 x
theorem qQ {d e:Nat}{g:GStep}(h:d<=e)(hg:Qw e g):Qw d g:=by
  cases g<;>first|exact Aw h hg|exact True.intro
theorem Ze {α:Type}{p:Program}{s:Sem α}{w w':World}{a:α}{es:Array Event}(h:(s.runT p w es).1= .ok a w'):w.drawn<=w'.drawn:=by
  have h2:=Ex p s w es;rw[h]at h2;exact h2
theorem bZ {α:Type}{p:Program}{s:Sem α}{w w':World}{a:Halt}{es:Array Event}(h:(s.runT p w es).1= .halt a w'):w.drawn<=w'.drawn:=by
  have h2:=Ex p s w es;rw[h]at h2;exact h2
theorem qC {p:Program}{b l:Bool}{fr:Frame}{cs:List Frame}{dy:Option Dying}{w:World}:Qw w.drawn (stepG.exec p b l fr cs dy w):=by
  have hl:∀(A0:Option Code) (ok:Bool),Qw w.drawn (match fr.roundOf with
      |none=>if ok=true then GStep.go {frame:={fr with mode:= .returning},callers:=cs,status:= .running,dying:=dy} w else .ended (.stuck "exit, goto: no such block or label" (fr.pos p)) w
      | some l=>
        let (r,es):=(Instr.endRound l A0).runT p w #[]
        GStep.after (seen p fr.fn es)<|match r with
        | .ok v w=>doReturn p b fr cs dy v w
        | .halt _ w=> .ended (.stuck "range over a function: no such loop" (fr.pos p)) w):=by
    intro A0 ok;split
    · refine Nu (Bz _) True.intro
    split;rename_i h1;rw[Iy];split
    · exact Ma (eG h1)
    exact True.intro
  unfold stepG.exec;dsimp only
  split;all_goals first|exact hl _ _|exact Bz _|exact True.intro|exact Mc|exact fF (hl _ _) (fun _=>Bz _)|exact fF True.intro (fun _=>Mc)|skip
  all_goals (try rw[Iy])
  all_goals (repeat' split)
  all_goals first|exact Bz _|exact True.intro|exact oS|(rename_i h1;first|exact Ze h1|exact bZ h1|exact Ft h1|exact qQ (Ze h1) Mc)
theorem jX {p:Program}{b l:Bool}{g:Goroutine}{w:World}:Qw w.drawn (stepG p b g w l):=by
  unfold stepG;dsimp only
  split
  · exact tM
  · exact qC
  exact fP
def nR (d:Nat):Stepped->Prop
  | .next m=>d<=m.world.drawn
  | .ended .. =>True
theorem cU {β:Type}{c:Prop}[Decidable c]{a b:Stepped×β}{d:Nat}(h1:nR d (a.1))(h2:nR d (b.1)):nR d ((if c then a else b).1):=by
  split
  · exact h1
  exact h2
theorem Ty {p:Program}{rest:Rest}{gs:Array Goroutine}{i:Nat}{g:Goroutine}{cases:Array CommCase}{b:Bool}{sh:CommShape}{w:World}:nR w.drawn ((communicate p rest gs i g cases b sh w).1):=by
  unfold communicate;dsimp only
  refine cU True.intro (cU (cU ?_ ?_) ?_)
  · split
    · rename_i h1
      unfold waitingAt at h1;split at h1
      · split at h1
        · cases h1;exact Bz _
        cases h1
      cases h1;exact Bz _
    exact True.intro
  · exact Bz _
  split
  · exact True.intro
  rename_i h1;have h:=Ft h1;repeat' split
  all_goals first|exact h|exact True.intro|exact Aw h (kK (by assumption))|(rename Sem.run p (choose _) _=Result.ok _ _=>h9;have A0:=Ft h9;exact Aw h A0)
theorem eS {p:Program}{rest:Rest}{gs:Array Goroutine}{w:World}:nR w.drawn (look p gs rest w):=by
  unfold look;dsimp only
  repeat' split
  all_goals first|exact True.intro|(rename Sem.run p _ w=Result.ok _ _=>h9;have A0:=Ft h9;exact A0)
theorem aY (w:World)(c:Nat):(drain w c).2.drawn=w.drawn:=by
  unfold drain;split<;>rfl
theorem Oo (m:Machine)(k:Nat)(t:Timer)(a b:Nat):(retime m k t a b).2.world.drawn=m.world.drawn:=by
  unfold retime;dsimp only
  split
  · exact aY _ _
  rfl
theorem Qu {m m':Machine}{var:Addr}{f:Nat->Timer->Value×Machine}{v:Value}{d:Nat}(hf:∀k t,(f k t).2.world.drawn=d)(h:timerOp.named m var f= .ok (v,m')):m'.world.drawn=d:=by
  unfold timerOp.named at h;split at h
  · rename_i k _
    have e:=hf k (m.rest.timers.getD k default);injection h with h
    rw[h]at e;exact e
  cases h
theorem bO {m m':Machine}{op:TimerOp}{v:Value}(h:timerOp m op= .ok (v,m')):m'.world.drawn=m.world.drawn:=by
  cases op with
  | new t=>
    simp only[timerOp]at h;split at h
    · cases h;rfl
    split at h
    · split at h
      · cases h
      cases h;rfl
    cases h
  |stop var=>exact Qu (fun k t=>Oo m k t 0 t.period) h
  | reset var a b=>
    simp only[timerOp]at h;split at h
    · rename_i m2 h2
      have e:m2.world.drawn=m.world.drawn:=by
        unfold timerOp.opened at h2;split at h2
        · split at h2
          · cases h2;rfl
          cases h2
        cases h2;rfl
      exact Qu (fun k t=>(Oo m2 k t a b).trans e) h
    cases h
  | deadline ctx r w t=>
    simp only[timerOp]at h;cases h;rfl
theorem kE {p:Program}{m:Machine}{k:Nat}:nR m.world.drawn (serve p m k):=by
  unfold serve;split
  · exact True.intro
  · exact Bz _
  dsimp only
  split
  · exact True.intro
  exact Bz _
theorem rZ {p:Program}{m:Machine}{i:Nat}{l:Bool}:nR m.world.drawn ((Go.runT p m i l).1):=by
  unfold Go.runT;dsimp only
  generalize hs:stepG p (i==0) _ m.world l=s;have h:Qw m.world.drawn s:=by rw[<-hs];exact jX
  cases s with
  | comm g c b sh w es=>
    have h:m.world.drawn<=w.drawn:=h;have hc:=Ty (p:=p) (rest:=m.rest) (gs:=(m.gs.swapAt! i {(default:Goroutine)with status:= .finished}).2) (i:=i) (g:=g) (cases:=c) (b:=b) (sh:=sh) (w:=w);dsimp only
    revert hc
    generalize communicate p m.rest _ i g c b sh w=q;intro hc;obtain⟨r,A0⟩:=q;cases r with
    |next m2=>exact Aw h hc
    |ended=>exact True.intro
  | collect g w es=>
    have h:m.world.drawn<=w.drawn:=h;have hc:=eS (p:=p) (gs:=(m.gs.swapAt! i {(default:Goroutine)with status:= .finished}).2.setIfInBounds i g) (rest:=m.rest) (w:=w);dsimp only
    revert hc
    generalize look p _ m.rest w=q;intro hc;cases q with
    |next m2=>exact Aw h hc
    |ended=>exact True.intro
  | timer g op w es=>
    have h:m.world.drawn<=w.drawn:=h;dsimp only
    split
    · rename_i h2
      have e:=bO h2;exact Aw h (xF e.symm)
    all_goals first|exact True.intro|exact h
  | coroswitch g c ex w es=>
    have h:m.world.drawn<=w.drawn:=h;dsimp only
    repeat' split
    all_goals first|exact h|exact True.intro|(rename endThrow _ _ _=GStep.go _ _ _=>h9;unfold endThrow dieOf at h9;cases h9;exact h)
  | count g w es=>
    have h:m.world.drawn<=w.drawn:=h;dsimp only
    split
    · exact True.intro
    exact h
  |_=>first|exact h|exact True.intro
def rE (d:Nat):Move->Prop
  | .goroutine m _=>d<=m.world.drawn
  | .machine s _=>nR d s
theorem Qd {c:Prop}[Decidable c]{a b:Move}{d:Nat}(h1:rE d a)(h2:rE d b):rE d (if c then a else b):=by
  split
  · exact h1
  exact h2
theorem Xs {p:Program}{rs:List Nat}{d:Nat}(m:Machine)(h:d<=m.world.drawn):rE d (match (choose (.sched rs.length)).run p m.world with
      | .halt _ w=>Move.machine (.ended (.stuck "sched" "") w)
      | .ok k world=>
        if rs.length<=1 then .goroutine {m with world} (rs.getD k 0)else
        match (choose (.extern "sched.slice" 65536)).run p world with
        | .halt _ w=> .machine (.ended (.stuck "sched.slice" "") w)
        | .ok n world=> .goroutine {m with world,rest:={m.rest with slice:=if n=0 then none else some (rs.getD k 0,n)}} (rs.getD k 0)):=by
  split
  · exact True.intro
  rename_i h1;have h2:=Ft h1;refine Qd (Aw h h2) ?_;split
  · exact True.intro
  rename_i h3;have h4:=Ft h3;exact Aw h (Aw h2 h4)
theorem bX {p:Program}{m:Machine}{k d:Nat}(h:d<=m.world.drawn):nR d (serve p m k):=by
  have hs:=kE (p:=p) (m:=m) (k:=k);generalize serve p m k=q at hs;cases q with
  |next m2=>exact Aw h hs
  |ended=>exact True.intro
theorem bK {p:Program}{m:Machine}:rE m.world.drawn (askOn p m):=by
  unfold askOn;dsimp only
  split
  · exact True.intro
  rename_i w1 h1;have h2:=Ft h1;refine Qd (bX h2) ?_;split
  · split
    · exact h2
    refine Qd h2 ?_;split
    · exact True.intro
    exact True.intro
  split
  · exact Xs {m with world:=w1} h2
  split
  · exact True.intro
  · rename_i w3 h3
    have h4:=Ft h3;exact Xs {m with world:=w3} (Aw h2 h4)
  · rename_i h3
    have h4:=Ft h3;exact Aw h2 h4
  rename_i h3;have h4:=Ft h3;exact Xs _ (Aw h2 h4)
theorem Ue {p:Program}{m:Machine}{d:Nat}(h:d<=m.world.drawn):rE d (askOn p m):=by
  have hs:=bK (p:=p) (m:=m);generalize askOn p m=q at hs;cases q with
  |goroutine m2 i=>exact Aw h hs
  | machine s ops=>
    cases s with
    |next m2=>exact Aw h hs
    |ended=>exact True.intro
theorem nK {p:Program}{m:Machine}:rE m.world.drawn (ask p m):=by
  unfold ask;refine Qd ?_ bK;split
  · exact True.intro
  · rename_i w1 h1
    have h2:=Ft h1;have hl:=eS (p:=p) (gs:=m.gs) (rest:=m.rest) (w:=w1);generalize look p m.gs m.rest w1=q at hl
    cases q with
    |next m2=>exact Ue (Aw h2 hl)
    |ended=>exact True.intro
  rename_i w1 _ h1;have h2:=Ft h1;exact Ue (m:={m with world:=w1}) h2
theorem pF {p:Program}{m:Machine}:rE m.world.drawn (move p m):=by
  unfold move;split
  · refine Qd (Bz _) True.intro
  split
  · refine Qd (Bz _) nK
  exact nK
theorem oC {p:Program}{m:Machine}:nR m.world.drawn (step p m):=by
  unfold step stepT;have h:=pF (p:=p) (m:=m);generalize move p m=q at h
  cases q with
  | goroutine m2 i=>
    have h2:=rZ (p:=p) (m:=m2) (i:=i) (l:=true);dsimp only
    generalize (Go.runT p m2 i true).1=r at h2;cases r with
    |next m3=>exact Aw h h2
    |ended=>exact True.intro
  |machine s ops=>exact h
theorem Yx {p:Program}{m m':Machine}(h:Steps p m m'):m.world.drawn<=m'.world.drawn:=by
  obtain⟨n,h⟩:=h;induction n generalizing m with
  | zero=>
    simp only[runN]at h;injection h with h
    rw[h];exact Bz _
  | succ n ih=>
    simp only[runN]at h;have hs:=oC (p:=p) (m:=m);generalize step p m=q at h hs
    cases q with
    |next m2=>exact Aw hs (ih h)
    |ended=>cases h
theorem Calls.drawn {P:Program}{f:FuncId}{args:Array Value}{w:World}{R:Ending->World->Prop}(h:Calls P f args w R)(hr:∀e w',R e w'->∃v,e= .returned v):
    Calls P f args w fun e w'=>R e w'/\w.drawn<=w'.drawn:=by
  intro cs;obtain⟨e,w',fr,h1,h2,h3⟩:=h cs;refine⟨e,w',fr,⟨h1,?_⟩,h2,h3⟩;obtain⟨v,rfl⟩:=hr e w' h1;exact Yx h2
end
section
open Go.RowKit Go.Shelf Go.Lib Go.Sort
theorem mI {W W':World}(h:Aa W W')(hd:W.drawn<=W'.drawn):∃q os',W'=grow (W.drewN q) os':=by
 refine⟨W'.drawn-W.drawn,W'.heap.extract W.heap.size W'.heap.size,?_⟩;have e:W'.heap=W.heap++W'.heap.extract W.heap.size W'.heap.size:=by
  have hs:=h.size;apply Array.ext_getElem?;intro i;rw[Array.getElem?_append];by_cases hi:i<W.heap.size
  ·rw[if_pos hi]
   exact h.block i hi
  rw[if_neg hi,Array.getElem?_extract];have A0:min W'.heap.size W'.heap.size-W.heap.size=W'.heap.size-W.heap.size:=ω
  by_cases h2:i<W'.heap.size
  ·rw[if_pos ω]
   congr 1;omega
  rw[if_neg ω,Array.getElem?_eq_none ω]
 have h1:=h.os;have h2:=h.tape;have h3:=h.output;cases W' with
 |mk hp tp dr o ou=>
  simp only at e h1 h2 h3 hd;subst h1;subst h2;subst h3;simp only[grow,World.drewN];rw[<-e];congr 1;omega
section
variable {α:Type} {enc:α->List Value} {k:Nat}
theorem Wg [Inhabited α](hk:∀x,(enc x).length=k)(h0:0<k)(xs:List α)(j:Nat)(hj:j<xs.length*k):(xs.flatMap enc)[j]?=some ((enc xs.toArray[j/k]!)[j%k]!):=by
 have h1:j/k<xs.length:=Nat.div_lt_of_lt_mul (by rw[xN];exact hj);have e1:xs[j/k]?=some xs.toArray[j/k]! :=by
  rw[getElem!_pos xs.toArray (j/k) (by simpa using h1),wC h1];simp
 have h2:j%k<(enc xs.toArray[j/k]!).length:=by rw[hk];exact Nat.mod_lt _ h0
 have h3:=Hw hk xs (j/k) _ e1 (j%k) _ (wC h2);rw[xN,Nat.div_add_mod]at h3;rw[h3,getElem!_pos (enc xs.toArray[j/k]!) (j%k) h2]
theorem cZ [Inhabited α](hk:∀x,(enc x).length=k)(h0:0<k){w:World}{g:Nat}{T:TypeId}{xs:List α}{rest:List Value}(hb:Al w g T (xs.flatMap enc++rest).toArray):HoldsK enc k w g 0 xs.toArray:=by
  intro j hj;have A0:j<xs.length*k:=by simpa using hj
  refine⟨?_,hb.frozen _⟩;have A1:j<xs.toArray.size*k:=by simpa using A0
  rw[wH,hb.cell,wL,wQ (by rw[Dx hk];exact A0),Wg hk h0 xs j A0,get_flatK enc k _ j A1];rfl
theorem Lo [Inhabited α](w:World)(g off m:Nat)(dk:Array α)(os:Array Obj)(_hg:g<w.heap.size):Ba g w (sortWorldK enc k w g off m dk os):=by
  have hs:(putRowK enc k (Sort.ahead w m) g off dk).heap.size=w.heap.size:=size_putRowK enc k _ _ _ _;refine⟨rfl,rfl,rfl,?_,fun i hi hne=> ?_⟩
  · unfold sortWorldK
    rw[size_grow,hs];exact Nat.le_add_right _ _
  unfold sortWorldK;rw[heap_grow_old _ _ (by rw[hs];exact hi)];show(w.heap.modify g _)[i]?=_;rw[Array.getElem?_modify,if_neg (fun e=>hne (by rw[e]))]
theorem Uc [Inhabited α](hk:∀x,(enc x).length=k)(h0:0<k){w:World}{g:Nat}{T:TypeId}{xs ys:List α}{rest:List Value}(hb:Al w g T (xs.flatMap enc++rest).toArray)(hl:ys.length=xs.length)(m:Nat)(os:Array Obj):
  Al (sortWorldK enc k w g 0 m ys.toArray os) g T (ys.flatMap enc++rest).toArray:=by
 have hg:=hb.lt;have hs:(putRowK enc k (Sort.ahead w m) g 0 ys.toArray).heap.size=w.heap.size:=size_putRowK enc k _ _ _ _;unfold sortWorldK Al;rw[heap_grow_old _ _ (by rw[hs];exact hg)];show(w.heap.modify g (onCells (putCells id 0 (flatK enc k ys.toArray))))[g]?=_;have A5:w.heap[g]?=some (.cells (xs.flatMap enc++rest).toArray T (0,0)):=hb;rw[Array.getElem?_modify,if_pos rfl,A5];simp only[Option.map_some,onCells];congr 2;apply Array.ext_getElem?;intro j;unfold putCells;rw[Array.getElem?_mapIdx,wL,wL];have A4:(flatK enc k ys.toArray).size=ys.length*k:=by simp
 have A3:(xs.flatMap enc).length=xs.length*k:=Dx hk xs;have A2:(ys.flatMap enc).length=ys.length*k:=Dx hk ys;by_cases hj:j<ys.length*k
 ·have A0:j<(xs.flatMap enc).length:=by rw[A3,<-hl];exact hj
  rw[wQ A0,wC A0,wQ (by rw[A2];exact hj),Wg hk h0 ys j hj];simp only[Option.map_some];rw[if_pos (by rw[A4];omega),Nat.sub_zero,get_flatK enc k _ j (by simpa using hj)];rfl
 have A1:¬(0<=j/\j<0+(flatK enc k ys.toArray).size):=by rw[A4];omega
 have A0:(xs.flatMap enc).length<=j:=by rw[A3,<-hl];omega
 rw[wJ A0,wJ (by rw[A2];omega),A3,A2,hl];cases (rest[j-xs.length*k]?)with
 |none=>rfl
 |some v=>simp only[Option.map_some];rw[if_neg A1]
end
theorem fU {ρ:Ren}(LL:SlLaysF0.n6 prog ρ)(k:Nat)(h0:0<k)(aE:∀w,(isAgg (ρ.t 24)).run prog w= .ok true w)(zE:∀w,(Go.sizeOf (ρ.t 24)).run prog w= .ok k w){α:Type}(enc:α->List Value)(hk:∀x,(enc x).length=k)
  (h1:∀x,∀v∈enc x,v.oneCell'=true)(hu:∀x,Ar (enc x))(Ok:World->α->Prop)(hOk:∀{w w' x},Ok w x->Ah w w'->Ok w' x)(cf:α->α->Int)
  (hO1:∀x,¬cf x x<0)(hO2:∀x y z,cf x y<0->cf y z<0->cf x z<0)(hO3:∀x y z,¬cf x y<0->¬cf y z<0->¬cf x z<0)(f:Nat)(eg:∀args w,(callFunc f args).run prog w= .ok (.enter f args) w)
  (hcmp:∀w x y,Ok w x->Ok w y->Calls prog f #[.agg (enc x).toArray,.agg (enc y).toArray] w fun e w'=>e= .returned (iV (cf x y))/\Aa w w')
  (v:Value)(es:List α)(base:Nat)(T:TypeId)(w:World)(h:Bi w base T k v es.length (es.flatMap enc))(hok:∀e,e∈es->Ok w e)(hn:es.length<4611686018427387904):
  Calls prog (ρ.f 6) #[v,.func (.func f) #[] #[]] w fun e w'=>e= .returned (.tuple #[])/\
   ∃es':List α,es'.Perm es/\es'.Pairwise (fun x y=>¬cf y x<0)/\Bi w' base T k v es'.length (es'.flatMap enc)/\w.grownBy w' v.ownBlock/\Ah w w':=by
 cases es with
 |nil=>
  obtain⟨A,c,rfl,_⟩:=Bi.form h;refine(AnyF.slices_SortFunc_none LL A c _ w).mono ?_;rintro e w' ⟨rfl,rfl⟩;exact⟨rfl,[],.refl _,.nil,h,World.grownBy.refl _ _,Ah.refl _⟩
 |cons e0 es0=>
  rcases h.2 with⟨_,hn0⟩|⟨g,cap,rest,rfl,hb,hg,hc1,hc2,hc3,hc4⟩
  ·simp at hn0
  have A0:∃xs:List {e:α//Ok w e},xs.map Subtype.val=e0::es0:=by
   clear h hg hc1 hc3 hn hc4;generalize e0::es0=es at hok;induction es with
   |nil=>exact⟨[],rfl⟩
   |cons e es ih=>
    obtain⟨xs,hx⟩:=ih (fun f hf=>hok f (by simp[hf]));exact⟨⟨e,hok e (by simp)⟩::xs,by rw[List.map_cons,hx]⟩
  obtain⟨xs,A0⟩:=A0;haveI:Inhabited {e:α//Ok w e}:=⟨⟨e0,hok e0 (by simp)⟩⟩
  have B1:∀ys:List {e:α//Ok w e},ys.flatMap (fun x=>enc x.1)=(ys.map Subtype.val).flatMap enc:=fun ys=>by rw[List.flatMap_map]
  have A7:xs.length=(e0::es0).length:=by rw[<-A0,wU]
  rw[<-A0,<-B1]at hg hc3 hc4;rw[<-A7]at hn h hc1⊢;have A4:∀x: {e:α//Ok w e},(enc x.1).length=k:=fun x=>hk x.1
  have A6:SWO (ltOf (fun x y: {e:α//Ok w e}=>cf x.1 y.1)):=
   ⟨fun x=>decide_eq_false (hO1 x.1),fun x y z a b=>decide_eq_true (hO2 x.1 y.1 z.1 (of_decide_eq_true a) (of_decide_eq_true b)),fun x y z a b=>decide_eq_false (hO3 x.1 y.1 z.1 (of_decide_eq_false a) (of_decide_eq_false b))⟩
  have A3:∀(m:Nat) (os:Array Obj) (dk:Array {e:α//Ok w e}),Ah w (sortWorldK (fun x=>enc x.1) k w g 0 m dk os):=fun m os dk=>
   Ah.of_own hg hc4.arr (Lo w g 0 m dk os hg.lt)
  have A2:CmpLays prog f #[] (fun x: {e:α//Ok w e}=>enc x.1) k (fun x y=>cf x.1 y.1) g 0 xs.toArray.size w:=by
   intro m os dk _ x y;have hd:=A3 m os dk;revert hd
   generalize sortWorldK (fun x: {e:α//Ok w e}=>enc x.1) k w g 0 m dk os=W;intro hd;have hx:Ok W x.1:=hOk (w:=w) (w':=W) (x:=x.1) x.2 hd;have hy:Ok W y.1:=hOk (w:=w) (w':=W) (x:=y.1) y.2 hd;have hc:=Calls.drawn (hcmp W x.1 y.1 hx hy) (fun e w' he=>⟨_,he.1⟩);rw[Array.append_empty];exact hc.mono fun e w' he=>⟨he.1.1,mI he.1.2 he.2⟩
  have hH:HoldsK (fun x: {e:α//Ok w e}=>enc x.1) k w g 0 xs.toArray:=cZ (enc:=fun x: {e:α//Ok w e}=>enc x.1) A4 h0 (xs:=xs) (T:=T) (rest:=rest) hg;have A5:xs.toArray.size<4611686018427387904:=by simpa using hn
  have hS:=AnyQ.slices_SortFunc LL k aE zE (fun x: {e:α//Ok w e}=>enc x.1) A4 (fun x=>h1 x.1) (fun x y=>cf x.1 y.1) A6 f #[] g 0 cap xs.toArray w eg A2 hH hg.lt A5;rw[List.size_toArray]at hS;refine hS.mono ?_;rintro e w' ⟨rfl,d',n,os,hp,hs,rfl⟩;obtain⟨B0,_,A9⟩:=hp;have hl:d'.toList.length=xs.length:=by simpa using B0
  have A1:d'.toList.Perm xs:=by
   have e1:d'.extract 0 xs.length=d':=by
    have A5:d'.size=xs.length:=by simpa using B0
    rw[<-A5];simp
   have e2:xs.toArray.extract 0 xs.length=xs.toArray:=by simp
   rw[e1,e2]at A9;simpa using A9
  have B2:=Uc (k:=k) (enc:=fun x: {e:α//Ok w e}=>enc x.1) A4 h0 hg hl n os;rw[Array.toArray_toList]at B2;have B3:(d'.toList.map Subtype.val).length=xs.length:=by rw[wU,hl]
  have A8:∀ys:List {e:α//Ok w e},(ys.flatMap (fun x=>enc x.1)).length=ys.length*k:=fun ys=>Dx A4 ys
  refine⟨rfl,d'.toList.map Subtype.val,by rw[<-A0];exact A1.map _,?_,?_,?_,?_⟩
  ·rw[List.pairwise_map,List.pairwise_iff_getElem]
   intro i j hi hj B5;have h3:=hs i j (wM _) B5 (by rw[hl]at hj;simpa using hj);have B6:i<d'.size:=by simpa using hi
   have B4:j<d'.size:=by simpa using hj
   rw[getElem!_pos d' i B6,getElem!_pos d' j B4]at h3;have h4:=of_decide_eq_false h3;simpa using h4
  ·rw[B3,<-B1]
   refine⟨by rw[A8,hl],.inr ⟨g,cap,rest,rfl,hb,B2,hc1,hc2,?_,?_⟩⟩
   ·rw[A8,hl,<-A8];exact hc3
   refine Ar.app ?_ hc4.right;intro z hz;obtain⟨x,_,hx⟩:=List.mem_flatMap.1 hz;exact hu x.1 z hx
  ·have ho:=Lo (k:=k) (enc:=fun x: {e:α//Ok w e}=>enc x.1) w g 0 n d' os hg.lt
   simpa[Value.ownBlock,Ba]using ho
  exact A3 n os d'
end
section
structure Bd where
  a:RV
  q:Rat
def Bd.cells (e:Bd):List Value:=(rc e.a)
theorem Bd.len (e:Bd):e.cells.length=4:=rfl
theorem Bd.one (e:Bd):∀v,v∈e.cells->v.oneCell'=true:=by simp[Bd.cells,Value.oneCell']
theorem fM (e:Bd):Ar e.cells:=by simp[Bd.cells,Ar]
def Bd.Ok (L:Nat)(w:World)(e:Bd):Prop:=e.a.Is w e.q/\Nm.rl e.q<=L
theorem Bd.Ok.dig {L:Nat}{w w':World}{e:Bd}(h:e.Ok L w)(d:Ah w w'):e.Ok L w':=⟨h.1.dig d,h.2⟩
theorem St {w:World}{g o:Nat}{v:Value}(h:w.cell? ⟨g,o,none⟩=some v):w.rangeAt g o [v]:=by
  intro j u hj;match j,hj with
  |0,hj=>simp at hj;subst hj;exact h
  |j+1,hj=>simp at hj
section
variable {α:Type} (eqv:α->α->Bool)
def Hc (p:α):List α->List α
  | []=>[]
  |x::l=>if eqv x p then Hc x l else x::Hc x l
def Do:List α->List α
  | []=>[]
  |x::l=>x::Hc eqv x l
theorem dL (l:List α):∀(p:α) (q x:α),(p::l).getLast?=some q->Hc eqv p (l++[x])=Hc eqv p l++(if eqv x q then[]else[x]):=by
  induction l with
  | nil=>
    intro p q x h;simp at h;subst h;simp[Hc]
  | cons y l ih=>
    intro p q x h;have h2:(y::l).getLast?=some q:=by simpa using h
    have h3:=ih y q x h2;simp only[wR,Hc];split
    · exact h3
    rw[h3,wR]
theorem Uq {l:List α}{q x:α}(h:l.getLast?=some q):Do eqv (l++[x])=Do eqv l++(if eqv x q then[]else[x]):=by
  cases l with
  |nil=>simp at h
  | cons p l=>
    simp only[wR,Do];rw[dL eqv l p q x h]
theorem jC (l:List α):∀(p z:α),z∈Hc eqv p l->z∈l:=by
  induction l with
  |nil=>intro p z h;simp[Hc]at h
  | cons y l ih=>
    intro p z h;unfold Hc at h;split at h
    · exact wS _ (ih y z h)
    rcases List.mem_cons.1 h with h|h
    · rw[h];simp
    exact wS _ (ih y z h)
theorem Pk {l:List α}{z:α}(h:z∈Do eqv l):z∈l:=by
  cases l with
  |nil=>simp[Do]at h
  | cons p l=>
    rcases List.mem_cons.1 h with h|h
    · rw[h];simp
    exact wS _ (jC eqv l p z h)
variable {eqv}
theorem jD {β:Type}{key:α->β}(hk:∀x y,eqv x y=true->key x=key y)(l:List α):∀(p z:α),z∈p::l->∃y∈p::Hc eqv p l,key y=key z:=by
 induction l with
 |nil=>intro p z h;exact⟨z,by simpa[Hc]using h,rfl⟩
 |cons x l ih=>
  intro p z h;rcases List.mem_cons.1 h with rfl|h
  ·exact⟨z,by simp,rfl⟩
  obtain⟨y,h1,h2⟩:=ih x z h;unfold Hc;split
  ·rename_i he
   rcases List.mem_cons.1 h1 with rfl|h1
   ·exact⟨p,by simp,by rw[<-h2,hk _ _ he]⟩
   exact⟨y,wS _ h1,h2⟩
  exact⟨y,wS _ h1,h2⟩
theorem Ye {β:Type}{key:α->β}(hk:∀x y,eqv x y=true->key x=key y){l:List α}{z:α}(h:z∈l):∃y∈Do eqv l,key y=key z:=by
  cases l with
  |nil=>simp at h
  |cons p l=>exact jD hk l p z h
theorem Yf {lt le:α->α->Prop}(ht:∀a b c,le a b->lt b c->lt a c)(h1:∀x y,le y x->eqv x y=false->lt y x)(h2:∀x y,eqv x y=true->∀z,lt x z->lt y z)(l:List α):∀p:α,(p::l).Pairwise le->(p::Hc eqv p l).Pairwise lt/\∀z,z∈Hc eqv p l->lt p z:=by
 induction l with
 |nil=>intro p _;simp[Hc]
 |cons x l ih=>
  intro p hp;have A1:=List.pairwise_cons.1 hp;obtain⟨h3,h4⟩:=ih x A1.2;have A0:=A1.1 x (by simp);unfold Hc;split
  ·rename_i he
   have h5:∀z,z∈Hc eqv x l->lt p z:=fun z hz=>h2 _ _ he z (h4 z hz)
   exact⟨List.pairwise_cons.2 ⟨h5,(List.pairwise_cons.1 h3).2⟩,h5⟩
  rename_i he;have A2:=h1 x p A0 (by simpa using he);have h5:∀z,z∈x::Hc eqv x l->lt p z:=fun z hz=>by
   rcases List.mem_cons.1 hz with rfl|hz
   ·exact A2
   exact ht p x z A0 (h4 z hz)
  exact⟨List.pairwise_cons.2 ⟨h5,h3⟩,h5⟩
theorem Re {lt le:α->α->Prop}(ht:∀a b c,le a b->lt b c->lt a c)(h1:∀x y,le y x->eqv x y=false->lt y x)(h2:∀x y,eqv x y=true->∀z,lt x z->lt y z){l:List α}(hl:l.Pairwise le):(Do eqv l).Pairwise lt:=by
  cases l with
  |nil=>exact .nil
  |cons p l=>exact(Yf ht h1 h2 l p hl).1
end
theorem Mz {α:Type}{lt:α->α->Prop}(hi:∀a,¬lt a a)(ht:∀a b c,lt a b->lt b c->lt a c):∀{l m:List α},l.Pairwise lt->m.Pairwise lt->(∀z,z∈l↔z∈m)->l=m
 | [],[],_,_,_=>rfl
 | [],y::m,_,_,h=>by have:=(h y).2 (by simp);simp at this
 |x::l,[],_,_,h=>by have:=(h x).1 (by simp);simp at this
 |x::l,y::m,hl,hm,h=>by
  have A1:=List.pairwise_cons.1 hl;have A0:=List.pairwise_cons.1 hm;have e:x=y:=by
   rcases List.mem_cons.1 ((h x).1 (by simp))with e|hx
   ·exact e
   rcases List.mem_cons.1 ((h y).2 (by simp))with e|hy
   ·exact e.symm
   exact absurd (ht _ _ _ (A1.1 y hy) (A0.1 x hx)) (hi x)
  subst e;rw[Mz hi ht A1.2 A0.2 (fun z=>by
   constructor
   ·intro hz
    rcases List.mem_cons.1 ((h z).1 (wS _ hz))with e|h2
    ·subst e;exact absurd (A1.1 z hz) (hi z)
    exact h2
   intro hz;rcases List.mem_cons.1 ((h z).2 (wS _ hz))with e|h2
   ·subst e;exact absurd (A0.1 z hz) (hi z)
   exact h2)]
theorem fD {P:Program}{ρ:Operand->Value}{o:Oper}{w:World}{g n c size k d c2:Nat}{z:Int}{t e:TypeId}{x y:Operand}(ho:o.op= .slice t x (some y) none none)(ht:P.underlying t=some (.slice e))(hs:(P.info? e).map (·.size)=some size)
  (hx:ρ x= .slice (π g) n c)(hy:ρ y= iV z)(hz:z=(k:Int))(hn:n=k+d)(hd:0<d)(hc:c=k+c2)(hc2:d<=c2):(execOp ρ o).run P w= .ok (.value (.slice (some ⟨g,k*size,none⟩) d c2)) w:=by
 subst hz;subst hn;subst hc;have A0:P.elem t=e:=by simp[Program.elem,ht]
 have h1:P.underlying t=some (.slice (P.elem t)):=by rw[A0];exact ht
 unfold execOp;simp only[ho,hx,hy,Option.map_some,Option.map_none,Sem.run_bind,run_sliceAt_slice _ _ _ _ _ _ h1,run_slice_l w t _ _ _ h1 .i64 (k:Int) ω (by omega:(k:Int)<=((k+d:Nat):Int)),A0];cases hq:P.info? e with
 |none=>simp[hq]at hs
 |some i=>
  have h2:i.size=size:=by simpa[hq]using hs
  have h3:k+d-k=d:=ω;have h4:k+c2-k=c2:=ω;simp[sizeOf,typeInfo,hq,sliced,h2,h3,h4,Int.toNat_natCast,show¬c2=0 by omega,Addr.add_lit]
theorem Lx {w:World}{g a b c:Nat}{cs:List Value}(h:w.rangeAt g ((a+b)*c) cs):w.rangeAt g (a*c+b*c) cs:=by rw[xL]at h;exact h
theorem Qv {α:Type}{l m:List α}{i x:Nat}(h:l.drop i=m.drop i)(hx:i<=x):l[x]?=m[x]?:=by
  have e1:(l.drop i)[x-i]?=(m.drop i)[x-i]?:=by rw[h]
  rw[List.getElem?_drop,List.getElem?_drop]at e1;rwa[show i+(x-i)=x by omega]at e1
theorem Fr.grownBy {r:Option Nat}{w w':World}(h:Fr (fun k=>r=some k) w w'):w.grownBy w' r:=⟨h.os,h.tape,h.output,h.size,fun k hk hne=>h.block k hk (fun e=>hne e.symm)⟩
theorem qW (w:World)(b:Nat)(h:b<=w.heap.size):∃w0,Aa w0 w/\w0.heap.size=b:=
  ⟨{w with heap:=w.heap.extract 0 b},⟨rfl,rfl,rfl,by rw[show({w with heap:=w.heap.extract 0 b}:World).heap.size=min b w.heap.size-0 from Array.size_extract];omega,fun k hk=>by
    have A0:k<b:=by simp at hk;omega
    simp[show k<min b w.heap.size by omega]⟩,by simp;omega⟩
theorem Hp.one {w0 w:World}{t:TypeId}{size n:Nat}{v:Value}{xs:List Value}(x:Aa w0 w)(h:Bi w w0.heap.size t size v n xs):Hp w0 w [.row t size v n xs]:=
  ((Hp.start w0).step x).add h (fun i f hf=>by simp at hf)
theorem Ul {α:Type}{l:List α}{k:Nat}{e:α}(h:k<l.length):(l.set k e).take (k+1)=l.take k++[e]:=by
  rw[List.take_add_one,List.take_set_of_le (Bz k)];simp[h]
theorem Pj {α:Type}{eqv:α->α->Bool}{es:List α}{j:Nat}{e f:α}(he:es[j+1]?=some e)(hf:es[j]?=some f):Do eqv (es.take (j+1+1))=Do eqv (es.take (j+1))++(if eqv e f then[]else[e]):=by
  have h1:es.take (j+1+1)=es.take (j+1)++[e]:=by rw[List.take_add_one,he];rfl
  rw[h1];refine Uq eqv ?_;rw[List.take_add_one,hf];simp
theorem qF {P:Program}{ρ:Operand->Value}{o:Oper}{w:World}{g n c size k:Nat}{z:Int}{t e:TypeId}{x y:Operand}(ho:o.op= .slice t x none (some y) none)(ht:P.underlying t=some (.slice e))(hs:(P.info? e).map (·.size)=some size)
  (hx:ρ x= .slice (π g) n c)(hy:ρ y= iV z)(hz:z=(k:Int))(hk:k<=n)(hn:n<=c)(hc:0<c):(execOp ρ o).run P w= .ok (.value (.slice (π g) k c)) w:=by
 subst hz;have A0:P.elem t=e:=by simp[Program.elem,ht]
 have h1:P.underlying t=some (.slice (P.elem t)):=by rw[A0];exact ht
 unfold execOp;simp only[ho,hx,hy,Option.map_some,Option.map_none,Sem.run_bind,run_sliceAt_slice _ _ _ _ _ _ h1,run_slice_h w t _ _ _ h1 .i64 (k:Int) ω (by omega:(k:Int)<=(c:Int)),A0];cases hq:P.info? e with
 |none=>simp[hq]at hs
 |some i=>
  have h2:i.size=size:=by simpa[hq]using hs
  simp[sizeOf,typeInfo,hq,sliced,h2,Int.toNat_natCast,show¬c=0 by omega,Addr.add_lit]
theorem Bi.cut {w:World}{base:Nat}{t:TypeId}{size g n cap k:Nat}{xs:List Value}(h:Bi w base t size (.slice (π g) n cap) n xs)(hk:k<=n):Bi w base t size (.slice (π g) k cap) k (xs.take (k*size)):=by
 obtain⟨h1,⟨hv,_⟩|⟨g',A0,rest,hv,a,hb,h3,h4,h5,h6⟩⟩:=h
 ·cases hv
 injection hv with e1 e2 e3
 injection e1 with e1
 injection e1 with e1
 subst e1;subst e3;have hl:k*size<=xs.length:=by rw[h1];exact xC _ hk
 have e:xs.take (k*size)++(xs.drop (k*size)++rest)=xs++rest:=by rw[<-wN,List.take_append_drop]
 refine⟨by rw[wK];omega,.inr ⟨g,cap,xs.drop (k*size)++rest,rfl,a,by rw[e];exact hb,ω,h4,?_,by rw[e];exact h6⟩⟩;rw[wK,wD,List.length_drop];omega
theorem lO {α:Type}{f:α->List Value}{P:Program}{w0 w:World}{m:List Dl}{ix:Nat}{a:Act}{Q:Exit->Act->World->Prop}{rest:List Oper}{op:Oper}{ops:Array Oper}(hw:Region.wanted op (yielded ops a.tmps)=true)(x:Operand)(ty:TypeId)(ho:op.op= .call {callee:= .builtin .clear,args:=#[x],argTypes:=#[ty]})
  {g n cap size:Nat}{t:TypeId}{es:List α}(hH:Hp w0 w m)(hi:m[ix]?=some (.row t size (.slice (π g) n cap) n (es.flatMap f)))(hc:∀x,(f x).length=size)(hl:es.length=n)(k c:Nat)(hk:k<n)(hx:a.eval x= .slice (some ⟨g,k*size,none⟩) (n-k) c)
  (ht:P.underlying ty=some (.slice t))(z:Value)(hz:∀w,(zeroValue t).run P w= .ok z w)(hzs:z.cells.size=size)(h1:∀v,v∈z.cells.toList->v.oneCell'=true)(hn:Ar z.cells.toList)(h0:0<size)
  (h:∀w',Hp w0 w' (m.set ix (.row t size (.slice (π g) k cap) k ((es.take k).flatMap f)))->Ah w w'->Ba g w w'->wpList P ops Q rest (a.put op.dst (.tuple #[])) w'):wpList P ops Q (op::rest) a w:=by
 have A1:(Builtin.zeroCells z.cells (n-k)).size=(n-k)*size:=by rw[size_zeroCells,hzs]
 have A7:(es.flatMap f).length=n*size:=by rw[Dx hc,hl]
 have B3:k*size+(n-k)*size=n*size:=by rw[<-xL];congr 1;omega
 have A9:w.there g (k*size) ((n-k)*size):=(hH.row hi).there (k*size) ((n-k)*size) (by rw[A7];omega);have B1:Ar (Builtin.zeroCells z.cells (n-k)).toList:=Py _ _ ω hn;have A4:∀v,v∈(Builtin.zeroCells z.cells (n-k)).toList->v.oneCell'=true:=by
  intro v hv;unfold Builtin.zeroCells at hv;simp only[Array.toList_map,List.mem_map]at hv;obtain⟨i,_,rfl⟩:=hv;have B2:i%z.cells.size<z.cells.size:=Nat.mod_lt _ ω;rw[getElem!_pos z.cells _ B2];exact h1 _ (by simp)
 have B0:=run_storeCells_cells (P:=P) g (k*size) (Builtin.zeroCells z.cells (n-k)).toList 0 w (fun j hj=>by simpa using(A9 j (by simpa[A1]using hj)).1) (fun j hj=>by simpa using(A9 j (by simpa[A1]using hj)).2) A4;have A3:(Builtin.clear_ #[ty] op.type #[.slice (some ⟨g,k*size,none⟩) (n-k) c]).run P w= .ok (.tuple #[]) (w.setCells g (k*size) (Builtin.zeroCells z.cells (n-k)).toList):=by
  obtain⟨d,hd⟩:∃d,n-k=d+1:=⟨n-k-1,ω⟩;rw[hd]at B0⊢;simp[Builtin.clear_,run_underlying ht,hz,B0]
 have A2:=(hH.row hi).setPart (k*size) (Builtin.zeroCells z.cells (n-k)).toList (by rw[A7,Array.length_toList,A1];omega) B1;have A0:=A2.cut (xQ hk);have e:((es.flatMap f).take (k*size)++(Builtin.zeroCells z.cells (n-k)).toList++(es.flatMap f).drop (k*size+(Builtin.zeroCells z.cells (n-k)).toList.length)).take (k*size)=(es.take k).flatMap f:=by
  have B4:((es.flatMap f).take (k*size)).length=k*size:=by rw[wK,A7];exact Nat.min_eq_left (xC _ ω)
  rw[wN,List.take_append_of_le_length ω,wI ω,Mn hc]
 rw[e]at A0;have A6:w.grownBy (w.setCells g (k*size) (Builtin.zeroCells z.cells (n-k)).toList) (some g):=Dv _ _ _ _;have A5:=hH.turn (r:=some g) (e':= .row t size (.slice (π g) k cap) k ((es.take k).flatMap f)) hi (fun k hk=>by simpa[Dl.own,Value.ownBlock]using hk) A6 A0 (fun k hk=> .inl hk);have A8:Ah w (w.setCells g (k*size) (Builtin.zeroCells z.cells (n-k)).toList):=by
  refine Ah.grown (hH.row hi) ?_;exact A6
 have h2:=h _ A5 A8 A6;refine Bk hw ?_;unfold Oper.wp;simp[execOp,ho,resolve,invoke,builtin,hx,A3,Result.andThen];exact h2
end
section
def Hj:List Rat->Rat->List Rat
  | [],y=>[y]
  |x::l,y=>if x<y then x::Hj l y else if x=y then x::l else y::x::l
theorem Su {y z:Rat}:∀{l:List Rat},z∈Hj l y↔z=y\/z∈l
  | []=>by simp[Hj]
  | x::l=>by
    unfold Hj;split
    · rw[List.mem_cons,Su,List.mem_cons]
      constructor
      · rintro(h|h|h)
        · exact .inr (.inl h)
        · exact .inl h
        exact .inr (.inr h)
      rintro(h|h|h)
      · exact .inr (.inl h)
      · exact .inl h
      exact .inr (.inr h)
    split
    · rename_i h;subst h;simp
    simp
theorem Zs {y:Rat}:∀{l:List Rat},l.Pairwise (· < ·)->(Hj l y).Pairwise (· < ·)
 | [],_=>by simp[Hj]
 |x::l,h=>by
  obtain⟨h1,h2⟩:=List.pairwise_cons.1 h;unfold Hj;split
  ·rename_i hx
   refine List.pairwise_cons.2 ⟨fun z hz=> ?_,Zs h2⟩;rcases Su.1 hz with e|e
   ·rw[e];exact hx
   exact h1 z e
  split
  ·exact h
  rename_i hx hy;have A0:y<x:=by
   have:=Rat.not_lt.1 hx;grind
  refine List.pairwise_cons.2 ⟨fun z hz=> ?_,h⟩;rcases List.mem_cons.1 hz with e|e
  ·rw[e];exact A0
  have:=h1 z e;grind
theorem Rk {y:Rat}:∀{l:List Rat} {k:Nat},(∀i x,i<k->l[i]?=some x->x<y)->(∀x,l[k]?=some x->¬x<y)->k<=l.length->Hj l y=if l[k]?=some y then l else l.take k++y::l.drop k
 | [],k,_,_,hk=>by
  have:k=0:=by simpa using hk
  subst this;simp[Hj]
 |x::l,0,_,h2,_=>by
  unfold Hj;rw[if_neg (h2 x rfl)];by_cases e:x=y
  ·subst e;simp
  rw[if_neg e,if_neg (by simpa using e)];simp
 |x::l,k+1,h1,h2,hk=>by
  unfold Hj;rw[if_pos (h1 0 x ω rfl)];have ih:=Rk (l:=l) (k:=k) (y:=y) (fun i z hi hz=>h1 (i+1) z ω (by simpa using hz)) (fun z hz=>h2 z (by simpa using hz)) (by simpa using hk);rw[ih,List.getElem?_cons_succ];split<;>simp
def Jp (lo hi:Rat)(l all:List Rat):List Rat:=all.foldl (fun o x=>if lo<x/\x<hi then Hj o x else o) l
theorem Pw {lo hi x:Rat}{l all:List Rat}:Jp lo hi l (all++[x])=if lo<x/\x<hi then Hj (Jp lo hi l all) x else Jp lo hi l all:=by unfold Jp;rw[List.foldl_append];rfl
theorem It {lo hi z:Rat}:∀{all l:List Rat},z∈Jp lo hi l all↔z∈l\/(z∈all/\lo<z/\z<hi)
  | [],l=>by simp[Jp]
  | x::all,l=>by
    show z∈Jp lo hi (if lo<x/\x<hi then Hj l x else l) all↔_;rw[It];by_cases h:lo<x/\x<hi
    · rw[if_pos h,Su,List.mem_cons]
      constructor
      · rintro((e|e)|e)
        · subst e;exact .inr ⟨.inl rfl,h⟩
        · exact .inl e
        exact .inr ⟨.inr e.1,e.2⟩
      rintro(e|⟨e|e,f⟩)
      · exact .inl (.inr e)
      · exact .inl (.inl e)
      exact .inr ⟨e,f⟩
    rw[if_neg h,List.mem_cons];constructor
    · rintro(e|e)
      · exact .inl e
      exact .inr ⟨.inr e.1,e.2⟩
    rintro(e|⟨e|e,f⟩)
    · exact .inl e
    · subst e;exact absurd f h
    exact .inr ⟨e,f⟩
theorem Ot {lo hi:Rat}:∀{all l:List Rat},l.Pairwise (· < ·)->(Jp lo hi l all).Pairwise (· < ·)
  | [],l,h=>h
  | x::all,l,h=>by
    show(Jp lo hi (if lo<x/\x<hi then Hj l x else l) all).Pairwise (· < ·);refine Ot ?_;split
    · exact Zs h
    exact h
theorem cP {lo hi:Rat}(h:lo<hi)(all:List Rat):(Jp lo hi [lo,hi] all).head?=some lo/\(Jp lo hi [lo,hi] all).getLast?=some hi:=by
 have hs:=Ot (lo:=lo) (hi:=hi) (all:=all) (l:=[lo,hi]) (by simp[h]);have hm:∀z,z∈Jp lo hi [lo,hi] all->lo<=z/\z<=hi:=by
  intro z hz;rcases It.1 hz with e|⟨_,e1,e2⟩
  ·simp at e
   rcases e with rfl|rfl
   ·exact⟨Rat.le_refl,Rat.le_of_lt h⟩
   exact⟨Rat.le_of_lt h,Rat.le_refl⟩
  exact⟨Rat.le_of_lt e1,Rat.le_of_lt e2⟩
 have hl:lo∈Jp lo hi [lo,hi] all:=It.2 (.inl (by simp));have hh:hi∈Jp lo hi [lo,hi] all:=It.2 (.inl (by simp));generalize Jp lo hi [lo,hi] all=L at*
 constructor
 ·cases L with
  |nil=>simp at hl
  |cons x l=>
   have h1:=(hm x (by simp)).1;rcases List.mem_cons.1 hl with e|e
   ·rw[<-e];rfl
   have:=(List.pairwise_cons.1 hs).1 lo e;grind
 rcases List.eq_nil_or_concat L with e|⟨l,x,e⟩
 ·rw[e]at hl;simp at hl
 rw[List.concat_eq_append]at e;subst e;rw[List.getLast?_concat];have h1:=(hm x (by simp)).2;rcases List.mem_append.1 hh with e|e
 ·have:=(List.pairwise_append.1 hs).2.2 hi e x (by simp);grind
 simp at e;rw[e]
def Ie (a b:Int×Int)(pre:List Df)(x:Df):List Rat:=pre.flatMap (fun o=>Km x o)++Mv x a.1++Mv x b.1
def Kn (a b:Int×Int):List Df->List Df->List Rat
  |_,[]=>[]
  |pre,x::l=>Ie a b pre x++Kn a b (pre++[x]) l
theorem Vg (a b:Int×Int)(x:Df):∀(l p:List Df),Kn a b p (l++[x])=Kn a b p l++Ie a b (p++l) x
  | [],p=>by simp[Kn]
  | y::l,p=>by
    have h:=Vg a b x l (p++[y]);simp only[wR,Kn];rw[h,wN,wN];rfl
def Nk (rs:List Bb):List Rat:=rs.flatMap fun r=>r.map fun p=>(p.2:Rat)
def Lj (a b:Int×Int)(rs:List Bb):List Rat:=Nk rs++Kn a b [] (Cc rs)
theorem Vb (x o:Df):Km o x=Km x o:=by unfold Km;rw[gC,fY]
theorem Yi {lo hi q z:Rat}:z∈bF lo hi q↔z=q/\lo<z/\z<hi:=by
  unfold bF;split
  · rename_i h;simp;intro e;rw[e];exact h
  rename_i h;simp;intro e h1 h2;rw[e]at h1 h2;exact h ⟨h1,h2⟩
theorem Pn {lo hi z:Rat}{l:List Rat}:z∈l.flatMap (bF lo hi)↔z∈l/\lo<z/\z<hi:=by
  rw[List.mem_flatMap];constructor
  · rintro⟨q,h1,h2⟩;obtain⟨e,h3⟩:=Yi.1 h2;rw[e]at h3⊢;exact⟨h1,h3⟩
  rintro⟨h1,h2⟩;exact⟨z,h1,Yi.2 ⟨rfl,h2⟩⟩
theorem jW {a b:Int×Int}{pre:List Df}{x:Df}{z:Rat}:z∈Tp a b pre x↔z∈Ie a b pre x/\(a.2:Rat)<z/\z<(b.2:Rat):=by
 unfold Tp Ie;rw[xS,xS,xS,xS,Pn,Pn,List.mem_flatMap,List.mem_flatMap];constructor
 ·rintro((⟨h1,h2⟩|⟨h1,h2⟩)|⟨o,h1,h2⟩)
  ·exact⟨.inl (.inr h1),h2⟩
  ·exact⟨.inr h1,h2⟩
  rw[Pn,Vb]at h2;exact⟨.inl (.inl ⟨o,h1,h2.1⟩),h2.2⟩
 rintro⟨(⟨o,h1,h2⟩|h1)|h1,h3⟩
 ·exact .inr ⟨o,h1,by rw[Pn,Vb];exact⟨h2,h3⟩⟩
 ·exact .inl (.inl ⟨h1,h3⟩)
 exact .inl (.inr ⟨h1,h3⟩)
theorem fE {a b:Int×Int}{z:Rat}:∀{l p:List Df},z∈iX a b p l↔z∈Kn a b p l/\(a.2:Rat)<z/\z<(b.2:Rat)
  | [],p=>by simp[iX,Kn]
  | x::l,p=>by
    unfold iX Kn;rw[xS,xS,jW,fE];constructor
    · rintro(h|h)
      · exact⟨.inl h.1,h.2⟩
      exact⟨.inr h.1,h.2⟩
    rintro⟨h|h,k⟩
    · exact .inl ⟨h,k⟩
    exact .inr ⟨h,k⟩
theorem qG {a b:Int×Int}{rs:List Bb}{z:Rat}:z∈rG a b rs↔z∈Nk rs/\(a.2:Rat)<z/\z<(b.2:Rat):=by
  unfold rG Nk;simp only[List.mem_flatMap,List.mem_map,Yi];constructor
  · rintro⟨r,h1,p,h2,h3,h4⟩;exact⟨⟨r,h1,p,h2,h3.symm⟩,h4⟩
  rintro⟨⟨r,h1,p,h2,h3⟩,h4⟩;exact⟨r,h1,p,h2,h3.symm,h4⟩
def Eb (a b:Int×Int)(rs:List Bb):List Rat:=if Uo a b rs then Jp (a.2:Rat) (b.2:Rat) [(a.2:Rat),(b.2:Rat)] (Lj a b rs)else[]
theorem qE {a b:Int×Int}{rs:List Bb}{l:List Rat}(h:l.Pairwise (· < ·))(hm:∀x,x∈l↔x∈tI a b rs):l=Eb a b rs:=by
 unfold Eb;unfold tI at hm;by_cases k:Uo a b rs
 ·rw[if_pos k]at hm⊢
  have A0:(a.2:Rat)<(b.2:Rat):=by exact_mod_cast k.2.2.2
  refine Mz (lt:=(· < ·)) (fun x=>Rat.lt_irrefl) (fun x y z h1 h2=>by grind) h (Ot (by simp[A0])) (fun z=> ?_);rw[hm,It];unfold Lj;rw[xS,xS,xS,qG,fE];constructor
  ·rintro((e|e)|e)
   ·exact .inl e
   ·exact .inr ⟨.inl e.1,e.2⟩
   exact .inr ⟨.inr e.1,e.2⟩
  rintro(e|⟨e|e,f⟩)
  ·exact .inl (.inl e)
  ·exact .inl (.inr ⟨e,f⟩)
  exact .inr ⟨e,f⟩
 rw[if_neg k]at hm⊢;cases l with
 |nil=>rfl
 |cons x l=>have:=(hm x).1 (by simp);simp at this
def Ed (W:Rat->Rat):List Rat->Rat
  |x::y::l=>W ((x+y)/2)*(y-x)+Ed W (y::l)
  |_=>0
def Ui (l:List QQ)(x:Rat):Prop:=∃p,p∈l/\p.1<=x/\x<=p.2
def Ra (l:List QQ):Prop:=l.Pairwise (fun a b=>a.2<b.1)/\∀p,p∈l->p.1<p.2
theorem eE:Ra []:=⟨List.Pairwise.nil,by simp⟩
theorem Ra.tail {a:QQ}{l:List QQ}(h:Ra (a::l)):Ra l:=⟨(List.pairwise_cons.1 h.1).2,fun p hp=>h.2 p (wS _ hp)⟩
theorem Ra.far {a:QQ}{l:List QQ}(h:Ra (a::l)){p:QQ}(hp:p∈l):a.2<p.1:=(List.pairwise_cons.1 h.1).1 p hp
theorem Ra.head {a:QQ}{l:List QQ}(h:Ra (a::l)):a.1<a.2:=h.2 a (xE ..)
theorem Fv {a:QQ}{l:List QQ}{x:Rat}:Ui (a::l) x↔(a.1<=x/\x<=a.2)\/Ui l x:=by
  constructor
  · rintro⟨p,hp,h⟩
    rcases List.mem_cons.1 hp with rfl|hp
    · exact Or.inl h
    exact Or.inr ⟨p,hp,h⟩
  rintro(h|⟨p,hp,h⟩)
  · exact⟨a,xE ..,h⟩
  exact⟨p,wS _ hp,h⟩
theorem Mb {a:QQ}{l:List QQ}{x:Rat}:Ui (l++[a]) x↔Ui l x\/(a.1<=x/\x<=a.2):=by
  constructor
  · rintro⟨p,hp,h⟩
    rcases List.mem_append.1 hp with hp|hp
    · exact Or.inl ⟨p,hp,h⟩
    rw[xH]at hp;subst hp;exact Or.inr h
  rintro(⟨p,hp,h⟩|h)
  · exact⟨p,List.mem_append.2 (Or.inl hp),h⟩
  exact⟨a,List.mem_append.2 (Or.inr (List.mem_singleton.2 rfl)),h⟩
theorem Je {x:Rat}:¬Ui [] x:=by rintro⟨p,hp,_⟩;simp at hp
theorem Ra.tail_cov {a:QQ}{l:List QQ}(h:Ra (a::l)){x:Rat}:Ui l x↔Ui (a::l) x/\a.2<x:=by
  constructor
  · rintro⟨p,hp,h1,h2⟩
    refine⟨Fv.2 (Or.inr ⟨p,hp,h1,h2⟩),?_⟩;have:=h.far hp;grind
  rintro⟨hc,hx⟩;rcases Fv.1 hc with h1|h1
  · grind
  exact h1
theorem Ra.first_le {a:QQ}{l:List QQ}(h:Ra (a::l)){x:Rat}(hc:Ui (a::l) x):a.1<=x:=by
  rcases Fv.1 hc with h1|⟨p,hp,h1,_⟩
  · exact h1.1
  have:=h.far hp;have:=h.head;grind
theorem Ra.gap {a:QQ}{l:List QQ}(h:Ra (a::l)){y:Rat}(hy:a.2<y):∃x,a.2<x/\x<y/\¬Ui (a::l) x:=by
 have hm:∃z,a.2<z/\z<=y/\∀p,p∈l->z<=p.1:=by
  cases l with
  |nil=>exact⟨y,hy,by grind,by simp⟩
  |cons b l=>
   have A1:=h.far (xE (a:=b) (l:=l));have ht:=h.tail;have hb:∀p,p∈b::l->b.1<=p.1:=by
    intro p hp;rcases List.mem_cons.1 hp with rfl|hp
    ·grind
    have:=ht.far hp;have:=ht.head;grind
   by_cases hyb:y<=b.1
   ·exact⟨y,hy,by grind,fun p hp=>by have:=hb p hp;grind⟩
   exact⟨b.1,A1,by grind,hb⟩
 obtain⟨z,A3,A2,A0⟩:=hm;refine⟨(a.2+z)/2,by grind,by grind,?_⟩;intro hc;rcases Fv.1 hc with h1|⟨p,hp,h1,_⟩
 ·grind
 have:=A0 p hp;grind
theorem Sh:∀{l m:List QQ},Ra l->Ra m->(∀x,Ui l x↔Ui m x)->l=m
 | [],[],_,_,_=>rfl
 | [],b::m,_,hm,h=>by
  have:=(h b.1).2 (Fv.2 (Or.inl ⟨by grind,by have:=hm.head;grind⟩));exact(Je this).elim
 |a::l,[],hl,_,h=>by
  have:=(h a.1).1 (Fv.2 (Or.inl ⟨by grind,by have:=hl.head;grind⟩));exact(Je this).elim
 |a::l,b::m,hl,hm,h=>by
  have ha:=hl.head;have hb:=hm.head;have e1:a.1=b.1:=by
   have h1:=hm.first_le ((h a.1).1 (Fv.2 (Or.inl ⟨by grind,by grind⟩)));have h2:=hl.first_le ((h b.1).2 (Fv.2 (Or.inl ⟨by grind,by grind⟩)));grind
  have e2:a.2=b.2:=by
   by_cases h1:a.2<b.2
   ·obtain⟨x,A2,A1,A0⟩:=hl.gap h1
    exact(A0 ((h x).2 (Fv.2 (Or.inl ⟨by grind,by grind⟩)))).elim
   by_cases h2:b.2<a.2
   ·obtain⟨x,A2,A1,A0⟩:=hm.gap h2
    exact(A0 ((h x).1 (Fv.2 (Or.inl ⟨by grind,by grind⟩)))).elim
   grind
  have e:a=b:=Prod.ext e1 e2;subst e;rw[Sh hl.tail hm.tail (fun x=>by rw[hl.tail_cov,hm.tail_cov,h])]
theorem nC {l m:List QQ}(h:∀p,p∈l↔p∈m)(x:Rat):Ui l x↔Ui m x:=
  ⟨fun⟨p,hp,k⟩=>⟨p,(h p).1 hp,k⟩,fun⟨p,hp,k⟩=>⟨p,(h p).2 hp,k⟩⟩
theorem eX {l:List QQ}{a:QQ}(h:l.getLast?=some a):l=l.dropLast++[a]:=by
  obtain⟨ys,rfl⟩:=List.getLast?_eq_some_iff.1 h;simp
theorem Og {l:List QQ}{a:QQ}:Ra (l++[a])↔Ra l/\a.1<a.2/\∀p,p∈l->p.2<a.1:=by
 constructor
 ·rintro⟨h1,h2⟩
  rw[List.pairwise_append]at h1;exact⟨⟨h1.1,fun p hp=>h2 p (List.mem_append.2 (Or.inl hp))⟩,h2 a (by simp),fun p hp=>h1.2.2 p hp a (by simp)⟩
 rintro⟨h1,h2,h3⟩;refine⟨List.pairwise_append.2 ⟨h1.1,List.pairwise_singleton ..,fun p hp q hq=> ?_⟩,fun p hp=> ?_⟩
 ·rw[xH]at hq
  subst hq;exact h3 p hp
 rcases List.mem_append.1 hp with hp|hp
 ·exact h1.2 p hp
 rw[xH]at hp;subst hp;exact h2
theorem iI {out:List QQ}{s:QQ}(h:Ra out)(hs:s.1<s.2)(hl:∀p,p∈out->p.1<=s.1):
  Ra (Em out s)/\(∀x,Ui (Em out s) x↔Ui out x\/(s.1<=x/\x<=s.2))/\∀p,p∈Em out s->p.1<=s.1:=by
 unfold Em;split
 ·rename_i h0
  rw[List.getLast?_eq_none_iff]at h0;subst h0;refine⟨Og.2 ⟨eE,hs,by simp⟩,fun x=>Mb,?_⟩;intro p hp;simp at hp;subst hp;grind
 rename_i l h0;have e:=eX h0;generalize out.dropLast=o at e
 subst e;obtain⟨k1,k2,k3⟩:=Og.1 h;have A0:=hl l (by simp);split
 ·rename_i h1
  refine⟨Og.2 ⟨h,hs,?_⟩,fun x=>Mb,?_⟩
  ·intro p hp
   rcases List.mem_append.1 hp with hp|hp
   ·have:=k3 p hp
    grind
   rw[xH]at hp;subst hp;exact h1
  intro p hp;rcases List.mem_append.1 hp with hp|hp
  ·exact hl p hp
  rw[xH]at hp;subst hp;grind
 rename_i h1;split
 ·rename_i h2
  refine⟨Og.2 ⟨k1,by show l.1<s.2;grind,k3⟩,fun x=> ?_,?_⟩
  ·rw[Mb,Mb]
   show Ui o x\/(l.1<=x/\x<=s.2)↔(Ui o x\/(l.1<=x/\x<=l.2))\/(s.1<=x/\x<=s.2);grind
  intro p hp;rcases List.mem_append.1 hp with hp|hp
  ·exact hl p (List.mem_append.2 (Or.inl hp))
  rw[xH]at hp;subst hp;exact A0
 rename_i h2;refine⟨h,fun x=> ?_,hl⟩;rw[Mb];grind
theorem mF (l:List QQ):∀(out:List QQ),Ra out->(∀p,p∈l->p.1<p.2)->l.Pairwise (fun a b=>a.1<=b.1)->(∀p,p∈out->∀q,q∈l->p.1<=q.1)->
  Ra (l.foldl Em out)/\∀x,Ui (l.foldl Em out) x↔Ui out x\/Ui l x:=by
 induction l with
 |nil=>intro out h _ _ _;exact⟨h,fun x=>⟨Or.inl,fun k=>k.elim id fun k=>(Je k).elim⟩⟩
 |cons s l ih=>
  intro out h h1 h2 h3;obtain⟨a1,a2,a3⟩:=iI h (h1 s (xE ..)) (fun p hp=>h3 p hp s (xE ..));obtain⟨p1,p2⟩:=List.pairwise_cons.1 h2;obtain⟨b1,b2⟩:=ih (Em out s) a1 (fun p hp=>h1 p (wS _ hp)) p2 (fun p hp q hq=>by have:=a3 p hp;have:=p1 q hq;grind);refine⟨b1,fun x=> ?_⟩;rw[List.foldl_cons,b2,a2,Fv,or_assoc]
theorem Vv {ps:List QQ}{p:QQ}:p∈La ps↔p∈ps/\p.1<p.2:=by unfold La;simp
theorem Kt (ps:List QQ):Ra (Eg ps)/\∀x,Ui (Eg ps) x↔Ui (La ps) x:=by
  have hs:Stb.Srt pJ (Dk ps):=Stb.stab_srt (uT fun p:QQ=>p.1) _;have hm:∀p,p∈Dk ps↔p∈La ps:=fun p=>Stb.mem_stab
  obtain⟨a,b⟩:=mF (Dk ps) [] eE (fun p hp=>(Vv.1 ((hm p).1 hp)).2) (List.Pairwise.imp (fun {x y} h=>by unfold pJ at h;rw[decide_eq_false_iff_not]at h;grind) hs) (by simp);refine⟨a,fun x=> ?_⟩;unfold Eg;rw[b,nC hm];exact⟨fun k=>k.elim (fun k=>(Je k).elim) id,Or.inr⟩
theorem fV {l:List QQ}(h:Ra l):La l=l:=by
  unfold La;rw[List.filter_eq_self];intro p hp;rw[decide_eq_true_iff];exact h.2 p hp
theorem cS {l:List QQ}(h:Ra l):Eg l=l:=Sh (Kt l).1 h (fun x=>by rw[(Kt l).2,fV h])
theorem aI (ps:List QQ):Eg (Eg ps)=Eg ps:=cS (Kt ps).1
def Jq (f t:Rat)(p:QQ):Rat:=
  if (if p.1<f then f else p.1)<(if t<p.2 then t else p.2)then(if t<p.2 then t else p.2)-(if p.1<f then f else p.1)else 0
def Fh (f t:Rat)(l:List QQ):Rat:=(l.map (Jq f t)).sum
theorem Ls (f t:Rat):Fh f t []=0:=rfl
theorem Hq (f t:Rat)(p:QQ)(l:List QQ):Fh f t (p::l)=Jq f t p+Fh f t l:=by unfold Fh;rw[List.map_cons,List.sum_cons]
theorem lZ (f t:Rat)(l m:List QQ):Fh f t (l++m)=Fh f t l+Fh f t m:=by
  induction l with
  |nil=>rw[Ls,wT];grind
  |cons p l ih=>rw[wR,Hq,Hq,ih];grind
theorem pN (f t:Rat)(p:QQ):0<=Jq f t p:=by unfold Jq;grind
theorem pM (f t:Rat)(l:List QQ):0<=Fh f t l:=by
  induction l with
  |nil=>rw[Ls];grind
  |cons p l ih=>rw[Hq];have:=pN f t p;grind
theorem Xy {f t:Rat}:∀(l:List QQ),Ra l->f<=t->Fh f t l<=t-f
 | [],_,h=>by rw[Ls];grind
 |p::l,hs,h=>by
  rw[Hq];have hp:=hs.head;by_cases h1:p.2<=f
  ·have:=Xy l hs.tail h
   have:Jq f t p=0:=by unfold Jq;grind
   grind
  by_cases h2:t<=p.2
  ·have hz:Fh f t l=0:=by
    have A0:∀q,q∈l->Jq f t q=0:=fun q hq=>by have:=hs.far hq;unfold Jq;grind
    clear hs;induction l with
    |nil=>rfl
    |cons q l ih=>rw[Hq,A0 q (xE ..),ih fun r hr=>A0 r (wS _ hr)];grind
   have:Jq f t p<=t-f:=by unfold Jq;grind
   grind
  have hz:Fh f t l=Fh p.2 t l:=by
   have A0:∀q,q∈l->Jq f t q=Jq p.2 t q:=fun q hq=>by have:=hs.far hq;unfold Jq;grind
   unfold Fh;rw[List.map_congr_left A0]
  have h3:=Xy (f:=p.2) (t:=t) l hs.tail (by grind);have:Jq f t p<=p.2-f:=by unfold Jq;grind
  grind
end
section
attribute [local go_sem ↓] Go.wp_at_zero Go.wp_at_succ Az Ay
theorem Mg (L:Nat)(hL:L<=60000)(Bc:Nat)(w:World)(e f:Bd)(he:e.Ok L w)(hf:f.Ok L w)(hc:w.cell? ⟨Bc,0,none⟩=some (.func (.func 47) #[] #[])):
  Calls prog 111 #[(rg e.a),(rg f.a),.pointer (π Bc)] w fun x w'=>x= .returned (.bool (decide (e.q=f.q)))/\Aa w w':=by
 have RE:=zH he.1;have A2:=zH he.2;have RF:=zH hf.1;have A1:=zH hf.2;have HC:=zH hc;clear he hf hc;go_enter func111,ntmps111
 have H0:=zH (Hp.start w);go_upto_region 0 with fail;apply wl;apply Cd 31 (rc e.a) H0.1;intro B1 A9 A5 _;apply Cd 31 (rc f.a) A5.1;intro B0 A8 A0 _;apply zq φ;rcases Ck (e.q=f.q)with CQ|CQ
 ·go_upto_region 1 with fail
  apply wl;refine ze Bc 0 (.func (.func 47) #[] #[]) (St (A0.1.ext.get HC.1)) ?_;refine Bq A0.1 _ _ ?_;refine aC A0.1 (Ig (L:=60000) (RV.Is.nin (RE.1.dig A0.1.dig0) (Aw A2.1 ω)) (RV.Is.nin (RF.1.dig A0.1.dig0) (Aw A1.1 ω)) ω) ?_;intro A7 A4 _;apply zp τ (by exact Kf (e:=(Aq (Mh.2 CQ.1))));apply zq τ;go_wp2_with fail;go_ret;exact⟨by rw[decide_eq_true CQ.1];rfl,A4.1.ext⟩
 go_upto_region 1 with fail;apply wl;refine ze Bc 0 (.func (.func 47) #[] #[]) (St (A0.1.ext.get HC.1)) ?_;refine Bq A0.1 _ _ ?_;refine aC A0.1 (Ig (L:=60000) (RV.Is.nin (RE.1.dig A0.1.dig0) (Aw A2.1 ω)) (RV.Is.nin (RF.1.dig A0.1.dig0) (Aw A1.1 ω)) ω) ?_;intro A6 A3 _;apply zp φ (by exact Kf (e:=(Aj (fun hh=>CQ.1 (Mh.1 hh)))));apply zq φ;go_wp2_with fail;go_ret;exact⟨by rw[decide_eq_false CQ.1];rfl,A3.1.ext⟩
theorem jB (L:Nat)(hL:L<=60000)(Bc:Nat)(v:Value)(es:List Bd)(base:Nat)(w:World)(h:Bi w base 31 4 v es.length (es.flatMap Bd.cells))(hbase:base<=w.heap.size)(hok:∀e,e∈es->e.Ok L w)(hc:w.cell? ⟨Bc,0,none⟩=some (.func (.func 47) #[] #[]))(hB:¬v.ownBlock=some Bc)(hn:es.length<=100000000):
  Calls prog 110 #[v,.func (.func 111) #[] #[.pointer (π Bc)]] w fun x w'=>∃v',x= .returned v'/\Bi w' base 31 4 v' (Do (fun x y:Bd=>decide (x.q=y.q)) es).length ((Do (fun x y:Bd=>decide (x.q=y.q)) es).flatMap Bd.cells)/\w.grownBy w' v.ownBlock/\Ah w w'/\v'.ownBlock=v.ownBlock:=by
 obtain⟨w0,I2,rfl⟩:=qW w base hbase;have F2:=zH hok;have HC:=zH hc;have HB:=zH hB;clear hc hB hok;rcases h.2 with⟨rfl,h0⟩|⟨g,cap,rest,rfl,hb,hg,hc1,E9,E8,hc4⟩
 ·have he:es=[]:=wP h0
  subst he;go_enter func110,ntmps110;go_wp2_with fail;go_ret;exact⟨_,rfl,h,World.grownBy.refl _ _,Ah.refl _,rfl⟩
 have H0:=zH (Hp.one I2 h);have A5:=zH hc1;clear h I2 hb hg E9 E8 hc4;have B6:=zH (show Fr (fun kz=>Value.ownBlock (.slice (π g) es.length cap)=some kz) w w from Fr.of_ext (Aa.refl w));go_enter func110,ntmps110
 go_upto_region 0 with fail;apply wl;refine Cy Af _ ?_;by_cases c2:es.length<2
 ·have HS:=zH c2
  clear c2;go_upto_region 1 with fail;apply wl;refine Bq Af _ (iV ((es.length:Nat):Int)) ?_;apply zp τ (by exact Dp (e:=(Aq (by have A0:=HS.1;omega))));go_upto_region 2 with fail;apply wl;refine Bq Af _ _ ?_;have G0:Do (fun x y:Bd=>decide (x.q=y.q)) es=es:=by have hs:=HS.1;match es,hs with| [],_=>rfl| [x],_=>rfl|x::y::l,hs=>exact absurd hs (by simp)
  go_wp2_with fail;go_ret;exact⟨_,rfl,by rw[G0];exact H0.1.row (i:=0) (by rfl),World.grownBy.refl _ _,Ah.refl _,rfl⟩
 have HS:=zH c2;clear c2;go_upto_region 1 with fail;apply wl;refine Bq Af _ (iV ((es.length:Nat):Int)) ?_;apply zp φ (by exact Dp (e:=(Aj (by have A0:=HS.1;omega))));go_upto_region 3 with fail;apply wl;apply zq (iV 1);go_wp2_with fail;go_loopg [5] (es.length) (fun cq K7 wr=>∃(j:Nat),cq=es.length-j/\K7= iV ((j+1:Nat):Int)/\(j+1<=es.length)/\(Do (fun x y:Bd=>decide (x.q=y.q)) (es.take (j+1))=es.take (j+1))/\(Fr (fun kz=>Value.ownBlock (.slice (π g) es.length cap)=some kz) w wr)/\Hp w0 wr [.row 31 4 (.slice (π g) es.length cap) (es.length) (List.flatMap Bd.cells es)]/\Ah w wr)
 case atStart=>exact⟨0,rfl,rfl,(by have h_:=HS.1;omega),(by have hs:=HS.1;match es,hs with| [],hs=>exact absurd hs (by decide)|x::l,_=>rfl),B6.1,H0.1,Ah.refl _⟩
 obtain⟨j,rfl,rfl,C9,C4,A2,D2,D3⟩:=hrel;generalize wr=B9 at*;have HK:=zH C9;clear C9;have G7:=zH C4;clear C4;have B6:=zH A2;clear A2;have C8:=zH D2;have F5:=zH D3;clear D2 D3;rcases Ck (j+1<es.length)with HLT|HLT
 ·go_upto_region 4 with fail
  apply wl;refine Cn Af (iV ((j+1:Nat):Int)) _ (iV ((es.length:Nat):Int)) ?_;apply zp τ (by exact Dp (e:=(Aq (by have A0:=HK.1;have A3:=HLT.1;omega))));obtain⟨e,he⟩:∃e,es[j+1]?=some e:=⟨_,wC HLT.1⟩;obtain⟨f,hf⟩:∃f,es[j]?=some f:=⟨_,wC (by have h_:=HLT.1;omega)⟩;have F1:=zH he;have A6:=F2.1 e (wE he);have J4:=zH A6.1;have K1:=zH A6.2;clear he A6;have G5:=zH hf;have A6:=F2.1 f (wE hf);have J3:=zH A6.1;have K0:=zH A6.2;clear hf A6;have J1:=zH (Pj (eqv:=(fun x y:Bd=>decide (x.q=y.q))) F1.1 G5.1);rcases Ck (e.q=f.q)with HEQ|HEQ
  ·go_upto_region 6 with fail
   refine zy ?_;have L6:=zH (C8.1.step (Aa.refl B9).drew);have J9:=zH (Ah.of_ext (w:=B9) zb);have J0:=zH (B6.1.trans (Fr.of_ext (Aa.refl B9).drew));refine Rg Af zb (bs 11 7) 0 1 2 _ _ (iV ((j+1:Nat):Int)) ?_;refine zo 3 (bs 11 15) (v:= .pointer (some ⟨g,(j+1)*4,none⟩)) zb ?_ (hv:=by intro w B2;exact Eh (k:=j+1) underlying54 (l:=(by have h_:=HLT.1;omega)) (f:=(wH _).symm));refine zg 4 (bs 11 31) g ((j+1)*4) (rc e.a) (C8.1.elem (f:=Bd.cells) (i:=0) rR Bd.len F1.1) underlying31 zb ?_;refine Jv Af zb (bs 11 127) 5 6 _ (iV ((j+1:Nat):Int)) ?_;refine zu 7 (bs 11 255) (v:= iV (j:Int)) zb ?_ (hv:=by intro w B2;exact Nx (by have A0:=HK.1;have A3:=HLT.1;omega));refine zo 8 (bs 11 511) (v:= .pointer (some ⟨g,j*4,none⟩)) zb ?_ (hv:=by intro w B2;exact Eh (k:=j) underlying54 (l:=(by have h_:=HLT.1;omega)) (f:=(wH _).symm));refine zg 9 (bs 11 1023) g (j*4) (rc f.a) (C8.1.elem (f:=Bd.cells) (i:=0) rR Bd.len G5.1) underlying31 zb ?_;have B7:=tD F5 J9;refine mC 10 (bs 11 2047) (Mg L hL Bc _ e f ⟨(J4.1.dig B7.1),K1.1⟩ ⟨(J3.1.dig B7.1),K0.1⟩ (J0.1.cell HC.1 HB.1)) ?_;rintro e I0 ⟨rfl,hx⟩;have J6:=zH (L6.1.step hx);have H5:=zH (show Ah B9.drew I0 from Ah.of_ext hx);have L1:=zH (J0.1.trans (Fr.of_ext hx));have K8:=zH (zb.trans hx);clear hx;refine⟨.bool true,by rw[decide_eq_true HEQ.1],K8.1,?_⟩;try simp only[ζ]
   refine wpAnyH_done kR ?_ _;obtain⟨d,hd⟩:∃d,es.length=j+1+d:=⟨es.length-(j+1),by have h_:=HLT.1;omega⟩;obtain⟨c2,E9⟩:∃c2,cap=j+1+c2:=⟨cap-(j+1),by have h_:=HLT.1;have A7:=A5.1;omega⟩;have HD:=zH hd;have A8:=zH E9;clear hd E9;go_upto_region 7 with fail
   apply wl;refine Bq Af _ (iV ((j+1:Nat):Int)) ?_;apply zp (.slice (some ⟨g,(j+1)*4,none⟩) d c2) (by exact fD rR underlying54 kR rR rR (by first|rfl|omega) HD.1 (by have A0:=HK.1;have A3:=HLT.1;have B1:=HD.1;have A9:=A8.1;have B0:=A5.1;omega) A8.1 (by have A0:=HK.1;have A3:=HLT.1;have B1:=HD.1;have A9:=A8.1;have B0:=A5.1;omega));apply zq (.slice (some ⟨g,(j+1)*4,none⟩) d c2);go_upto_region 8 with fail;apply wl;apply zq (iV 1);go_wp2_with fail;go_loopg [5,7] (d) (fun cq K6 v45 wr=>∃(i:Nat) (k:Nat) (ds:List Bd),cq=d-i/\K6= iV (k:Int)/\v45= iV ((i+1:Nat):Int)/\(i+1<=d)/\(k<j+1+(i+1))/\(ds.length=es.length)/\(ds.take k=Do (fun x y:Bd=>decide (x.q=y.q)) (es.take (j+1+(i+1))))/\(ds.drop (j+1+i)=es.drop (j+1+i))/\(Fr (fun kz=>Value.ownBlock (.slice (π g) es.length cap)=some kz) w wr)/\Hp w0 wr [.row 31 4 (.slice (π g) es.length cap) (es.length) (List.flatMap Bd.cells ds)]/\Ah I0 wr)
   case atStart=>exact⟨0,j+1,es,rfl,rfl,rfl,(by have h_:=HLT.1;have A7:=HD.1;omega),ω,rfl,(by rw[show j+1+(0+1)=j+1+1 by omega,J1.1,if_pos (decide_eq_true HEQ.1),xD];exact G7.1.symm),rfl,L1.1,J6.1,Ah.refl _⟩
   obtain⟨i,k,ds,rfl,rfl,rfl,D0,C0,C1,C3,C2,A2,D2,D3⟩:=hrel;generalize wr=B8 at*;have HI:=zH D0;clear D0;have A1:=zH C0;clear C0;have A4:=zH C1;clear C1;have G6:=zH C3;clear C3;have F3:=zH C2;clear C2;have B6:=zH A2;clear A2;have C7:=zH D2;have E5:=zH D3;clear D2 D3 J6;rcases Ck (i+1<d)with HLT2|HLT2
   ·go_upto_region 9 with fail
    apply wl;refine Cn Af (iV ((i+1:Nat):Int)) (.slice (some ⟨g,(j+1)*4,none⟩) d c2) (iV (d:Int)) ?_;apply zp τ (by exact Dp (e:=(Aq (by have A0:=HI.1;have A3:=A1.1;have B1:=HD.1;have A9:=A8.1;have B0:=A5.1;have B5:=A4.1;have B4:=HLT2.1;omega))));obtain⟨e2,F9⟩:∃e2,es[j+1+i+1]?=some e2:=⟨_,wC (by have h_:=HLT2.1;have A7:=HD.1;omega)⟩;obtain⟨f2,F8⟩:∃f2,es[j+1+i]?=some f2:=⟨_,wC (by have h_:=HLT2.1;have A7:=HD.1;omega)⟩;have D8:=zH F9;have A6:=F2.1 e2 (wE F9);have E0:=zH A6.1;have E7:=zH A6.2;clear F9 A6;have D7:=zH F8;have A6:=F2.1 f2 (wE F8);have D9:=zH A6.1;have E6:=zH A6.2;clear F8 A6;have C5:=zH (show ds[j+1+(i+1)]?=some e2 from(Qv F3.1 ω).trans D8.1);have D6:=zH (show ds[j+1+i]?=some f2 from(Qv F3.1 ω).trans D7.1);have D5:=zH (Pj (eqv:=(fun x y:Bd=>decide (x.q=y.q))) D8.1 D7.1);rcases Ck (e2.q=f2.q)with HEQ2|HEQ2
    ·go_upto_region 11 with fail
     refine zy ?_;have L5:=zH (C7.1.step (Aa.refl B8).drew);have J8:=zH (Ah.of_ext (w:=B8) zb);have I9:=zH (B6.1.trans (Fr.of_ext (Aa.refl B8).drew));refine Rg Af zb (bs 12 7) 0 1 2 _ (.slice (some ⟨g,(j+1)*4,none⟩) d c2) (iV ((i+1:Nat):Int)) ?_;refine zo 3 (bs 12 15) (v:= .pointer (some ⟨g,(j+1)*4+(i+1)*4,none⟩)) zb ?_ (hv:=by intro w B2;exact Eh (k:=i+1) underlying54 (l:=(by have h_:=HLT2.1;omega)) (f:=rfl));refine zg 4 (bs 12 31) g ((j+1)*4+(i+1)*4) (rc e2.a) (Lx (C7.1.elem (f:=Bd.cells) (i:=0) rR Bd.len C5.1)) underlying31 zb ?_;refine Jv Af zb (bs 12 127) 5 6 (.slice (some ⟨g,(j+1)*4,none⟩) d c2) (iV ((i+1:Nat):Int)) ?_;refine zu 7 (bs 12 255) (v:= iV (i:Int)) zb ?_ (hv:=by intro w B2;exact Nx (by have A0:=HI.1;have A3:=A1.1;have B1:=HD.1;have A9:=A8.1;have B0:=A5.1;have B5:=A4.1;have B4:=HLT2.1;omega));refine zo 8 (bs 12 511) (v:= .pointer (some ⟨g,(j+1)*4+i*4,none⟩)) zb ?_ (hv:=by intro w B2;exact Eh (k:=i) underlying54 (l:=(by have h_:=HLT2.1;omega)) (f:=rfl));refine zg 9 (bs 12 1023) g ((j+1)*4+i*4) (rc f2.a) (Lx (C7.1.elem (f:=Bd.cells) (i:=0) rR Bd.len D6.1)) underlying31 zb ?_;have E2:=tD (tD (tD B7 H5) E5) J8;refine mC 10 (bs 12 2047) (Mg L hL Bc _ e2 f2 ⟨(E0.1.dig E2.1),E7.1⟩ ⟨(D9.1.dig E2.1),E6.1⟩ (I9.1.cell HC.1 HB.1)) ?_;rintro e K3 ⟨rfl,hx⟩;have L4:=zH (L5.1.step hx);have L8:=zH (show Ah B8.drew K3 from Ah.of_ext hx);have L0:=zH (I9.1.trans (Fr.of_ext hx));have I7:=zH (zb.trans hx);clear hx;refine⟨.bool true,by rw[decide_eq_true HEQ2.1],I7.1,?_⟩;try simp only[ζ]
     refine zx 11 (bs 12 4095) φ I7.1 ?_;refine wpAnyH_done kR ?_ _;go_upto_region 10 with fail;apply wl;apply zq (iV ((i+1:Nat):Int));apply zp (iV ((i+2:Nat):Int)) (by exact Hr (by have A0:=HI.1;have A3:=A1.1;have B1:=HD.1;have A9:=A8.1;have B0:=A5.1;have B5:=A4.1;have B4:=HLT2.1;omega));apply zq (iV ((i+2:Nat):Int));have H4:=tD (tD E5 J8) L8;go_wp2_with fail
     go_roundg (d-(i+1))
     case measure=>exact(by have A0:=HI.1;have A3:=A1.1;have B1:=HD.1;have A9:=A8.1;have B0:=A5.1;have B5:=A4.1;have B4:=HLT2.1;have I1:=(show i<d from by have h_:=HLT2.1;omega);omega)
     case rel=>exact⟨i+1,k,ds,rfl,rfl,(by go_num),HLT2.1,(by have h_:=A1.1;omega),A4.1,(by rw[show j+1+(i+1+1)=j+1+i+1+1 by omega,D5.1,if_pos (decide_eq_true HEQ2.1),xD];exact G6.1),(by rw[show j+1+(i+1)=(j+1+i)+1 by omega,<-List.drop_drop,F3.1,List.drop_drop]),L0.1,L4.1,H4.1⟩
    go_upto_region 11 with fail;refine zy ?_;have L3:=zH (C7.1.step (Aa.refl B8).drew);have J7:=zH (Ah.of_ext (w:=B8) zb);have I8:=zH (B6.1.trans (Fr.of_ext (Aa.refl B8).drew));refine Rg Af zb (bs 12 7) 0 1 2 _ (.slice (some ⟨g,(j+1)*4,none⟩) d c2) (iV ((i+1:Nat):Int)) ?_;refine zo 3 (bs 12 15) (v:= .pointer (some ⟨g,(j+1)*4+(i+1)*4,none⟩)) zb ?_ (hv:=by intro w B2;exact Eh (k:=i+1) underlying54 (l:=(by have h_:=HLT2.1;omega)) (f:=rfl));refine zg 4 (bs 12 31) g ((j+1)*4+(i+1)*4) (rc e2.a) (Lx (C7.1.elem (f:=Bd.cells) (i:=0) rR Bd.len C5.1)) underlying31 zb ?_;refine Jv Af zb (bs 12 127) 5 6 (.slice (some ⟨g,(j+1)*4,none⟩) d c2) (iV ((i+1:Nat):Int)) ?_;refine zu 7 (bs 12 255) (v:= iV (i:Int)) zb ?_ (hv:=by intro w B2;exact Nx (by have A0:=HI.1;have A3:=A1.1;have B1:=HD.1;have A9:=A8.1;have B0:=A5.1;have B5:=A4.1;have B4:=HLT2.1;omega));refine zo 8 (bs 12 511) (v:= .pointer (some ⟨g,(j+1)*4+i*4,none⟩)) zb ?_ (hv:=by intro w B2;exact Eh (k:=i) underlying54 (l:=(by have h_:=HLT2.1;omega)) (f:=rfl));refine zg 9 (bs 12 1023) g ((j+1)*4+i*4) (rc f2.a) (Lx (C7.1.elem (f:=Bd.cells) (i:=0) rR Bd.len D6.1)) underlying31 zb ?_;have E1:=tD (tD (tD B7 H5) E5) J7;refine mC 10 (bs 12 2047) (Mg L hL Bc _ e2 f2 ⟨(E0.1.dig E1.1),E7.1⟩ ⟨(D9.1.dig E1.1),E6.1⟩ (I8.1.cell HC.1 HB.1)) ?_;rintro e K2 ⟨rfl,hx⟩;have J5:=zH (L3.1.step hx);have L7:=zH (show Ah B8.drew K2 from Ah.of_ext hx);have K9:=zH (I8.1.trans (Fr.of_ext hx));have I6:=zH (zb.trans hx);clear hx;refine⟨.bool false,by rw[decide_eq_false HEQ2.1],I6.1,?_⟩;try simp only[ζ]
    refine zx 11 (bs 12 4095) τ I6.1 ?_;refine wpAnyH_done kR ?_ _;go_upto_region 12 with fail;apply wl;refine Ek Af _ (iV (k:Int)) (.slice (some ⟨g,(j+1)*4,none⟩) d c2) (iV ((i+1:Nat):Int)) ?_;apply zp (.pointer (some ⟨g,(j+1)*4+(i+1)*4,none⟩)) (by exact Eh (k:=i+1) underlying54 (l:=(by have h_:=HLT2.1;omega)) (f:=rfl));refine zd g ((j+1)*4+(i+1)*4) (rc e2.a) (Lx (J5.1.elem (f:=Bd.cells) (i:=0) rR Bd.len C5.1)) underlying31 ?_;apply zp (.pointer (some ⟨g,k*4,none⟩)) (by exact Eh (k:=k) underlying54 (l:=(by have h_:=A1.1;have I5:=HLT2.1;have A7:=HD.1;omega)) (f:=(wH _).symm));refine Qa (f:=Bd.cells) rR _ _ _ rR J5.1 (ix:=0) rR Bd.len k e2 (by have h_:=A1.1;have I5:=HLT2.1;have A7:=HD.1;have F0:=A4.1;omega) (rc e2.a) rR (k*4) rR rR rR kR (by simp[Value.oneCell']) (by simp[Ar]) ?_;intro K5 hh hd ho;have H3:=hN hh;have H9:=zH (hd);have G4:=zH (K9.1.trans_new ho (fun j hj=> .inl hj));clear hh hd ho
    (try simp only[Act.put])
    go_upto_region 13 with fail;apply wl;apply zq (iV (k:Int));apply zp (iV ((k+1:Nat):Int)) (by exact Hr (by have A0:=HI.1;have A3:=A1.1;have B1:=HD.1;have A9:=A8.1;have B0:=A5.1;have B5:=A4.1;have B4:=HLT2.1;omega));apply zq (iV ((k+1:Nat):Int));go_upto_region 10 with fail;apply wl;apply zq (iV ((i+1:Nat):Int));apply zp (iV ((i+2:Nat):Int)) (by exact Hr (by have A0:=HI.1;have A3:=A1.1;have B1:=HD.1;have A9:=A8.1;have B0:=A5.1;have B5:=A4.1;have B4:=HLT2.1;omega));apply zq (iV ((i+2:Nat):Int));have E4:=tD (tD (tD E5 J7) L7) H9;go_wp2_with fail
    go_roundg (d-(i+1))
    case measure=>exact(by have A0:=HI.1;have A3:=A1.1;have B1:=HD.1;have A9:=A8.1;have B0:=A5.1;have B5:=A4.1;have B4:=HLT2.1;have I1:=(show i<d from by have h_:=HLT2.1;omega);omega)
    case rel=>exact⟨i+1,k+1,(ds.set k e2),rfl,(by go_num),(by go_num),HLT2.1,(by have h_:=A1.1;omega),(by rw[wO];exact A4.1),(by rw[show j+1+(i+1+1)=j+1+i+1+1 by omega,D5.1,if_neg (by rw[decide_eq_false HEQ2.1];decide),Ul (by have h_:=A1.1;have I5:=HLT2.1;have A7:=HD.1;have F0:=A4.1;omega)];exact congrArg (· ++[e2]) G6.1),(by rw[List.drop_set_of_lt (by have h_:=A1.1;omega),show j+1+(i+1)=(j+1+i)+1 by omega,<-List.drop_drop,F3.1,List.drop_drop]),G4.1,H3.1,E4.1⟩
   go_upto_region 9 with fail;apply wl;refine Cn Af (iV ((i+1:Nat):Int)) (.slice (some ⟨g,(j+1)*4,none⟩) d c2) (iV (d:Int)) ?_;apply zp φ (by exact Dp (e:=(Aj (by have A0:=HI.1;have A3:=A1.1;have B1:=HD.1;have A9:=A8.1;have B0:=A5.1;have B5:=A4.1;have B4:=HLT2.1;omega))));have F7:i+1=d:=by have h_:=HLT2.1;have A7:=HI.1;omega
   have L2:=zH (show ds.take k=Do (fun x y:Bd=>decide (x.q=y.q)) es from by rw[G6.1,show j+1+(i+1)=es.length by rw[HD.1];omega,wI (Bz _)]);obtain⟨d3,I3⟩:∃d3,es.length=k+d3:=⟨es.length-k,by have h_:=A1.1;have A7:=HD.1;omega⟩;obtain⟨c3,E8⟩:∃c3,cap=k+c3:=⟨cap-k,by have h_:=A1.1;have A7:=HD.1;have F0:=A5.1;omega⟩;have C6:=zH I3;have G8:=zH E8;have I4:0<d3:=by have h_:=A1.1;have A7:=HD.1;omega
   have F4:=zH I4;clear I3 E8 F7 I4;go_upto_region 14 with fail;apply wl;refine Bq Af _ (iV (k:Int)) ?_;apply zp (.slice (some ⟨g,k*4,none⟩) d3 c3) (by exact fD rR underlying54 kR rR rR (by first|rfl|omega) C6.1 F4.1 G8.1 (by have A0:=HI.1;have A3:=A1.1;have B1:=HD.1;have A9:=A8.1;have B0:=A5.1;have B5:=A4.1;have B4:=HLT2.1;have M0:=C6.1;have I1:=G8.1;have L9:=F4.1;omega));refine lO (f:=Bd.cells) rR _ 54 rR C7.1 (ix:=0) rR Bd.len A4.1 k c3 (by have h_:=C6.1;have A7:=F4.1;omega) (by rw[show es.length-k=d3 by have h_:=C6.1;omega];rfl) underlying54 (.agg z4) Tryz.zeroValue31 rfl (by simp[Value.cells,Value.oneCell']) (by simp[Value.cells,Ar]) dC ?_;intro K4 hh hd ho;have H2:=hN hh;have H8:=zH (hd);have G3:=zH (B6.1.trans_new ho (fun j hj=> .inl hj));clear hh hd ho
   (try simp only[Act.put])
   go_upto_region 15 with fail;apply wl;refine Bq Af _ (iV (k:Int)) ?_;apply zp (.slice (π g) k cap) (by exact qF (size:=4) rR underlying54 kR rR rR (by first|rfl|omega) (by have h_:=C6.1;omega) A5.1 (by have h_:=G8.1;have A7:=C6.1;have F0:=A5.1;have M1:=F4.1;omega));refine Cy Af _ ?_;have J2:=zH (H2.1.row (i:=0) (by rfl));have D1:(ds.take k).length=k:=by rw[wK,A4.1,C6.1];omega
   rw[L2.1]at D1 J2;go_wp2_with fail;go_ret;exact⟨_,rfl,by rw[D1];exact J2.1,G3.1.grownBy,((((F5.1.trans J9.1).trans H5.1).trans E5.1).trans H8.1),rfl⟩
  go_upto_region 6 with fail;refine zy ?_;have H1:=zH (C8.1.step (Aa.refl B9).drew);have H7:=zH (Ah.of_ext (w:=B9) zb);have D4:=zH (B6.1.trans (Fr.of_ext (Aa.refl B9).drew));refine Rg Af zb (bs 11 7) 0 1 2 _ _ (iV ((j+1:Nat):Int)) ?_;refine zo 3 (bs 11 15) (v:= .pointer (some ⟨g,(j+1)*4,none⟩)) zb ?_ (hv:=by intro w B2;exact Eh (k:=j+1) underlying54 (l:=(by have h_:=HLT.1;omega)) (f:=(wH _).symm));refine zg 4 (bs 11 31) g ((j+1)*4) (rc e.a) (C8.1.elem (f:=Bd.cells) (i:=0) rR Bd.len F1.1) underlying31 zb ?_;refine Jv Af zb (bs 11 127) 5 6 _ (iV ((j+1:Nat):Int)) ?_;refine zu 7 (bs 11 255) (v:= iV (j:Int)) zb ?_ (hv:=by intro w B2;exact Nx (by have A0:=HK.1;have A3:=HLT.1;omega));refine zo 8 (bs 11 511) (v:= .pointer (some ⟨g,j*4,none⟩)) zb ?_ (hv:=by intro w B2;exact Eh (k:=j) underlying54 (l:=(by have h_:=HLT.1;omega)) (f:=(wH _).symm));refine zg 9 (bs 11 1023) g (j*4) (rc f.a) (C8.1.elem (f:=Bd.cells) (i:=0) rR Bd.len G5.1) underlying31 zb ?_;have B3:=tD F5 H7;refine mC 10 (bs 11 2047) (Mg L hL Bc _ e f ⟨(J4.1.dig B3.1),K1.1⟩ ⟨(J3.1.dig B3.1),K0.1⟩ (D4.1.cell HC.1 HB.1)) ?_;rintro e F6 ⟨rfl,hx⟩;have G9:=zH (H1.1.step hx);have H6:=zH (show Ah B9.drew F6 from Ah.of_ext hx);have G2:=zH (D4.1.trans (Fr.of_ext hx));have G1:=zH (zb.trans hx);clear hx;refine⟨.bool false,by rw[decide_eq_false HEQ.1],G1.1,?_⟩;try simp only[ζ]
  refine wpAnyH_done kR ?_ _;go_upto_region 5 with fail;apply wl;apply zq (iV ((j+1:Nat):Int));apply zp (iV ((j+2:Nat):Int)) (by exact Hr (by have A0:=HK.1;have A3:=HLT.1;omega));apply zq (iV ((j+2:Nat):Int));have E3:=tD B3 H6;go_wp2_with fail
  go_roundg (es.length-(j+1))
  case measure=>exact(by have A0:=HK.1;have A3:=HLT.1;have A9:=(show j<es.length from by have h_:=HLT.1;omega);omega)
  case rel=>exact⟨j+1,rfl,(by go_num),HLT.1,(by rw[J1.1,if_neg (by rw[decide_eq_false HEQ.1];decide),G7.1,List.take_add_one (i:=j+1),F1.1];rfl),G2.1,G9.1,E3.1⟩
 go_upto_region 4 with fail;apply wl;refine Cn Af (iV ((j+1:Nat):Int)) _ (iV ((es.length:Nat):Int)) ?_;apply zp φ (by exact Dp (e:=(Aj (by have A0:=HK.1;have A3:=HLT.1;omega))));go_upto_region 16 with fail;apply wl;refine Bq Af _ _ ?_;have G0:Do (fun x y:Bd=>decide (x.q=y.q)) es=es:=by have h_:=G7.1;rwa[show j+1=es.length by have A7:=HLT.1;have F0:=HK.1;omega,wI (Bz _)]at h_
 go_wp2_with fail;go_ret;exact⟨_,rfl,by rw[G0];exact C8.1.row (i:=0) (by rfl),B6.1.grownBy,F5.1,rfl⟩
end
section
open Go.Shelf Go.RowKit
def Yz:Go.Shelf.Ren:=⟨fun|6=>109|15=>151|14=>150|28=>168|29=>177|20=>169|21=>170|22=>171|23=>172|24=>173|25=>174|26=>175|27=>176|46=>188|47=>189|48=>190|49=>191|50=>192|57=>198|n=>n,fun|22=>54|24=>31|25=>69|3=>3|39=>103|0=>0|53=>96|55=>101|4=>4|46=>168|45=>167|50=>172|5=>5|9=>9|66=>178|70=>182|76=>185|77=>186|n=>n,fun|n=>n⟩
theorem oD:Go.Proofs.SlLaysF0.n6 prog Yz:={
 mixed:=by kernel_rfl
 f6:=⟨Tryz.f109.name,by decide,func109.trans (congrArg some (by kernel_rfl))⟩
 f14:=⟨Tryz.f150.name,by decide,func150.trans (congrArg some (by kernel_rfl))⟩
 f15:=func151.trans (congrArg some (by kernel_rfl))
 f20:=⟨Tryz.f169.name,by decide,func169.trans (congrArg some (by kernel_rfl))⟩
 f21:=⟨Tryz.f170.name,by decide,func170.trans (congrArg some (by kernel_rfl))⟩
 f22:=⟨Tryz.f171.name,by decide,func171.trans (congrArg some (by kernel_rfl))⟩
 f23:=⟨Tryz.f172.name,by decide,func172.trans (congrArg some (by kernel_rfl))⟩
 f24:=⟨Tryz.f173.name,by decide,func173.trans (congrArg some (by kernel_rfl))⟩
 f25:=⟨Tryz.f174.name,by decide,func174.trans (congrArg some (by kernel_rfl))⟩
 f26:=⟨Tryz.f175.name,by decide,func175.trans (congrArg some (by kernel_rfl))⟩
 f27:=⟨Tryz.f176.name,by decide,func176.trans (congrArg some (by kernel_rfl))⟩
 f28:=func168.trans (congrArg some (by kernel_rfl))
 f29:=func177.trans (congrArg some (by kernel_rfl))
 f46:=⟨Tryz.f188.name,by decide,func188.trans (congrArg some (by kernel_rfl))⟩
 f47:=func189.trans (congrArg some (by kernel_rfl))
 f48:=func190.trans (congrArg some (by kernel_rfl))
 f49:=⟨Tryz.f191.name,by decide,func191.trans (congrArg some (by kernel_rfl))⟩
 f50:=⟨Tryz.f192.name,by decide,func192.trans (congrArg some (by kernel_rfl))⟩
 f57:=⟨Tryz.f198.name,by decide,func198.trans (congrArg some (by kernel_rfl))⟩
 t0:=underlying0
 a0:=Tryz.isAgg0
 z0:=Tryz.sizeOf0
 v0:=Tryz.zeroValue0
 t3:=underlying3
 a3:=Tryz.isAgg3
 z3:=Tryz.sizeOf3
 v3:=Tryz.zeroValue3
 t4:=underlying4
 a4:=Tryz.isAgg4
 z4:=Tryz.sizeOf4
 v4:=Tryz.zeroValue4
 t5:=underlying5
 a5:=Tryz.isAgg5
 z5:=Tryz.sizeOf5
 v5:=Tryz.zeroValue5
 t9:=underlying9
 a9:=Tryz.isAgg9
 z9:=Tryz.sizeOf9
 v9:=Tryz.zeroValue9
 t22:=underlying54
 a22:=Tryz.isAgg54
 z22:=Tryz.sizeOf54
 v22:=Tryz.zeroValue54
 t25:=underlying69
 a25:=Tryz.isAgg69
 z25:=Tryz.sizeOf69
 v25:=Tryz.zeroValue69
 t39:=underlying103
 a39:=Tryz.isAgg103
 z39:=Tryz.sizeOf103
 v39:=Tryz.zeroValue103
 t45:=underlying167
 a45:=Tryz.isAgg167
 z45:=Tryz.sizeOf167
 v45:=Tryz.zeroValue167
 t46:=underlying168
 a46:=Tryz.isAgg168
 z46:=Tryz.sizeOf168
 v46:=Tryz.zeroValue168
 t50:=underlying172
 a50:=Tryz.isAgg172
 z50:=Tryz.sizeOf172
 v50:=Tryz.zeroValue172
 t53:=underlying96
 a53:=Tryz.isAgg96
 z53:=Tryz.sizeOf96
 v53:=Tryz.zeroValue96
 t55:=underlying101
 a55:=Tryz.isAgg101
 z55:=Tryz.sizeOf101
 v55:=Tryz.zeroValue101
 t66:=underlying178
 a66:=Tryz.isAgg178
 z66:=Tryz.sizeOf178
 v66:=Tryz.zeroValue178
 t70:=underlying182
 a70:=Tryz.isAgg182
 z70:=Tryz.sizeOf182
 v70:=Tryz.zeroValue182
 t76:=underlying185
 a76:=Tryz.isAgg185
 z76:=Tryz.sizeOf185
 v76:=Tryz.zeroValue185
 t77:=underlying186
 a77:=Tryz.isAgg186
 z77:=Tryz.sizeOf186
 v77:=Tryz.zeroValue186}
theorem bV (L:Nat)(hL:L<=60000)(v:Value)(es:List Bd)(base:Nat)(w:World)(h:Bi w base 31 4 v es.length (es.flatMap Bd.cells))(hok:∀e,e∈es->e.Ok L w)(hn:es.length<=100000000):
  Calls prog 109 #[v,.func (.func 47) #[] #[]] w fun e w'=>e= .returned (.tuple #[])/\
   ∃es':List Bd,es'.Perm es/\es'.Pairwise (fun x y=>x.q<=y.q)/\Bi w' base 31 4 v es'.length (es'.flatMap Bd.cells)/\w.grownBy w' v.ownBlock/\Ah w w':=by
 have hc:=fU oD 4 (by decide) Tryz.isAgg31 Tryz.sizeOf31 Bd.cells Bd.len Bd.one fM (fun w e=>e.Ok L w) (fun h d=>h.dig d) (fun x y=>Di x.q y.q)
  (fun x h=>Rat.not_lt.2 Rat.le_refl (rcmp_lt.1 h)) (fun x y z h1 h2=>rcmp_lt.2 (by have a:=rcmp_lt.1 h1;have b:=rcmp_lt.1 h2;grind))
  (fun x y z h1 h2 h3=>by have k1:=Rat.not_lt.1 (fun h=>h1 (rcmp_lt.2 h));have k2:=Rat.not_lt.1 (fun h=>h2 (rcmp_lt.2 h));exact Rat.not_lt.2 (Rat.le_trans k2 k1) (rcmp_lt.1 h3))
  47 (enters_of func47 (by kernel_rfl) rfl)
  (fun w x y hx hy=>(Ig (L:=60000) (RV.Is.nin hx.1 (Aw hx.2 hL)) (RV.Is.nin hy.1 (Aw hy.2 hL)) ω:Calls _ _ _ _ _)) v es base 31 w h hok (ω)
 refine hc.mono ?_;rintro e w' ⟨rfl,es',h1,h2,h3⟩;exact⟨rfl,es',h1,h2.imp (fun h=>Rat.not_lt.1 (fun k=>h (rcmp_lt.2 k))),h3⟩
end
section
attribute [local go_sem ↓] Go.wp_at_zero Go.wp_at_succ Az Ay
theorem cH (L:Nat)(hL:L<=60000)(v:Value)(es:List Bd)(base:Nat)(w:World)(h:Bi w base 31 4 v es.length (es.flatMap Bd.cells))(hbase:base<=w.heap.size)(hok:∀e,e∈es->e.Ok L w)(hn:es.length<=100000000):
  Calls prog 62 #[v,.func (.func 47) #[] #[]] w fun x w'=>∃(v':Value) (es':List Bd),x= .returned v'/\Bi w' base 31 4 v' es'.length (es'.flatMap Bd.cells)/\w.grownBy w' v.ownBlock/\Ah w w'/\v'.ownBlock=v.ownBlock/\
   (es'.map Bd.q).Pairwise (· < ·)/\(∀x,x∈es'.map Bd.q↔x∈es.map Bd.q)/\(∀e,e∈es'->e∈es):=by
 obtain⟨w0,A6,rfl⟩:=qW w base hbase;obtain⟨A,c,rfl,_⟩:=Bi.form h;have A9:=zH hok;have H0:=zH (Hp.one A6 h);have C1:=zH (show Fr (fun kz=>Value.ownBlock (.slice A es.length c)=some kz) w w from Fr.of_ext (Aa.refl w));clear h A6 hok;go_enter func62,ntmps62
 go_upto_region 0 with fail;apply wl;apply aA 69 [.func (.func 47) #[] #[]] H0.1;intro X1 w2 H4 hx B4;have D4:=zH (Ah.of_ext hx);have K6:=zH (C1.1.trans (Fr.of_ext hx));clear hx B4;refine Cy Af _ ?_;go_upto_region 1 with fail
 apply wl;refine Bq H4.1 _ _ ?_;refine zc (bV L hL (.slice A es.length c) es _ _ (H4.1.row (i:=0) rR) (fun e he=>(A9.1 e he).dig D4.1) hn) ?_;rintro e B1 ⟨rfl,A1,A4,A7,A3,A5,A8⟩;have A0:=zH A4;have C0:=zH A7;rw[A4.length_eq]at A3;have hh:=H4.1.turn (i:=0) (e:= .row 31 4 (.slice A es.length c) es.length (es.flatMap Bd.cells)) (e':= .row 31 4 (.slice A es.length c) es.length (A1.flatMap Bd.cells)) (by rfl) (fun k h=>h) A5 A3 (fun k hk=> .inl hk);have A2:=hN hh;have B0:=zH (show Ah w2 B1 from A8);have B9:=zH (K6.1.trans_new A5 (fun j hj=> .inl hj));have hx:=True.intro;clear hh A3 A5 A8 A4 A7 hx;refine zn ?_;go_upto_region 2 with fail
 apply wl;refine Bq Af _ _ ?_;refine zc (jB L hL X1 (.slice A es.length c) A1 _ _ (by rw[A0.1.length_eq];exact A2.1.row (i:=0) rR) A2.1.ext.size (fun e he=>(A9.1 e (A0.1.mem_iff.1 he)).dig (D4.1.trans B0.1)) (A2.1.cell (i:=1) rR 0 rR) (A2.1.offRow (i:=1) (j:=0) rR rR dC rR) (by rw[A0.1.length_eq];exact hn)) ?_;rintro e C2 ⟨v2,rfl,B3,B5,B6,B7⟩;have B8:=zH (B9.1.trans_new B5 (fun j hj=> .inl hj));have hx:=True.intro;clear hx;refine zn ?_;refine zq (v2) ?_;go_wp2_with fail
 go_ret;have B2:(Do (fun x y:Bd=>decide (x.q=y.q)) A1).Pairwise (fun x y=>x.q<y.q):=Re (le:=fun x y=>x.q<=y.q) (fun a b c h1 h2=>by grind) (fun x y h1 h2=>by have h3:=of_decide_eq_false h2;grind) (fun x y h1 z h2=>by have h3:=of_decide_eq_true h1;grind) C0.1;refine⟨_,Do (fun x y:Bd=>decide (x.q=y.q)) A1,rfl,B3,B8.1.grownBy,(D4.1.trans B0.1).trans B6,B7,?_,fun x=>⟨fun hx=> ?_,fun hx=> ?_⟩,fun e he=>A0.1.mem_iff.1 (Pk _ he)⟩
 ·rw[List.pairwise_map];exact B2
 ·obtain⟨e,he,rfl⟩:=List.mem_map.1 hx
  exact List.mem_map_of_mem (A0.1.mem_iff.1 (Pk _ he))
 obtain⟨e,he,rfl⟩:=List.mem_map.1 hx;obtain⟨f,hf,h2⟩:=Ye (eqv:=(fun x y:Bd=>decide (x.q=y.q))) (key:=Bd.q) (fun x y h=>of_decide_eq_true h) (A0.1.mem_iff.2 he);exact List.mem_map.2 ⟨f,hf,h2⟩
def Yk (L:Nat)(y lo hi:Rat)(Bo:Nat)(A:Option Addr)(n c:Nat)(es:List Bd)(w0 w w':World):Prop:=
  ∃ (A':Option Addr) (c' n':Nat) (es':List Bd),Hp w0 w' [.blk Bo 54 [.slice A' n' c'],.row 31 4 (.slice A' n' c') n' (List.flatMap Bd.cells es')]/\Ah w w'/\Fr (fun kz=>kz=Bo\/Value.ownBlock (.slice A n c)=some kz) w w'/\
    (∀k,Value.ownBlock (.slice A' n' c')=some k->Value.ownBlock (.slice A n c)=some k\/w.heap.size<=k)/\es'.map Bd.q=es.map Bd.q++(if lo<y/\y<hi then[y]else[])/\n'=es'.length/\n'<=n+1/\∀e,e∈es'->e.Ok L w'
theorem Xo (L:Nat)(hL:L<=60000)(ry rl rh:RV)(y lo hi:Rat)(Xl Xh Bo:Nat)(A:Option Addr)(n c:Nat)(es:List Bd)(w0 w:World)(hh:Hp w0 w [.blk Bo 54 [.slice A n c],.row 31 4 (.slice A n c) n (List.flatMap Bd.cells es)])
  (hy:ry.Is w y)(h1:Nm.rl y<=L)(hl:rl.Is w lo)(hh2:rh.Is w hi)(hl2:Nm.rl lo<=L)(hh3:Nm.rl hi<=L)(hrl:w.rangeAt Xl 0 (rc rl))(hrh:w.rangeAt Xh 0 (rc rh))
  (hnl:¬(Xl=Bo\/Value.ownBlock (.slice A n c)=some Xl))(hnh:¬(Xh=Bo\/Value.ownBlock (.slice A n c)=some Xh))(hn:n=es.length)(hn2:n<=90000000)(hok:∀e,e∈es->e.Ok L w):
  Calls prog 58 #[(rg ry),.pointer (π Xl),.pointer (π Xh),.pointer (π Bo)] w fun e w'=>e= .returned (.tuple #[])/\Yk L y lo hi Bo A n c es w0 w w':=by
 have RY:=zH hy;have BY:=zH h1;have RL:=zH hl;have RH:=zH hh2;have BL:=zH hl2;have BH:=zH hh3;have GL:=zH hrl;have GH:=zH hrh;have NL:=zH hnl;have NH:=zH hnh;have HN:=zH hn;have A4:=zH hok;have H0:=zH hh;have B6:=zH hn2;clear hy h1 hl hh2 hl2 hh3 hrl hrh hnl hnh hn hn2 hok hh;have D0:=zH (show Fr (fun kz=>kz=Bo\/Value.ownBlock (.slice A n c)=some kz) w w from Fr.of_ext (Aa.refl w));go_enter func58,ntmps58
 go_upto_region 0 with fail;apply wl;apply aA 31 (rc ry) H0.1;intro X1 w2 H4 hx C5;have D4:=zH (Ah.of_ext hx);have K6:=zH (D0.1.trans (Fr.of_ext hx));clear hx C5;rcases Ck (lo<y/\y<hi)with CL|CL
 ·go_upto_region 1 with fail
  apply wl;refine zd Xl (0) (rc rl) (K6.1.range GL.1 NL.1) underlying31 ?_;refine Cy H4.1 _ ?_;refine zc (Ig (L:=60000) (RV.Is.nin (RL.1.dig D4.1) (Aw BL.1 ω)) (RV.Is.nin (RY.1.dig D4.1) (Aw BY.1 ω)) ω) ?_;rintro e w9 ⟨rfl,hx⟩;have B9:=zH (H4.1.step hx);have B1:=zH (Ah.of_ext hx);have B5:=zH (K6.1.trans (Fr.of_ext hx));clear hx;refine zn ?_;apply zp τ (by exact Dp (e:=(Aq (rcmp_lt.2 CL.1.1))));refine Bq B9.1 τ _ ?_;refine zd Xh (0) (rc rh) (B5.1.range GH.1 NH.1) underlying31 ?_;have A0:=tD D4 B1;refine zc (Ig (L:=60000) (RV.Is.nin (RY.1.dig A0.1) (Aw BY.1 ω)) (RV.Is.nin (RH.1.dig A0.1) (Aw BH.1 ω)) ω) ?_;rintro e B2 ⟨rfl,hx⟩;have B8:=zH (B9.1.step hx);have B0:=zH (Ah.of_ext hx);have B4:=zH (B5.1.trans (Fr.of_ext hx));clear hx;refine zn ?_;apply zp τ (by exact Dp (e:=(Aq (rcmp_lt.2 CL.1.2))));apply zq τ;go_upto_region 2 with fail
  apply wl;refine Bq B8.1 _ _ ?_;refine zp (w':=(B2.alloc (.cells ((rc ry):List Value).toArray 31))) (.slice (π B2.heap.size) 1 1) (by go_simp) ?_;refine Hn rR _ _ _ rR Ld rR B8.1 (ix:=1) rR 1 1 (rc ry) rR rfl (by simp[Value.oneCell']) (by simp[Ar]) dC (by unfold maxLen;exact(by have C4:=B6.1;omega)) (by have C4:=B6.1;omega) ?_;intro A3 A1 C3 hf hh hd hg;have A5:=zH hf;clear hf;rw[show List.flatMap Bd.cells es++(rc ry)=_ from Ds Bd.cells _ (⟨ry,y⟩:Bd)]at hh;have D5:=hN hh;have A9:=zH (hd);have C9:=zH (show Fr (fun kz=>kz=Bo\/Value.ownBlock (.slice A n c)=some kz) w C3 from(B4.1.trans (Fr.of_ext (Ak.alloc _))).trans_new hg (fun j hj=> .inl (.inr hj)));clear hh hd hg;try simp only[ζ]
  apply aU 0 (.slice (π A3) (n+1) A1) D5.1;intro D9 D3 hd ho;have A8:=zH (hd);have C8:=zH (C9.1.trans_new ho (fun j hj=> .inl (.inl (by injection hj with hj;exact hj.symm))));clear hd ho;have A6:=tD (tD (tD A0 B0) A9) A8;go_wp2_with fail
  first|refine bodyPost_end (v:= .tuple #[]) (results_none rfl _ _ _) rfl ?_|refine bodyPost_ret (v:= .tuple #[]) (results_none rfl _ _ _) rfl ?_
  exact⟨rfl,some ⟨A3,0,none⟩,A1,n+1,es++[(⟨ry,y⟩:Bd)],D3.1.take 2,((((D4.1.trans B1.1).trans B0.1).trans A9.1).trans A8.1),C8.1,(fun k_ hk_=>by have e_:A3=k_:=(by simpa[Value.ownBlock]using hk_);subst e_;exact A5.1.imp id (fun h_=>Aw B4.1.size h_)),(by rw[xI,if_pos CL.1];rfl),(by rw[wD,<-HN.1];rfl),Bz _,(fun g_ hg_=>(List.mem_append.1 hg_).elim (fun hg_=>(A4.1 g_ hg_).dig ((((D4.1.trans B1.1).trans B0.1).trans A9.1).trans A8.1)) (fun hg_=>by rw[List.mem_singleton.1 hg_];exact⟨(RY.1.dig A6.1),BY.1⟩))⟩
 rcases Ck (lo<y)with C1|C1
 ·go_upto_region 1 with fail
  apply wl;refine zd Xl (0) (rc rl) (K6.1.range GL.1 NL.1) underlying31 ?_;refine Cy H4.1 _ ?_;refine zc (Ig (L:=60000) (RV.Is.nin (RL.1.dig D4.1) (Aw BL.1 ω)) (RV.Is.nin (RY.1.dig D4.1) (Aw BY.1 ω)) ω) ?_;rintro e D8 ⟨rfl,hx⟩;have B7:=zH (H4.1.step hx);have A7:=zH (Ah.of_ext hx);have B3:=zH (K6.1.trans (Fr.of_ext hx));clear hx;refine zn ?_;apply zp τ (by exact Dp (e:=(Aq (rcmp_lt.2 C1.1))));refine Bq B7.1 τ _ ?_;refine zd Xh (0) (rc rh) (B3.1.range GH.1 NH.1) underlying31 ?_;have A2:=tD D4 A7;refine zc (Ig (L:=60000) (RV.Is.nin (RY.1.dig A2.1) (Aw BY.1 ω)) (RV.Is.nin (RH.1.dig A2.1) (Aw BH.1 ω)) ω) ?_;rintro e D7 ⟨rfl,hx⟩;have D2:=zH (B7.1.step hx);have C2:=zH (Ah.of_ext hx);have C7:=zH (B3.1.trans (Fr.of_ext hx));clear hx;refine zn ?_;apply zp φ (by exact Dp (e:=(Aj (fun hh=>(fun h_=>CL.1 ⟨C1.1,h_⟩) (rcmp_lt.1 hh)))));apply zq φ;go_wp2_with fail
  first|refine bodyPost_end (v:= .tuple #[]) (results_none rfl _ _ _) rfl ?_|refine bodyPost_ret (v:= .tuple #[]) (results_none rfl _ _ _) rfl ?_
  exact⟨rfl,A,c,n,es,D2.1.take 2,((D4.1.trans A7.1).trans C2.1),C7.1,(fun k_ hk_=> .inl hk_),(by rw[if_neg CL.1,xD]),HN.1,Nat.le_succ _,(fun g_ hg_=>(A4.1 g_ hg_).dig ((D4.1.trans A7.1).trans C2.1))⟩
 go_upto_region 1 with fail;apply wl;refine zd Xl (0) (rc rl) (K6.1.range GL.1 NL.1) underlying31 ?_;refine Cy H4.1 _ ?_;refine zc (Ig (L:=60000) (RV.Is.nin (RL.1.dig D4.1) (Aw BL.1 ω)) (RV.Is.nin (RY.1.dig D4.1) (Aw BY.1 ω)) ω) ?_;rintro e D6 ⟨rfl,hx⟩;have D1:=zH (H4.1.step hx);have C0:=zH (Ah.of_ext hx);have C6:=zH (K6.1.trans (Fr.of_ext hx));clear hx;refine zn ?_;apply zp φ (by exact Dp (e:=(Aj (fun hh=>C1.1 (rcmp_lt.1 hh)))));refine dR Af φ _ _ _ _ φ ?_;go_wp2_with fail
 first|refine bodyPost_end (v:= .tuple #[]) (results_none rfl _ _ _) rfl ?_|refine bodyPost_ret (v:= .tuple #[]) (results_none rfl _ _ _) rfl ?_
 exact⟨rfl,A,c,n,es,D1.1.take 2,(D4.1.trans C0.1),C6.1,(fun k_ hk_=> .inl hk_),(by rw[if_neg CL.1,xD]),HN.1,Nat.le_succ _,(fun g_ hg_=>(A4.1 g_ hg_).dig (D4.1.trans C0.1))⟩
end
section
theorem Sv {w:World}{g o:Nat}{r:Bb}{k:Nat}{p:Int×Int}(h:Ug w g o r)(hp:r[k]?=some p):w.rangeAt g (o+k*2) [iV p.1,iV p.2]:=by
  obtain⟨hk,rfl⟩:=List.getElem?_eq_some_iff.1 hp;have h2:=h k hk;intro j v hj;match j,hj with
  |0,hj=>simp at hj;subst hj;have h3:=h2.1;simpa[wF,hk]using h3
  |1,hj=>simp at hj;subst hj;have h3:=h2.2;simpa[wF,hk,Nat.add_assoc]using h3
  |j+2,hj=>simp at hj
theorem sP {rs:List Bb}{r:Bb}(h:Hh rs=true)(hr:r∈rs):Dd r=true:=by
  unfold Hh at h;rw[xA]at h;exact List.all_eq_true.1 h.2 r hr
theorem Xt {rs:List Bb}{r:Bb}{i k:Nat}{p:Int×Int}(h:Hh rs=true)(hr:rs[i]?=some r)(hp:r[k]?=some p):Dy p:=by
  have h2:=sP h (wE hr);unfold Dd at h2;exact List.all_eq_true.1 h2 p (wE hp)
theorem mN {a b:Int×Int}{rs:List Bb}{r:Bb}{i:Nat}(h:rs[i]?=some r):rG a b (rs.take (i+1))=rG a b (rs.take i)++r.flatMap (fun p=>bF a.2 b.2 (p.2:Rat)):=by
  unfold rG;rw[List.take_add_one,h,List.flatMap_append];simp
theorem Hp.litRow17 {w0 w:World}{m:List Dl}{i X n size:Nat}{t:TypeId}{cs:List Value}(h:Hp w0 w m)(hi:m[i]?=some (.blk X t cs))(hl:cs.length=n*size)(hn:n<=maxLen):Bi w w0.heap.size t size (.slice (π X) n n) n cs:=
  ⟨hl,.inr ⟨X,n,[],rfl,h.ge hi rfl,by rw[xD];exact h.blk hi,Bz _,hn,by simp[hl],by rw[xD];exact h.noU hi⟩⟩
theorem Ah.keptQ {w w':World}{r:Option Nat}(hg:w.grownBy w' r)(hr:∀k,r=some k->∃o:Obj,w.heap[k]?=some o/\o.isCells=false):Ah w w':=by
 intro v xs h;obtain⟨p,A1,rfl,hc,hd,hp⟩:=h;refine⟨p,A1,rfl,hc,hd,fun h0=> ?_⟩;obtain⟨b,o,rfl,hb⟩:=hp h0;refine⟨b,o,rfl,fun i hi=> ?_⟩;have h1:=hb i hi;have A0:¬(some b=r):=fun e=>by
  obtain⟨ob,h2,h3⟩:=hr b e.symm;cases ob with
  |cells cs t fz=>cases h3
  |_=>simp[World.cell?,h2]at h1
 rw[World.cell?_of_block (hg.block b (World.block_lt_of_cell? w ⟨b,o+i,none⟩ h1) A0)];exact h1
theorem Hp.keptQ {w0 w w':World}{m:List Dl}{r:Option Nat}(h:Hp w0 w m)(hg:w.grownBy w' r)(hr:∀k,r=some k->w0.heap.size<=k/\∃o:Obj,w.heap[k]?=some o/\o.isCells=false):Hp w0 w' m:=by
 refine⟨h.ext.grown hg (fun k hk=>(hr k hk).1),fun i e he=>(h.all i e he).kept hg (fun k hk hrk=> ?_),h.apart⟩;obtain⟨o,h2,h3⟩:=(hr k hrk).2;cases e with
 |blk g t cs=>
  injection hk with hk
  subst hk;have:=h.blk he;unfold Al at this;rw[h2]at this;injection this with this
  rw[this]at h3;cases h3
 |row t size v n xs=>
  obtain⟨h4,⟨rfl,_⟩|⟨g,A0,rest,rfl,a,hb,c⟩⟩:=h.row he
  ·simp[Dl.own,Value.ownBlock]at hk
  have hk:g=k:=by simpa[Dl.own,Value.ownBlock]using hk
  subst hk;unfold Al at hb;rw[h2]at hb;injection hb with hb
  rw[hb]at h3;cases h3
theorem lV {w0 w:World}{m:List Dl}{i X:Nat}{t:TypeId}{p q:Int}(h:Hp w0 w m)(hi:m[i]?=some (.blk X t [iV p,iV q]))(k:Nat)(hk:k<2):w.rangeAt X k [iV (if k=0 then p else q)]:=by
  have:k=0\/k=1:=ω;rcases this with rfl|rfl
  · exact h.range hi 0 1
  exact h.range hi 1 1
theorem Le.yes {C:Prop}{q:Rat}{w w':World}{e:Ending}(h:Le C q w e w')(hc:C):∃r:RV,e= .returned (.tuple #[(rg r),.bool true])/\r.Is w' q/\Aa w w':=by
  obtain⟨⟨r,_,h1,h2⟩|⟨h1,_⟩,hx⟩:=h
  · exact⟨r,h1,h2,hx⟩
  exact absurd hc h1
theorem Le.no {C:Prop}{q:Rat}{w w':World}{e:Ending}(h:Le C q w e w')(hc:¬C):e= .returned (.tuple #[.agg z4,.bool false])/\Aa w w':=by
  obtain⟨⟨r,h0,h1,h2⟩|⟨_,h1⟩,hx⟩:=h
  · exact absurd h0 hc
  exact⟨h1,hx⟩
theorem Iz.yes {a b c d:Int×Int}{w w':World}{e:Ending}(h:Iz a b c d w e w')(hc:Db a b c d=1):∃r s:RV,e= .returned (.tuple #[(rg r),(rg s),iV 1])/\r.Is w' (Rc a b c d)/\s.Is w' (Jm a b c d)/\Aa w w':=by
  obtain⟨⟨r,s,_,h1,h2,h3⟩|⟨h1,_⟩,hx⟩:=h
  · exact⟨r,s,h1,h2,h3,hx⟩
  exact absurd hc h1
theorem Iz.no {a b c d:Int×Int}{w w':World}{e:Ending}(h:Iz a b c d w e w')(hc:¬Db a b c d=1):e= .returned (.tuple #[.agg z4,.agg z4,iV (Db a b c d)])/\Aa w w':=by
  obtain⟨⟨r,s,h0,h1,h2,h3⟩|⟨_,h1⟩,hx⟩:=h
  · exact absurd h0 hc
  exact⟨h1,hx⟩
theorem jM {e:Df}{x:Int}(h:Ru e.1 e.2 x):Mv e x=[Mu e.1 e.2 x]:=if_pos h
theorem nT {e:Df}{x:Int}(h:¬Ru e.1 e.2 x):Mv e x=[]:=if_neg h
theorem kH {o e:Df}(h:Db o.1 o.2 e.1 e.2=1):Km o e=[Jm o.1 o.2 e.1 e.2]:=if_pos h
theorem oI {o e:Df}(h:¬Db o.1 o.2 e.1 e.2=1):Km o e=[]:=if_neg h
def fN (a b:Int×Int)(e:Df)(k:Nat):List Rat:=(if 1<=k then(Mv e a.1).flatMap (bF a.2 b.2)else[])++(if 2<=k then(Mv e b.1).flatMap (bF a.2 b.2)else[])
theorem Ur (a b:Int×Int)(e:Df)(k:Nat)(hk:k<2):fN a b e (k+1)=fN a b e k++(Mv e (if k=0 then a.1 else b.1)).flatMap (bF a.2 b.2):=by
  have:k=0\/k=1:=ω;rcases this with rfl|rfl<;>simp[fN]
theorem Fr.trans_fr {G G':Nat->Prop}{a b c:World}(h:Fr G a b)(k:Fr G' b c)(hG:∀j,G' j->G j\/a.heap.size<=j):Fr G a c:=
  ⟨k.os.trans h.os,k.tape.trans h.tape,k.output.trans h.output,Aw h.size k.size,fun i hi hn=>(k.block i (xG hi h.size) (fun g=>(hG i g).elim hn (fun h2=>ω))).trans (h.block i hi hn)⟩
theorem Hp.addTyp3 {w0 w:World}{m:List Dl}{X Y B:Nat}{T:TypeId}{zs us:List Value}(h:Hp w0 w m)(B1:Al w X T zs.toArray)(B2:Al w Y T us.toArray)(hne:X≠Y)(hB:w0.heap.size<=B)(z1:B<=X)(z2:B<=Y)(n1:Ar zs)(n2:Ar us)
  (ht:∀e,e∈m->e.typ≠T\/∀k,e.own=some k->k<B):Hp w0 w (m++[.blk X T zs]++[.blk Y T us]):=by
 have h1:Hp w0 w (m++[.blk X T zs]):=h.add ⟨Aw hB z1,B1,n1⟩ (fun i f hf k hk e=>by
  injection e with e
  subst e;rcases ht f (wE hf)with h2|h2
  ·exact h2 (h.typ hf B1 hk)
  have:=h2 _ hk;omega)
 refine h1.add ⟨Aw hB z2,B2,n2⟩ (fun i f hf k hk e=> ?_);injection e with e
 subst e;rcases List.mem_append.1 (wE hf)with hm|hm
 ·obtain⟨j,hj⟩:=List.mem_iff_getElem?.1 hm
  rcases ht f hm with h2|h2
  ·exact h2 (h.typ hj B2 hk)
  have:=h2 _ hk;omega
 simp at hm;subst hm;injection hk with hk
 exact hne hk
def Qi (F:Fence)(n:Nat)(P:Program)(fn:Func)(R:Ending->World->Prop):Exit->Act->World->Prop
  | .normal,a,w| .ret,a,w=>LeavesInM F n P fn a.tmps R a.defers .returning w
  |_,_,_=>False
theorem Qi.m {F:Fence}{n:Nat}{P:Program}{fn:Func}{R:Ending->World->Prop}:∀e a w,Qi F n P fn R e a w->bodyPostM F n P fn R e a w:=by
  intro e a w h;cases e<;>first|exact h|exact h.elim
end
section
attribute [local go_sem ↓] Go.wp_at_zero Go.wp_at_succ Az Ay
structure vX where
  a:Int×Int
  b:Int×Int
  r:Nat
  i:Nat
  n:Nat
def vI (e:vX)(p:Rat×Rat):Prop:=(((e.b.1-e.a.1):Int):Rat)*(p.2-(((e.a.2):Int):Rat))=(((e.b.2-e.a.2):Int):Rat)*(p.1-(((e.a.1):Int):Rat))/\(((0):Int):Rat)<=(((e.b.1-e.a.1):Int):Rat)*(p.1-(((e.a.1):Int):Rat))+(((e.b.2-e.a.2):Int):Rat)*(p.2-(((e.a.2):Int):Rat))/\(((e.b.1-e.a.1):Int):Rat)*(p.1-(((e.a.1):Int):Rat))+(((e.b.2-e.a.2):Int):Rat)*(p.2-(((e.a.2):Int):Rat))<=(((e.b.1-e.a.1):Int):Rat)*(((e.b.1-e.a.1):Int):Rat)+(((e.b.2-e.a.2):Int):Rat)*(((e.b.2-e.a.2):Int):Rat)
instance uK (e:vX) (p:Rat×Rat):Decidable (vI e p):=inferInstanceAs (Decidable (_/\_))
end
section
def rW (a b:Int×Int):Rat:=((1:Int):Rat)/((b.2-a.2:Int):Rat)*((b.1-a.1:Int):Rat)
theorem jP (a b:Int×Int)(y:Rat):Ia a.1 a.2 b.1 b.2 y=rW a b*y+((a.1:Rat)-(a.2:Rat)*rW a b):=by
  unfold Ia rW;generalize ((1:Int):Rat)/((b.2-a.2:Int):Rat)=i;generalize ((b.1-a.1:Int):Rat)=u;grind
end
section
attribute [local go_sem ↓] Go.wp_at_zero Go.wp_at_succ
def Gr (n rule:Int):Bool:=(decide (rule=1)&&decide (n≠0))||(decide (rule=2)&&decide (n%2≠0))
theorem Yv (n:Int):n.tmod 2=0↔n%2=0:=by
  rw[<-Int.dvd_iff_tmod_eq_zero,<-Int.dvd_iff_emod_eq_zero]
theorem Ve (n rule:Int)(b:Bool)(w:World)(h:Gr n rule=b)(hn: -1000000<=n/\n<=1000000):
    Calls prog 118 #[iV n,iV rule] w fun e w'=>e= .returned (.bool b)/\Aa w w':=by
  have ht: -1<=n.tmod 2/\n.tmod 2<=1:=by
    rw[Int.tmod_eq_emod];rw[show(2:Int).natAbs=2 from rfl];split<;>rename_i hk
    · omega
    have:n%2≠0:=fun k=>hk (Or.inr (Int.dvd_of_emod_eq_zero k))
    omega
  have wt:IntKind.i64.wrap (n.tmod 2)=n.tmod 2:=by rw[IntKind.wrap_i64];omega
  by_cases h1:rule=1
  · subst h1
    by_cases h2:n=0
    · have hb:b=false:=by rw[<-h];unfold Gr;simp[h2]
      subst hb;subst h2;clear h;go_enter func118,ntmps118;go_wp2_with fail;go_ret;exact⟨rfl,Aa.refl _⟩
    have hb:b=true:=by rw[<-h];unfold Gr;simp[h2]
    subst hb;clear h;go_enter func118,ntmps118;go_wp2_with fail;go_ret;exact⟨by simp,Aa.refl _⟩
  by_cases h3:rule=2
  · subst h3
    by_cases h4:n.tmod 2=0
    · have h5:=(Yv n).1 h4
      have hb:b=false:=by rw[<-h];unfold Gr;simp[h5]
      subst hb;clear h;go_enter func118,ntmps118;go_wp2_with fail;go_ret;exact⟨by simp,Aa.refl _⟩
    have h5:n%2≠0:=fun k=>h4 ((Yv n).2 k)
    have hb:b=true:=by rw[<-h];unfold Gr;simp[h5]
    subst hb;clear h;go_enter func118,ntmps118;go_wp2_with fail;go_ret;exact⟨by simp[h4],Aa.refl _⟩
  have hb:b=false:=by rw[<-h];unfold Gr;simp[h1,h3]
  subst hb;clear h;go_enter func118,ntmps118;go_wp2_with fail;go_ret;exact⟨by simp,Aa.refl _⟩
end
section
def Nh:Int->List QI->List (QQ×Int)
  |s,a::b::t=>((a.1,b.1),s+a.2)::Nh (s+a.2) (b::t)
  |_,[_]=>[]
  |_,[]=>[]
def eF (rule:Int)(l:List (QQ×Int)):List QQ:=(l.filter fun r=>Gr r.2 rule).map fun r=>r.1
def Jl (rule:Int)(ms:List QI):List QQ:=Eg (eF rule (Nh 0 ms))
theorem oH (rule:Int)(l m:List (QQ×Int)):eF rule (l++m)=eF rule l++eF rule m:=by unfold eF;simp
theorem oF (rule:Int)(r:QQ×Int):eF rule [r]=if Gr r.2 rule=true then[r.1]else[]:=by
  unfold eF;by_cases h:Gr r.2 rule=true<;>simp[h]
end
section
attribute [local go_sem ↓] Go.wp_at_zero Go.wp_at_succ Az Ay
theorem Zf (L:Nat)(u:Value)(ps:List QQ)(w:World)(hu:Hs L w u ps)(h1L:1<=L)(hL:L<=60000)(hn:ps.length<=20000):
  Calls prog 158 #[u] w fun e w'=>∃v es,e= .returned v/\Hf L w' w.heap.size v es/\es.map Bv.vl=Dk ps/\es.length<=ps.length/\Aa w w':=by
 have HU:=zH hu;have I2:=zH h1L;obtain⟨Au,cu,rfl,_⟩:=hu;obtain⟨i0,hi,G7,G6,G5⟩:=info_parts cW;have HI:=zH (And.intro hi (And.intro G7 (And.intro G6 G5)));clear hi G7 G6 G5;go_enter func158,ntmps158
 go_wp2_with fail;go_loopg [3,4] ps.length (fun c v i wr=>∃(k:Nat) (es:List Bv) (v2:Value),k<=ps.length/\c=ps.length-k/\i= iV k/\v2=v/\Hf L wr w.heap.size v2 es/\es.map Bv.vl=Dk (ps.take k)/\es.length<=k/\Aa w wr)
 case atStart=>exact⟨0,[],_,wM _,rfl,rfl,rfl,⟨Bi.empty w w.heap.size 73 8 (Bz _),by simp⟩,rfl,Bz _,Ak.alloc _⟩
 obtain⟨k,es,v,hk,rfl,rfl,rfl,C5,H3,J2,hx⟩:=hrel;have A5:=zH C5;have A9:=zH (And.intro H3 J2);have HX:=zH hx;clear C5 H3 hx;by_cases hlt:k<ps.length
 ·have J0:(k:Int)<(ps.length:Int):=ω
  obtain⟨p,hp⟩:∃p,ps[k]?=some p:=⟨_,wC hlt⟩;obtain⟨g,E2,c9,f,I5,hr,H2,H1⟩:=(HU.1.ext HX.1).at hp;injection I5 with hv1 E7 hv3
  subst hv1;have F5:=zH (Yy hp);have F9:=zH (Ko (a:=(rc f.a)) (b:=(rc f.b)) hr);have F8:=zH (Ll (a:=(rc f.a)) (b:=(rc f.b)) (n:=4) hr rfl);have G1:=zH H2;have G0:=zH H1;have C4:=zH hlt;have A6:=zH (show v.ownBlock≠some g from fun h=>by have h1:=A5.1.1.block g h;obtain⟨g2,I4,c2,f2,E7,I8,_⟩:=HU.1.at hp;injection E7 with k1 _ _;injection k1 with k1;injection k1 with k1;have h2:=Zp (v:= .bool f2.a.n) (j:=0) I8 rfl;omega);clear hr H2 H1 hp hlt E7 hv3;go_upto_region 5 with fail
  refine wp_region_held_drew (S:=fun x=>Aa wr x) (by kernel_rfl) Ak.drew (fun _=> ?_);refine zv 0 (bs 12 1) (Aa.refl wr).drew ?_;refine zv 1 (bs 12 3) (Aa.refl wr).drew ?_;refine zv 2 (bs 12 7) (Aa.refl wr).drew ?_;refine mV 3 (bs 12 15) (Aa.refl wr).drew ?_;refine zr 4 (bs 12 31) g (E2+k*8) (rc f.a) (fun wX hwX=>Be F9.1 hwX) underlying31 (Aa.refl wr).drew ?_;refine zv 5 (bs 12 63) (Aa.refl wr).drew ?_;refine zv 6 (bs 12 127) (Aa.refl wr).drew ?_;refine zv 7 (bs 12 255) (Aa.refl wr).drew ?_;refine mV 8 (bs 12 511) (Aa.refl wr).drew ?_;refine zr 9 (bs 12 1023) g (E2+k*8+4) (rc f.b) (fun wX hwX=>Be F8.1 hwX) underlying31 (Aa.refl wr).drew ?_;refine mC 10 (bs 12 2047) (Dn L _ _ p.1 p.2 _ (Ee.ofa (G1.1.ext Ak.drew)) (Ee.ofb' (G0.1.ext Ak.drew)) hL) ?_;rintro e w5 ⟨rfl,hx⟩;have A0:=zH (show Aa wr w5 from((Aa.refl wr).drew).trans hx);clear hx;refine⟨_,rfl,A0.1,?_⟩;try simp only[ζ]
  have E4:=A0;have D9:=zH (Be F9.1 A0.1);have D8:=zH (Be F8.1 A0.1);have C2:=zH (G1.1.ext A0.1);have C1:=zH (G0.1.ext A0.1);have A7:=zH (HX.1.trans A0.1);have A3:=zH (A5.1.ext A0.1);clear F9 F8 G1 G0 HX A5;by_cases hpq:p.1<p.2
  ·have B5:decide (p.1<p.2)=true:=by simpa using hpq
   have A1:=F5.1;rw[if_pos hpq]at A1;have E6:=zH A1;clear A1;refine zv 11 (bs 12 4095) (show Aa wr w5 from E4.1) ?_;refine wpAnyH_done (by kernel_rfl) ?_ _;clear B5 hpq E4 A0;go_upto_region 6 with fail
   refine wp_region_held_drew (S:=fun x=>w5.grownBy x v.ownBlock) (by kernel_rfl) (Bh _ Ak.drew) (fun _=> ?_);refine zv 0 (bs 17 1) (Bh _ (Aa.refl w5).drew) ?_;refine zv 1 (bs 17 3) (Bh _ (Aa.refl w5).drew) ?_;refine zv 2 (bs 17 7) (Bh _ (Aa.refl w5).drew) ?_;refine zv 3 (bs 17 15) (Bh _ (Aa.refl w5).drew) ?_;refine mV 4 (bs 17 31) (Bh _ (Aa.refl w5).drew) ?_;refine zr 5 (bs 17 63) g (E2+k*8) (rc f.a) (fun x hx=>Qt D9.1 hx A6.1) underlying31 (Bh _ (Aa.refl w5).drew) ?_;refine zv 7 (bs 17 191) (Bh _ (Aa.refl w5).drew) ?_;refine zv 8 (bs 17 447) (Bh _ (Aa.refl w5).drew) ?_;refine zv 9 (bs 17 959) (Bh _ (Aa.refl w5).drew) ?_;refine mV 10 (bs 17 1983) (Bh _ (Aa.refl w5).drew) ?_;refine zr 11 (bs 17 4031) g (E2+k*8+4) (rc f.b) (fun x hx=>Qt D8.1 hx A6.1) underlying31 (Bh _ (Aa.refl w5).drew) ?_;refine mC 6 (bs 17 4095) (eH (Ee.ofa (C2.1.ext Ak.drew)) ω) ?_;rintro e w6 ⟨c1,rfl,J4,hx⟩;have A2:=zH (show Aa w5 w6 from((Aa.refl w5).drew).trans hx);obtain⟨ra,rfl,G9⟩:=J4;have I0:=zH G9;clear G9;clear hx;refine⟨_,rfl,(Bh _ A2.1),?_⟩;try simp only[ζ]
   refine mC 12 (bs 17 8191) (eH (Ee.ofb' (C1.1.ext A2.1)) ω) ?_;rintro e w7 ⟨c2,rfl,J3,hx⟩;have A4:=zH (show Aa w5 w7 from(A2.1).trans hx);obtain⟨rb,rfl,G8⟩:=J3;have H9:=zH G8;have D7:=zH (I0.1.ext hx);clear G8 I0;clear hx;refine⟨_,rfl,(Bh _ A4.1),?_⟩;try simp only[ζ]
   refine zv 13 (bs 17 16383) (Bh _ A4.1) ?_;have E3:=A3.1.ext A4.1;have J5:=(A7.1.trans A4.1).size;have J1:es.length<=20000:=by have:=A9.1.2;omega
   have H5:Bv.Ok L w7 ⟨ra,rb,p.1,p.2⟩:=⟨D7.1,H9.1,(Ee.ofa C2.1).rl I2.1,(Ee.ofb' C1.1).rl I2.1⟩;have I1:=zH H5;clear H5;have B6:Aa w7 (w7.alloc (.cells #[.bool ra.n,.slice ra.p ra.l ra.c,.bool ra.m,.slice ra.p2 ra.l2 ra.c2,.bool rb.n,.slice rb.p rb.l rb.c,.bool rb.m,.slice rb.p2 rb.l2 rb.c2] 73)):=Ak.alloc _;refine mU 14 (bs 17 32767) (v:= .slice (π w7.heap.size) 1 1) (w':=(w7.alloc (.cells #[.bool ra.n,.slice ra.p ra.l ra.c,.bool ra.m,.slice ra.p2 ra.l2 ra.c2,.bool rb.n,.slice rb.p rb.l rb.c,.bool rb.m,.slice rb.p2 rb.l2 rb.c2] 73))) (Bh _ ((A4.1).alloc _)) ?_;try simp only[ζ]
   refine Nt (j:=15) (listed':=(bs 17 65535)) (by rfl) (by kernel_rfl) (by rfl) _ _ 50 (by rfl) w.heap.size 73 i0 _ 8 128 underlying50 HI.1.1 HI.1.2.1 HI.1.2.2.1 HI.1.2.2.2 rfl (by decide) Jz _ es.length (Cv es) (by rfl) (E3.ext B6).1 ⟨w7.heap.size,0,none⟩ 1 1 [.bool ra.n,.slice ra.p ra.l ra.c,.bool ra.m,.slice ra.p2 ra.l2 ra.c2,.bool rb.n,.slice rb.p rb.l rb.c,.bool rb.m,.slice rb.p2 rb.l2 rb.c2] (by rfl) rfl (Ik _ [.bool ra.n,.slice ra.p ra.l ra.c,.bool ra.m,.slice ra.p2 ra.l2 ra.c2,.bool rb.n,.slice rb.p rb.l rb.c,.bool rb.m,.slice rb.p2 rb.l2 rb.c2] _) (by simp[Value.oneCell']) (Bv.noU ⟨ra,rb,p.1,p.2⟩) (by decide) (by unfold maxLen;omega) ω (by have:=B6.size;omega) (by kernel_rfl) ?_;intro gx cx w8 hf h2 h3 h4;have F4:=zH ((E3.ext B6).snoc (e:=⟨ra,rb,p.1,p.2⟩) rfl (I1.1.ext B6) h2 h4);have H6:=zH (((A7.1.trans A4.1).trans B6).grown h3 (fun j hj=>E3.1.block j hj));have F0:w5.grownBy w8 v.ownBlock:=Wi (A4.1.trans B6) h3;clear E3 J5 hf h2 h3 h4 B6;refine⟨F0,?_⟩;try simp only[ζ]
   refine zv 16 (bs 17 131071) F0 ?_;refine wpAnyH_done (by kernel_rfl) ?_ _;clear F0 D9 D8 C2 C1 A6 D7 H9 I1 A3 A7;have E0:=zH (show(Stb.ins Yn es ⟨ra,rb,p.1,p.2⟩).map Bv.vl=Dk (ps.take (k+1))by rw[E6.1,Xz Bv.vl (lt:=Yn) (lt':=pJ) (fun _ _=>rfl),A9.1.1];rfl);have D2:=zH (show Stb.Srt Yn es from rU (by rw[A9.1.1];exact bT _));have E5:=zH A9.1.2;generalize (⟨ra,rb,p.1,p.2⟩:Bv)=y at*
   obtain⟨n,E8⟩:∃n,es.length=n:=⟨_,rfl⟩;rw[E8]at F4 E5⊢;have HN:=zH E8;have I9:n<=20000:=by have:=E5.1;omega
   clear E8 E6 A9 F5;have wn:IntKind.i64.wrap (n:Int)=(n:Int):=by rw[IntKind.wrap_i64];omega
   have e1:((n+1:Nat):Int)-1=(n:Int):=ω;have e2:(n:Int)+1-1=(n:Int):=ω;go_wp2_with fail;go_loopg [5] n (fun c i wr=>∃u:Nat,u<=n/\c=0+u/\i= iV u/\(∀z,z∈es.drop u->Yn y z=true)/\Hf L wr w.heap.size (.slice (π gx) (n+1) cx) (es.take u++y::es.drop u)/\Aa w wr)
   case atStart=>exact⟨n,Bz _,ω,rfl,by intro z hz;rw[List.drop_of_length_le (by have:=HN.1;omega)]at hz;simp at hz,by rw[wI (by have:=HN.1;omega),List.drop_of_length_le (by have:=HN.1;omega)];exact F4.1,H6.1⟩
   clear F4 H6;obtain⟨u,hu,rfl,rfl,C8,C5,hx⟩:=hrel;have C3:=zH C8;have A5:=zH C5;have HX:=zH hx;have HU:=zH hu;have I6:u<=20000:=ω
   have wu:IntKind.i64.wrap (u:Int)=(u:Int):=by rw[IntKind.wrap_i64];omega
   have K1:(es.take u++y::es.drop u).length=n+1:=by have:=HN.1;simp;omega
   clear C8 C5 hx;by_cases hu0:0<u
   ·obtain⟨q,hq⟩:∃q,q+1=u:=⟨u-1,ω⟩
    have I7:(0:Int)<(u:Int):=ω;have e3:(u:Int)-1=(q:Int):=ω;have wq:IntKind.i64.wrap (q:Int)=(q:Int):=by rw[IntKind.wrap_i64];omega
    have C6:q<es.length:=by have:=HN.1;omega
    have D0:(es.take u++y::es.drop u)[q]?=some es[q]:=by
     rw[wQ (by rw[wK];omega),List.getElem?_take,if_pos ω];exact wC C6
    have C9:(es.take u++y::es.drop u)[u]?=some y:=by
     rw[wJ (by rw[wK];omega),wK,show u-min u es.length=0 by omega];rfl
    have D1:=zH (show jV (es.take u++y::es.drop u) u q=es.take q++y::es.drop q by
     have h:=Me [] es [] y q C6;simp only[wT,xD,List.length_nil,wH]at h;rw[hq]at h;exact h)
    have J8:=zH (show∀z,z∈es.drop q->z=es[q]\/z∈es.drop u by
     intro z hz;rw[List.drop_eq_getElem_cons C6,hq]at hz;simpa using hz)
    have C0:=zH (fun h=>Stb.ins_stop vP (y:=y) D2.1 C3.1 ω (Or.inr ⟨q,hq,C6,h⟩));have HE:=zH (Lh C9 D0);have B8:=zH (A5.1.2 es[q] (wE D0));have B7:=zH (A5.1.2 y (wE C9));have F7:=zH (A5.1.read D0);have F6:=zH (A5.1.read C9);have J9:=zH (List.getElem?_eq_some_iff.1 C9).1;have K0:=zH (List.getElem?_eq_some_iff.1 D0).1;have bu:(u:Int)<(n:Int)+1:=ω
    have bq:(q:Int)<(n:Int)+1:=ω;generalize es[q]=x at*;generalize hrow:es.take u++y::es.drop u=row at*;have J7:=zH hrow;have HQ:=zH hq;clear D0 C9 C6 hq hrow hu;go_upto_region 8 with fail
    refine wp_region_held_drew (S:=fun x=>Aa wr x) (by kernel_rfl) Ak.drew (fun _=> ?_);refine zv 0 (bs 16 1) (Aa.refl wr).drew ?_;refine zv 1 (bs 16 3) (Aa.refl wr).drew ?_;refine zv 2 (bs 16 7) (Aa.refl wr).drew ?_;refine zv 3 (bs 16 15) (Aa.refl wr).drew ?_;refine zv 4 (bs 16 31) (Aa.refl wr).drew ?_;refine zv 5 (bs 16 63) (Aa.refl wr).drew ?_;refine mV 6 (bs 16 127) (Aa.refl wr).drew ?_;refine zr 7 (bs 16 255) gx (u*8) (rc y.a) (fun wX hwX=>Be (Ko (a:=(rc y.a)) (b:=(rc y.b)) F6.1) hwX) underlying31 (Aa.refl wr).drew ?_;refine zv 8 (bs 16 511) (Aa.refl wr).drew ?_;refine zv 9 (bs 16 1023) (Aa.refl wr).drew ?_;refine zv 10 (bs 16 2047) (Aa.refl wr).drew ?_;refine zv 11 (bs 16 4095) (Aa.refl wr).drew ?_;refine mV 12 (bs 16 8191) (Aa.refl wr).drew ?_;refine zr 13 (bs 16 16383) gx (q*8) (rc x.a) (fun wX hwX=>Be (Ko (a:=(rc x.a)) (b:=(rc x.b)) F7.1) hwX) underlying31 (Aa.refl wr).drew ?_;refine mC 14 (bs 16 32767) (Dn L _ _ y.p x.p _ (Ee.ofa2 (B7.1.ext Ak.drew)) (Ee.ofa2 (B8.1.ext Ak.drew)) hL) ?_;rintro e w5 ⟨rfl,hx⟩;have A0:=zH (show Aa wr w5 from((Aa.refl wr).drew).trans hx);clear hx;refine⟨_,rfl,A0.1,?_⟩;try simp only[ζ]
    have F2:=zH (HX.1.trans A0.1);have A3:=zH (A5.1.ext A0.1);have D6:=zH (Be F7.1 A0.1);have D4:=zH (Be F6.1 A0.1);have B4:=zH (B8.1.ext A0.1);have B2:=zH (B7.1.ext A0.1);clear HX A5 F7 F6 B8 B7;by_cases hlt:y.p<x.p
    ·have B9:=zH (show Yn y x=true from decide_eq_true hlt)
     have B5:decide (y.p<x.p)=true:=by simpa using hlt
     refine zv 15 (bs 16 65535) A0.1 ?_;refine wpAnyH_done (by kernel_rfl) ?_ _;clear B5 hlt A0;go_upto_region 10 with fail;refine wp_region_lit ?_;apply qV (.slice (π gx) (n+1) cx);apply zq (iV u);apply zq (.pointer (some ⟨gx,u*8,none⟩));refine Bk (by rfl) (wp_load_mid _ _ (by rfl) gx (u*8) (by rfl) y.cells _ D4.1 underlying73 (by rfl) (by kernel_rfl) ?_);try simp only[ζ]
     have E1:=zH (fun X hX=>bR (X:=X) A3.1 hX);refine zp (w':=w5.alloc (.cells z8 73)) (.pointer (π w5.heap.size)) (by go_simp) ?_;refine pO (y.cells).toArray (Al.new w5 _ _) (by simp[Bv.len]) (by rw[show((y.cells).toArray:Array Value).size=8 by simp[Bv.len]];kernel_rfl) (all_oneCell_toArray y.one) ?_
     (try simp only[Act.put])
     obtain⟨G4,G3⟩:=Pa w5 73 z8 (y.cells).toArray (by simp[Bv.len]);generalize (w5.alloc (.cells z8 73)).setCells w5.heap.size 0 ((y.cells).toArray:Array Value).toList=w6 at*;have A6:=zH (E1.1 w5.heap.size (Bz _));generalize w5.heap.size=X6 at*;have A2:=zH G4;have G2:=zH G3;clear G4 G3;have H8:=zH (F2.1.trans A2.1);have A8:=zH (A3.1.ext A2.1);have D5:=zH (Be D6.1 A2.1);have B3:=zH (B4.1.ext A2.1);have B1:=zH (B2.1.ext A2.1);clear F2 D6 D4 B4 B2 A2;go_upto_region 11 with fail
     refine wp_region_lit ?_;apply qV (.slice (π gx) (n+1) cx);apply zq (iV u);apply qV (.slice (π gx) (n+1) cx);apply zq (iV u);apply qV (iV q);apply zq (.pointer (some ⟨gx,q*8,none⟩));refine Bk (by rfl) (wp_load_mid _ _ (by rfl) gx (q*8) (by rfl) x.cells _ D5.1 underlying73 (by rfl) (by kernel_rfl) ?_);try simp only[ζ]
     apply zq (.pointer (some ⟨gx,u*8,none⟩));obtain⟨t1,t2,t3⟩:=A8.1.set J9.1 B3.1;obtain⟨K3,H4,H0⟩:=A8.1.rowNoU;have E9:w.heap.size<=gx:=A8.1.1.block gx (by simp[Value.ownBlock]);have C7:X6≠gx:=fun h=>A6.1 (by rw[h];simp[Value.ownBlock])
     refine Bk (by rfl) (wp_store_mid 73 _ _ (by rfl) gx (u*8) x.cells.toArray (by rfl) (by rfl) t1 (by kernel_rfl) (all_oneCell_toArray x.one) ?_)
     (try simp only[Act.put])
     have D3:=zH t2;have H7:=zH (t3.ext H8.1 E9);have I3:=zH (G2.1.own t3 C7);have B0:=zH (B1.1.map fun r q h=>h.own H4 H0 t3);clear t1 t2 t3 H4 H0 H8 A8 D5 B3 B1;generalize World.setCells w6 gx (u*8) _=w7 at*
     go_upto_region 12 with fail;refine wp_region_lit ?_;apply qV (.slice (π gx) (n+1) cx);apply zq (iV u);apply zq (iV q);refine pL I3.1 underlying73 (by kernel_rfl) ?_;try simp only[ζ]
     apply zq (.pointer (some ⟨gx,q*8,none⟩));obtain⟨t1,t2,t3⟩:=D3.1.set (by rw[wO];exact K0.1) B0.1;refine Bk (by rfl) (wp_store_mid 73 _ _ (by rfl) gx (q*8) y.cells.toArray (by rfl) (by rfl) t1 (by kernel_rfl) (all_oneCell_toArray y.one) ?_)
     (try simp only[Act.put])
     have F3:=zH t2;have J6:=zH (t3.ext H7.1 E9);clear t1 t2 t3 H7 D3 I3 B0 E9 C7;generalize World.setCells w7 gx (q*8) _=w9 at*
     go_wp2_with fail;go_roundg q
     case measure=>have:=HQ.1;omega
     case rel=>exact⟨q,by have:=HQ.1;have:=HU.1;omega,ω,rfl,fun z hz=>(J8.1 z hz).elim (fun h=>by rw[h];exact B9.1) (C3.1 z),by rw[<-D1.1,HE.1];exact F3.1,J6.1⟩
    have B9:=zH (show Yn y x=false from decide_eq_false hlt);have B5:decide (y.p<x.p)=false:=by simpa using hlt
    refine zv 15 (bs 16 65535) A0.1 ?_;refine wpAnyH_done (by kernel_rfl) ?_ _;clear B5 hlt A0;have HR:=zH (show Hf L w5 w.heap.size (.slice (π gx) (n+1) cx) (Stb.ins Yn es y)by rw[C0.1 B9.1];exact A3.1);have F1:=F2;go_wp2_with fail
    go_roundg (ps.length-(k+1))
    case measure=>have:=C4.1;omega
    case rel=>exact⟨k+1,_,_,C4.1,rfl,by go_num,rfl,HR.1,E0.1,by rw[Stb.ins_len,HN.1];have:=E5.1;omega,F1.1⟩
   obtain rfl:u=0:=ω;have C0:=zH (Stb.ins_stop vP (y:=y) D2.1 C3.1 (wM _) (Or.inl rfl));go_upto_region 8 with fail;refine wp_region_held_drew (S:=fun x=>Aa wr x) (by kernel_rfl) Ak.drew (fun _=> ?_);refine zv 0 (bs 16 1) (Aa.refl wr).drew ?_;refine zv 1 (bs 16 3) (Aa.refl wr).drew ?_;refine zv 2 (bs 16 7) (Aa.refl wr).drew ?_;refine zs 3 (bs 16 15) (Aa.refl wr).drew ?_;refine zs 4 (bs 16 31) (Aa.refl wr).drew ?_;refine zs 5 (bs 16 63) (Aa.refl wr).drew ?_;refine zs 6 (bs 16 127) (Aa.refl wr).drew ?_;refine zs 7 (bs 16 255) (Aa.refl wr).drew ?_;refine zs 8 (bs 16 511) (Aa.refl wr).drew ?_;refine zs 9 (bs 16 1023) (Aa.refl wr).drew ?_;refine zs 10 (bs 16 2047) (Aa.refl wr).drew ?_;refine zs 11 (bs 16 4095) (Aa.refl wr).drew ?_;refine zs 12 (bs 16 8191) (Aa.refl wr).drew ?_;refine zs 13 (bs 16 16383) (Aa.refl wr).drew ?_;refine zs 14 (bs 16 32767) (Aa.refl wr).drew ?_;refine zv 15 (bs 16 65535) (Aa.refl wr).drew ?_;refine wpAnyH_done (by kernel_rfl) ?_ _;have HR:=zH (show Hf L wr.drew w.heap.size (.slice (π gx) (n+1) cx) (Stb.ins Yn es y)by rw[C0.1];exact A5.1.ext Ak.drew);have F1:=zH (HX.1.drew);go_wp2_with fail
   go_roundg (ps.length-(k+1))
   case measure=>have:=C4.1;omega
   case rel=>exact⟨k+1,_,_,C4.1,rfl,by go_num,rfl,HR.1,E0.1,by rw[Stb.ins_len,HN.1];have:=E5.1;omega,F1.1⟩
  have B5:decide (p.1<p.2)=false:=by simpa using hpq
  have A1:=F5.1;rw[if_neg hpq]at A1;have E6:=zH A1;clear A1;refine zv 11 (bs 12 4095) (show Aa wr w5 from E4.1) ?_;refine wpAnyH_done (by kernel_rfl) ?_ _;clear B5 hpq E4 A0;go_wp2_with fail
  go_roundg (ps.length-(k+1))
  case measure=>have:=C4.1;omega
  case rel=>exact⟨k+1,es,_,C4.1,rfl,by go_num,rfl,A3.1,by rw[E6.1];exact A9.1.1,by have:=A9.1.2;omega,A7.1⟩
 obtain rfl:k=ps.length:=ω;have K2:¬(ps.length:Int)<(ps.length:Int):=ω;have HR:=zH (show es.map Bv.vl=Dk ps by have h:=A9.1.1;rwa[wI (Bz _)]at h);go_wp2_with fail;go_ret;exact⟨_,rfl,es,A5.1,HR.1,A9.1.2,HX.1⟩
theorem Sn (L:Nat)(u:Value)(ps:List QQ)(w:World)(hu:Hs L w u ps)(h1L:1<=L)(hL:L<=60000)(hn:ps.length<=20000):
  Calls prog 119 #[u] w fun e w'=>∃v es,e= .returned v/\Hf L w' w.heap.size v es/\es.map Bv.vl=Eg ps/\es.length<=ps.length/\Aa w w':=by
 have HC:=zH (Zf L u ps w hu h1L hL hn);obtain⟨i0,hi,E1,E0,D9⟩:=info_parts cW;have HI:=zH (And.intro hi (And.intro E1 (And.intro E0 D9)));clear hi E1 E0 D9 hu;go_enter func119,ntmps119
 go_upto_region 2 with(go_at_call 158;refine HC.1.mono ?_;rintro e ws ⟨vs,ss,rfl,A8,C0,E3,D6⟩)
 obtain⟨As,cs,rfl⟩:=Mf A8.1;have B6:=zH (fun j hj=>xG (A8.lt j hj) (Bz _));have B9:=zH (A8.ext ((Aa.refl ws).alloc (.cells #[] 73)));have E8:=zH (D6.alloc (.cells #[] 73));have A7:=zH (show Hf L (ws.alloc (.cells #[] 73)) ws.heap.size (.slice (π ws.heap.size) 0 0) []from⟨Bi.empty ws ws.heap.size 73 8 (Bz _),by simp⟩);have HB:=zH D6.size;have C3:=zH C0;have F8:ss.length<=20000:=ω
 have F5:=zH E3;clear A8 D6 C0 E3 HC;go_wp2_with fail;go_loopg [4,5] ss.length (fun c v i wr=>∃(k:Nat) (os:List Bv) (v2:Value),k<=ss.length/\c=ss.length-k/\i= iV k/\v2=v/\Hf L wr ws.heap.size v2 os/\os.map Bv.vl=((Dk ps).take k).foldl Em []/\os.length<=k/\Hf L wr w.heap.size (.slice As ss.length cs) ss/\Aa w wr/\ws.heap.size<=wr.heap.size)
 case atStart=>exact⟨0,[],_,wM _,rfl,rfl,rfl,A7.1,by simp,Bz _,B9.1,E8.1,by simp⟩
 clear B9 A7 E8;obtain⟨k,os,v,hk,rfl,rfl,rfl,D2,D1,D4,A8,hx,E2⟩:=hrel;by_cases hlt:k<ss.length
 ·have F2:(k:Int)<(ss.length:Int):=ω
  obtain⟨e,he⟩:∃e,ss[k]?=some e:=⟨_,wC hlt⟩;have B4:=zH (show((Dk ps).take (k+1)).foldl Em []=Em (os.map Bv.vl) (e.p,e.q)by rw[D1,Nr (p:=(e.p,e.q)) (by rw[<-C3.1,xJ,he];rfl)]);have B2:=zH (A8.2 e (wE he));obtain⟨gs,rfl⟩:∃gs,As=some ⟨gs,0,none⟩:=by
   rcases A8.form with⟨hv,hn⟩|⟨g,cap,rest,hv,_⟩
   ·rw[hn]at hlt;simp at hlt
   injection hv with e1 _ _
   exact⟨g,e1⟩
  have C6:=zH (A8.read he);have A7:=zH D2;have B9:=zH A8;have B1:=zH D4;have HX:=zH hx;have B5:=zH hlt;have B8:=zH E2;clear D2 D1 A8 hx D4 he hlt E2;rcases eC os with rfl|⟨os,l,rfl⟩
  ·obtain⟨Ao,co,rfl⟩:=Mf A7.1.1
   have q1:(0:Int)-1= -1:=ω;go_upto_region 7 with fail;refine wp_region_held_drew (S:=fun x=>Aa wr x) (by kernel_rfl) Ak.drew (fun _=> ?_);refine zv 0 (bs 15 1) (Aa.refl wr).drew ?_;refine zv 1 (bs 15 3) (Aa.refl wr).drew ?_;refine zv 2 (bs 15 7) (Aa.refl wr).drew ?_;refine zs 3 (bs 15 15) (Aa.refl wr).drew ?_;refine zs 4 (bs 15 31) (Aa.refl wr).drew ?_;refine zs 5 (bs 15 63) (Aa.refl wr).drew ?_;refine zs 6 (bs 15 127) (Aa.refl wr).drew ?_;refine zs 7 (bs 15 255) (Aa.refl wr).drew ?_;refine zs 8 (bs 15 511) (Aa.refl wr).drew ?_;refine zs 9 (bs 15 1023) (Aa.refl wr).drew ?_;refine zs 10 (bs 15 2047) (Aa.refl wr).drew ?_;refine zs 11 (bs 15 4095) (Aa.refl wr).drew ?_;refine zs 12 (bs 15 8191) (Aa.refl wr).drew ?_;refine zs 13 (bs 15 16383) (Aa.refl wr).drew ?_;refine zv 14 (bs 15 32767) (Aa.refl wr).drew ?_;refine wpAnyH_done (by kernel_rfl) ?_ _;have A1:=zH (B4.1.trans (Vs _));have F1:([]:List Bv).length<=20000:=by simp
   skip
   have A2:=zH (show Aa wr wr.drew from Ak.drew);have A0:=zH (A7.1.ext A2.1);have A6:=zH (B9.1.ext A2.1);have A5:=zH (B2.1.ext A2.1);have B0:=zH (Be C6.1 A2.1);have B7:=zH (HX.1.trans A2.1);go_upto_region 8 with fail
   refine wp_region_lit ?_;refine zp (w':=wr.drew) (.slice Ao 0 co) (by go_simp<;>with_reducible rfl) ?_;refine zp (w':=wr.drew) (.slice (π gs) ss.length cs) (by go_simp<;>with_reducible rfl) ?_;refine zp (w':=wr.drew) (iV k) (by go_simp<;>with_reducible rfl) ?_;refine zp (w':=wr.drew) (.pointer (some ⟨gs,k*8,none⟩)) (by go_simp<;>with_reducible rfl) ?_;refine Bk (by rfl) (wp_load_mid _ _ (by rfl) gs (k*8) (by rfl) [.bool e.a.n,.slice e.a.p e.a.l e.a.c,.bool e.a.m,.slice e.a.p2 e.a.l2 e.a.c2,.bool e.b.n,.slice e.b.p e.b.l e.b.c,.bool e.b.m,.slice e.b.p2 e.b.l2 e.b.c2] _ B0.1 underlying73 (by rfl) (by kernel_rfl) ?_);try simp only[ζ]
   have D5:=A0.1;have A4:Aa wr.drew (wr.drew.alloc (.cells #[.bool e.a.n,.slice e.a.p e.a.l e.a.c,.bool e.a.m,.slice e.a.p2 e.a.l2 e.a.c2,.bool e.b.n,.slice e.b.p e.b.l e.b.c,.bool e.b.m,.slice e.b.p2 e.b.l2 e.b.c2] 73)):=Ak.alloc _;refine zp (w':=(wr.drew.alloc (.cells #[.bool e.a.n,.slice e.a.p e.a.l e.a.c,.bool e.a.m,.slice e.a.p2 e.a.l2 e.a.c2,.bool e.b.n,.slice e.b.p e.b.l e.b.c,.bool e.b.m,.slice e.b.p2 e.b.l2 e.b.c2] 73))) (.slice (π wr.drew.heap.size) 1 1) (by go_simp) ?_;refine Bk (by rfl) (Dw _ _ 50 (by rfl) ws.heap.size 73 i0 _ 8 128 underlying50 HI.1.1 HI.1.2.1 HI.1.2.2.1 HI.1.2.2.2 rfl (by decide) Jz _ 0 (Cv ([]:List Bv)) (by rfl) (A0.1.ext A4).1 ⟨wr.drew.heap.size,0,none⟩ 1 1 e.cells (by rfl) rfl (Ik _ e.cells _) e.one e.noU (by decide) (by unfold maxLen;omega) ω (Aw B8.1 (Aw A2.1.size A4.size)) ?_);intro gx cx D3 hf h2 h3 h4;try simp only[ζ]
   have C5:=zH ((A0.1.ext A4).snoc (es:=([]:List Bv)) (e:=e) rfl (A5.1.ext A4) h2 h4);have C2:=zH ((B7.1.trans A4).grown h3 (fun j hj=>Aw HB.1 (A0.1.1.block j hj)));have A9:=zH ((A6.1.ext A4).grown h3 (fun j hj hj2=>by have h7:=A0.1.1.block j hj2;have h8:=B6.1 j hj;omega) h4);have C1:=zH (Aw B8.1 (Aw A2.1.size (Aw A4.size h3.size)));clear hf h2 h3 h4 A4 D5;refine zp (w':=D3) (.slice (π gx) (0+1) cx) (by go_simp) ?_;go_wp2_with fail
   go_roundg (ss.length-(k+1))
   case measure=>have:=B5.1;omega
   case rel=>exact⟨k+1,([]:List Bv)++[e],_,B5.1,rfl,by go_num,rfl,C5.1,by rw[A1.1];simp[Bv.vl],by have:=B1.1;simp at this⊢<;>omega,A9.1,C2.1,C1.1⟩
  have F0:∃g6 c6,v= .slice (π g6) (os.length+1) c6:=by
   rcases A7.1.form with⟨_,h⟩|⟨g6,c6,_,h,_⟩
   ·simp at h
   exact⟨g6,c6,by simpa using h⟩
  obtain⟨g6,c6,rfl⟩:=F0;obtain⟨m,hm⟩:∃m,os.length=m:=⟨_,rfl⟩;rw[hm]at A7⊢;have HM:=zH hm;have F9:m<=20000:=by have h:=B1.1;rw[wD,HM.1]at h;omega
  have F7:IntKind.i64.wrap (m:Int)=(m:Int):=by rw[IntKind.wrap_i64];omega
  have C8:=zH (A7.1.2 l (by simp));have E9:=zH (B4.1.trans (show Em ((os++[l]).map Bv.vl) (e.p,e.q)=if l.q<e.p then os.map Bv.vl++[(l.p,l.q)]++[(e.p,e.q)]else if l.q<e.q then os.map Bv.vl++[(l.p,e.q)]else os.map Bv.vl++[(l.p,l.q)]by rw[xI];exact Vt _ _ _));have e1:((m+1:Nat):Int)-1=(m:Int):=ω
  have e2:(m:Int)+1-1=(m:Int):=ω;have e3:¬(m:Int)<0:=ω;have e5:(m:Int)<(m:Int)+1:=ω;have E7:=zH (A7.1.readEnd HM.1);clear hm;go_upto_region 7 with fail;refine wp_region_held_drew (S:=fun x=>Aa wr x) (by kernel_rfl) Ak.drew (fun _=> ?_);refine zv 0 (bs 15 1) (Aa.refl wr).drew ?_;refine zv 1 (bs 15 3) (Aa.refl wr).drew ?_;refine zv 2 (bs 15 7) (Aa.refl wr).drew ?_;refine zv 3 (bs 15 15) (Aa.refl wr).drew ?_;refine zv 4 (bs 15 31) (Aa.refl wr).drew ?_;refine zv 5 (bs 15 63) (Aa.refl wr).drew ?_;refine mV 6 (bs 15 127) (Aa.refl wr).drew ?_;refine zr 7 (bs 15 255) g6 (m*8+4) (rc l.b) (fun wX hwX=>Be E7.1 hwX) underlying31 (Aa.refl wr).drew ?_;refine zv 8 (bs 15 511) (Aa.refl wr).drew ?_;refine zv 9 (bs 15 1023) (Aa.refl wr).drew ?_;refine zv 10 (bs 15 2047) (Aa.refl wr).drew ?_;refine mV 11 (bs 15 4095) (Aa.refl wr).drew ?_;refine zr 12 (bs 15 8191) gs (k*8) (rc e.a) (fun wX hwX=>Be (Ko (a:=(rc e.a)) (b:=(rc e.b)) C6.1) hwX) underlying31 (Aa.refl wr).drew ?_;refine mC 13 (bs 15 16383) (Dn L _ _ l.q e.p _ (Ee.ofb (C8.1.ext Ak.drew)) (Ee.ofa2 (B2.1.ext Ak.drew)) hL) ?_;rintro e w9 ⟨rfl,hx⟩;have A3:=zH (show Aa wr w9 from((Aa.refl wr).drew).trans hx);clear hx;refine⟨_,rfl,A3.1,?_⟩;try simp only[ζ]
  by_cases c1:l.q<e.p
  ·have B3:decide (l.q<e.p)=true:=by simpa using c1
   refine zv 14 (bs 15 32767) A3.1 ?_;refine wpAnyH_done (by kernel_rfl) ?_ _;have A1:=zH (E9.1.trans (if_pos c1));clear c1 B3;have A2:=zH (show Aa wr w9 from A3.1);have A0:=zH (A7.1.ext A2.1);have A6:=zH (B9.1.ext A2.1);have A5:=zH (B2.1.ext A2.1);have B0:=zH (Be C6.1 A2.1);have B7:=zH (HX.1.trans A2.1);go_upto_region 8 with fail
   refine wp_region_lit ?_;apply qV (.slice (π g6) (m+1) c6);apply zq (.slice (π gs) ss.length cs);apply qV (iV k);apply zq (.pointer (some ⟨gs,k*8,none⟩));refine Bk (by rfl) (wp_load_mid _ _ (by rfl) gs (k*8) (by rfl) [.bool e.a.n,.slice e.a.p e.a.l e.a.c,.bool e.a.m,.slice e.a.p2 e.a.l2 e.a.c2,.bool e.b.n,.slice e.b.p e.b.l e.b.c,.bool e.b.m,.slice e.b.p2 e.b.l2 e.b.c2] _ B0.1 underlying73 (by rfl) (by kernel_rfl) ?_);try simp only[ζ]
   have D5:=A0.1;have A4:Aa w9 (w9.alloc (.cells #[.bool e.a.n,.slice e.a.p e.a.l e.a.c,.bool e.a.m,.slice e.a.p2 e.a.l2 e.a.c2,.bool e.b.n,.slice e.b.p e.b.l e.b.c,.bool e.b.m,.slice e.b.p2 e.b.l2 e.b.c2] 73)):=Ak.alloc _;refine zp (w':=(w9.alloc (.cells #[.bool e.a.n,.slice e.a.p e.a.l e.a.c,.bool e.a.m,.slice e.a.p2 e.a.l2 e.a.c2,.bool e.b.n,.slice e.b.p e.b.l e.b.c,.bool e.b.m,.slice e.b.p2 e.b.l2 e.b.c2] 73))) (.slice (π w9.heap.size) 1 1) (by go_simp) ?_;refine Bk (by rfl) (Dw _ _ 50 (by rfl) ws.heap.size 73 i0 _ 8 128 underlying50 HI.1.1 HI.1.2.1 HI.1.2.2.1 HI.1.2.2.2 rfl (by decide) Jz _ (m+1) (Cv (os++[l])) (by rfl) (by have h:=(A0.1.ext A4).1;rw[wD,HM.1]at h;exact h) ⟨w9.heap.size,0,none⟩ 1 1 e.cells (by rfl) rfl (Ik _ e.cells _) e.one e.noU (by decide) (by unfold maxLen;omega) ω (Aw B8.1 (Aw A2.1.size A4.size)) ?_);intro gx cx D3 hf h2 h3 h4;try simp only[ζ]
   have C5:=zH ((A0.1.ext A4).snoc (es:=(os++[l])) (e:=e) (by rw[wD,HM.1];rfl) (A5.1.ext A4) h2 h4);have C2:=zH ((B7.1.trans A4).grown h3 (fun j hj=>Aw HB.1 (A0.1.1.block j hj)));have A9:=zH ((A6.1.ext A4).grown h3 (fun j hj hj2=>by have h7:=A0.1.1.block j hj2;have h8:=B6.1 j hj;omega) h4);have C1:=zH (Aw B8.1 (Aw A2.1.size (Aw A4.size h3.size)));clear hf h2 h3 h4 A4 D5;refine zp (w':=D3) (.slice (π gx) ((m+1)+1) cx) (by go_simp) ?_;go_wp2_with fail
   go_roundg (ss.length-(k+1))
   case measure=>have:=B5.1;omega
   case rel=>exact⟨k+1,(os++[l])++[e],_,B5.1,rfl,by go_num,rfl,C5.1,by rw[A1.1];simp[Bv.vl],by have:=B1.1;simp at this⊢<;>omega,A9.1,C2.1,C1.1⟩
  have B3:decide (l.q<e.p)=false:=by simpa using c1
  refine zv 14 (bs 15 32767) A3.1 ?_;refine wpAnyH_done (by kernel_rfl) ?_ _;have C4:=zH (E9.1.trans (if_neg c1));clear c1 B3;go_upto_region 9 with fail
  have D7:=zH (Be E7.1 A3.1);have D8:=zH (Be C6.1 A3.1);have C7:=zH (C8.1.ext A3.1);have C9:=zH (B2.1.ext A3.1);refine wp_region_held_drew (S:=fun x=>Aa w9 x) (by kernel_rfl) Ak.drew (fun _=> ?_);refine zv 0 (bs 11 1) (Aa.refl w9).drew ?_;refine zv 1 (bs 11 3) (Aa.refl w9).drew ?_;refine zv 2 (bs 11 7) (Aa.refl w9).drew ?_;refine mV 3 (bs 11 15) (Aa.refl w9).drew ?_;refine zr 4 (bs 11 31) g6 (m*8+4) (rc l.b) (fun wX hwX=>Be D7.1 hwX) underlying31 (Aa.refl w9).drew ?_;refine zv 5 (bs 11 63) (Aa.refl w9).drew ?_;refine zv 6 (bs 11 127) (Aa.refl w9).drew ?_;refine zv 7 (bs 11 255) (Aa.refl w9).drew ?_;refine mV 8 (bs 11 511) (Aa.refl w9).drew ?_;refine zr 9 (bs 11 1023) gs (k*8+4) (rc e.b) (fun wX hwX=>Be (Ll (a:=(rc e.a)) (b:=(rc e.b)) (n:=4) D8.1 rfl) hwX) underlying31 (Aa.refl w9).drew ?_;refine mC 10 (bs 11 2047) (Dn L _ _ l.q e.q _ (Ee.ofb (C7.1.ext Ak.drew)) (Ee.ofb (C9.1.ext Ak.drew)) hL) ?_;rintro e wb ⟨rfl,hx⟩;have D0:=zH (show Aa w9 wb from((Aa.refl w9).drew).trans hx);clear hx;refine⟨_,rfl,D0.1,?_⟩;try simp only[ζ]
  refine wpAnyH_done (by kernel_rfl) ?_ _;have A2:=zH (show Aa wr wb from A3.1.trans D0.1);have A0:=zH (A7.1.ext A2.1);have A6:=zH (B9.1.ext A2.1);have A5:=zH (B2.1.ext A2.1);have B0:=zH (Be C6.1 A2.1);have B7:=zH (HX.1.trans A2.1);by_cases c2:l.q<e.q
  ·have B3:decide (l.q<e.q)=true:=by simpa using c2
   rw[B3];have A1:=zH (C4.1.trans (if_pos c2));clear c2;go_upto_region 10 with fail
   refine wp_region_lit ?_;apply qV (.slice (π g6) (m+1) c6);apply zq (iV m);apply qV (.slice (π gs) ss.length cs);apply zq (iV k);apply qV (.pointer (some ⟨gs,k*8,none⟩));apply zq (.pointer (some ⟨gs,k*8+4,none⟩));refine Bk (by rfl) (wp_load_mid _ _ (by rfl) gs (k*8+4) (by rfl) (rc e.b) _ (Ll (a:=(rc e.a)) (b:=(rc e.b)) (n:=4) B0.1 rfl) underlying31 (by rfl) (by kernel_rfl) ?_);try simp only[ζ]
   apply qV (.pointer (some ⟨g6,m*8,none⟩));apply zq (.pointer (some ⟨g6,m*8+4,none⟩));obtain⟨t1,t2,t3⟩:=A0.1.turn HM.1 A5.1;obtain⟨G0,E6,E4⟩:=A0.1.rowNoU;refine Bk (by rfl) (wp_store_mid 31 _ _ (by rfl) g6 (m*8+4) (rc e.b).toArray (by rfl) (by rfl) t1 (by kernel_rfl) (all_oneCell_toArray (by simp[Value.oneCell'])) ?_)
   (try simp only[Act.put])
   have C5:=zH t2;have E5:w.heap.size<=g6:=Aw HB.1 (A0.1.1.block g6 (by simp[Value.ownBlock]));have C2:=zH (t3.ext B7.1 E5);have A9:=zH (A6.1.grown (row:=some g6) t3 (fun j hj hj2=>by injection hj2 with hj2;have h7:=A0.1.1.block j (by simp[Value.ownBlock,hj2]);have h8:=B6.1 j hj;omega) (fun r q h=>h.own E6 E4 t3));have C1:=zH (Aw B8.1 (Aw A2.1.size t3.size));clear t1 t2 t3 E6 E4 E5 B3;generalize World.setCells wb g6 (m*8+4) _=wn at*
   go_wp2_with fail;go_roundg (ss.length-(k+1))
   case measure=>have:=B5.1;omega
   case rel=>exact⟨k+1,os++[⟨l.a,e.b,l.p,e.q⟩],_,B5.1,rfl,by go_num,rfl,C5.1,by rw[A1.1];simp[Bv.vl],by have:=B1.1;simp at this⊢<;>omega,A9.1,C2.1,C1.1⟩
  have B3:decide (l.q<e.q)=false:=by simpa using c2
  rw[B3];have A1:=zH (C4.1.trans (if_neg c2));clear c2;go_wp2_with fail
  go_roundg (ss.length-(k+1))
  case measure=>have:=B5.1;omega
  case rel=>exact⟨k+1,os++[l],_,B5.1,rfl,by go_num,rfl,A0.1,by rw[A1.1,xI];rfl,by have:=B1.1;omega,A6.1,B7.1,Aw B8.1 A2.1.size⟩
 obtain rfl:k=ss.length:=ω;have F3:¬(ss.length:Int)<(ss.length:Int):=ω;have HR:=zH (show os.map Bv.vl=Eg ps by rw[D1,wI (by rw[<-C3.1,wU];exact Bz _)];rfl);have A7:=zH (Hf.mono D2 HB.1);have F4:=zH hx;have F6:=zH (show os.length<=ps.length by have:=F5.1;omega);clear D2 D1 D4 A8 hx;go_wp2_with fail
 go_ret;exact⟨_,rfl,os,A7.1,HR.1,F6.1,F4.1⟩
end
section
theorem cR {P Q:Rat->Prop}{out:List QQ}{s:QQ}(h:∀p,p∈out->P p.1/\Q p.2)(hs:P s.1/\Q s.2):∀p,p∈Em out s->P p.1/\Q p.2:=by
 have A0:∀p,p∈out++[s]->P p.1/\Q p.2:=fun p hp=>by
  rcases List.mem_append.1 hp with hp|hp
  ·exact h p hp
  rw[xH]at hp;subst hp;exact hs
 intro p hp;unfold Em at hp;split at hp
 ·exact A0 p hp
 rename_i l h0;have e0:=eX h0;split at hp
 ·exact A0 p hp
 split at hp
 ·generalize out.dropLast=o at*
  subst e0;rcases List.mem_append.1 hp with hp|hp
  ·exact h p (List.mem_append.2 (Or.inl hp))
  rw[xH]at hp;subst hp;exact⟨(h l (by simp)).1,hs.2⟩
 exact h p hp
theorem iU {P Q:Rat->Prop}(l:List QQ):∀(out:List QQ),(∀p,p∈out->P p.1/\Q p.2)->(∀p,p∈l->P p.1/\Q p.2)->∀p,p∈l.foldl Em out->P p.1/\Q p.2:=by
  induction l with
  |nil=>intro out h _;exact h
  |cons s l ih=>intro out h k;rw[List.foldl_cons];exact ih _ (cR h (k s (xE ..))) fun p hp=>k p (wS _ hp)
theorem aJ {P Q:Rat->Prop}{l:List QQ}(h:∀p,p∈l->P p.1/\Q p.2):∀p,p∈Eg l->P p.1/\Q p.2:=by
  unfold Eg;refine iU _ [] (by simp) fun p hp=>h p ?_
  unfold Dk at hp;exact(Vv.1 (Stb.mem_stab.1 hp)).1
end
section
attribute [local go_sem ↓] Go.wp_at_zero Go.wp_at_succ Az Ay
theorem Xx (L:Nat)(hL:L<=60000)(w:World)(e f:Cg)(he:e.Ok L w)(hf:f.Ok L w):
  Calls prog 89 #[.agg e.cells.toArray,.agg f.cells.toArray] w fun x w'=>∃z:Int,x= .returned (iV z)/\(z<0↔Rd e f=true)/\Aa w w':=by
 have RA:=zH he.1;have RB:=zH hf.1;have BA:=zH he.2.1;have BB:=zH hf.2.1;clear he hf;unfold Cg.cells;go_enter func89,ntmps89
 have H0:=zH (Hp.start w);go_upto_region 0 with fail;apply wl;apply Cd 77 [.bool e.a.n,.slice e.a.p e.a.l e.a.c,.bool e.a.m,.slice e.a.p2 e.a.l2 e.a.c2,iV e.up] H0.1;intro X1 w2 H3 _;apply Cd 77 [.bool f.a.n,.slice f.a.p f.a.l f.a.c,.bool f.a.m,.slice f.a.p2 f.a.l2 f.a.c2,iV f.up] H3.1;intro X6 w7 H8 _;apply zq (iV 0);go_upto_region 1 with fail;refine zy ?_;have A1:=zH (H8.1.step (Aa.refl w7).drew);refine Rt Af zb (bs 13 1) 0 _ ?_;refine zg 1 (bs 13 3) X1 (0) (rc e.a) (H8.1.range (i:=0) rR 0 4) underlying31 zb ?_;refine Rt Af zb (bs 13 7) 2 _ ?_;refine zg 3 (bs 13 15) X6 (0) (rc f.a) (H8.1.range (i:=1) rR 0 4) underlying31 zb ?_;refine qT H8.1 zb (bs 13 495) 5 6 7 8 _ _ _ _ ?_;refine mC 4 (bs 13 511) (Ig (L:=60000) (RV.Is.nin (RA.1.dig A1.1.dig0) (Aw BA.1 ω)) (RV.Is.nin (RB.1.dig A1.1.dig0) (Aw BB.1 ω)) ω) ?_;rintro e B4 ⟨rfl,hx⟩;have B0:=zH (A1.1.step hx);have A5:=zH (zb.trans hx);clear hx;apply zm A5.1;refine mC 9 (bs 13 1023) (bD f.up e.up _) ?_;rintro e B3 ⟨rfl,hx⟩;have A9:=zH (B0.1.step hx);have A4:=zH (A5.1.trans hx);clear hx;apply zm A4.1;refine lT (T:=3) (zs:=[iV (Di e.q f.q),iV (Nw f.up e.up)]) (n:=2) (i:=10) (listed':=(bs 13 2047)) rR kR rR (by go_simp) kR A9.1 (by simp[Ar]) ?_;intro A7 B2 hh hx A6;have A0:=hN hh;have A3:=zH (A4.1.trans hx);clear hh hx A6;refine⟨A3.1,?_⟩;try simp only[ζ]
 refine mC 11 (bs 13 4095) (sL A7 0 2 (Di e.q f.q) (Nw f.up e.up) _ (A0.1.cell (i:=2) rR 0 rR) (A0.1.cell (i:=2) rR 1 rR)) ?_;rintro e B1 ⟨rfl,hx⟩;have A8:=zH (A0.1.step hx);have A2:=zH (A3.1.trans hx);clear hx;apply zm A2.1;refine zx 12 (bs 13 8191) (iV (sM (Di e.q f.q) (Nw f.up e.up))) A2.1 ?_;refine wpAnyH_done kR ?_ _;go_wp2_with fail
 go_ret;exact⟨_,rfl,by show _↔Et e.q e.up f.q f.up=true;rw[<-sK,decide_eq_true_iff],A8.1.ext⟩
end
section
open Go.RowKit Go.Shelf
attribute [local go_sem] Oper.semAt_some
attribute [local go_sem ↓] Go.wp_at_zero Go.wp_at_succ Ea Dz Az Ay
def vU (L X3 Bo:Nat)(ry:RV)(y:Rat)(w W1:World)(pre:List Yq)(W:World):Prop:=
  ∃(A:Option Addr) (n c:Nat) (es:List Cg),Hp w W [.blk X3 31 (rc ry),.blk Bo 74 [.slice A n c],.row 77 5 (.slice A n c) n (List.flatMap Cg.cells es)]/\Ah W1 W/\(∀k,Value.ownBlock (.slice A n c)=some k->W1.heap.size<=k)/\(∀e,e∈es->e.Ok (L+8) W)/\es.map Cg.vl=(pre.map Subtype.val).filterMap (Ei y)/\n=es.length/\n<=pre.length/\W1.heap.size<=W.heap.size
def vV (u:Value)(X3 Bo Bx:Nat)(ry:RV)(W1:World)(x:Yq)(a':Act)(W:World):Prop:=
  ∃ Xa Xb,Al W Xa 24 ([iV x.1.1.1,iV x.1.1.2]:List Value).toArray/\Al W Xb 24 ([iV x.1.2.1,iV x.1.2.2]:List Value).toArray/\Xa≠Xb/\W1.heap.size<=Xa/\W1.heap.size<=Xb/\
    a'={tmps:=#[u,(rg ry),undef,.pointer (π X3),.slice none 0 0,.pointer (π Bo),.pointer (π Xa),.pointer (π Xb),undef,undef,undef,undef,u,.func (.func 103) #[] #[.pointer (π Bx)],.agg #[iV x.1.1.1,iV x.1.1.2],.agg #[iV x.1.2.1,iV x.1.2.2],undef,undef,undef,undef,undef,undef,undef,undef,undef,undef,undef,undef,undef,undef,undef,undef,undef,undef,undef,undef,undef,undef,undef,undef,undef,undef,undef,undef,undef,undef,undef],defers:=[]}
theorem pG (L X3 Bo:Nat)(ry:RV)(y:Rat)(w W1:World)(hw:w.heap.size<=W1.heap.size):OwnFrom W1.heap.size (vU L X3 Bo ry y w W1):=by
  rintro s W W' row ⟨A,n,c,es,h1,h2,h3,h4,h5,h6,h7,h8⟩ hg hr;have d:Ah W W':=Ah.kept hg (fun k hk=>(hr k hk).2);exact⟨A,n,c,es,h1.kept hg (fun k hk=>⟨Aw hw (hr k hk).1,(hr k hk).2⟩),h2.trans d,h3,fun e he=>(h4 e he).dig d,h5,h6,h7,Aw h8 hg.size⟩
theorem pH (u:Value)(X3 Bo Bx:Nat)(ry:RV)(W1:World)(x:Yq)(a':Act):OwnFrom W1.heap.size (fun(_:Unit) W=>vV u X3 Bo Bx ry W1 x a' W):=by
  rintro _ W W' row ⟨Xa,Xb,h1,h2,h3⟩ hg hr;exact⟨Xa,Xb,h1.kept hg (fun k hk=>(hr k hk).2),h2.kept hg (fun k hk=>(hr k hk).2),h3⟩
theorem sV {L:Nat}{w w':World}{a:RV}{q:Rat}(h:a.In L w q)(x:Aa w w'):a.In L w' q:=h.ext x
theorem iL (L:Nat)(u:Value)(rs:List Bb)(ry:RV)(y:Rat)(w:World)(hu:Ch w u rs)(hy:ry.In L w y)(h1L:1<=L)(hL:L<=2000)(hn:rs.length<=1048576)(hr:∀r,r∈rs->r.length<=1048576):
  Calls prog 49 #[u,(rg ry)] w fun e w'=>∃A n c es,e= .returned (.slice A n c)/\n=List.length es/\Bi w' w.heap.size 77 5 (.slice A n c) n (List.flatMap Cg.cells es)/\
   (∀e,e∈es->e.Ok (L+8) w')/\es.map Cg.vl=Fu y rs/\Aa w w':=by
 obtain⟨qs,E1⟩:∃qs,qs=if Hh rs=true then rs else[]:=⟨_,rfl⟩
 have L1:Hh qs=true:=by
  rw[E1];split
  ·assumption
  rfl
 have N4:qs.length<=1048576:=by
  rw[E1];split
  ·exact hn
  simp
 have P8:=zH (show Fu y rs=Stb.stab Ym (Tv y qs)by rw[E1];rfl);have L2:=(((Hp.start w).alloc 31 (rc ry) (by simp[Ar])).alloc 74 [.slice none 0 0] (by simp[Ar])).addNil 77 5;have G8:Aa w ((μ w ry.n ry.p ry.l ry.c ry.m ry.p2 ry.l2 ry.c2).alloc (.cells #[.slice none 0 0] 74)):=((Aa.refl w).alloc _).alloc _;have HC:=zH (Wm u rs _ (hu.ext G8) hn hr);have HY:=zH (hy.ext G8);clear hu hy;have M7:=zH L2;clear L2;have S6:=zH G8;clear G8;refine(callsIn_wide (n:=4)).1 ?_;refine callsIn_of_wp_marks func49 rfl trivial ?_ rfl;simp only[ntmps49,List.size_toArray,xB,List.length_nil,Nat.reduceAdd,Nat.reduceSub,Array.replicate_succ,Array.replicate_zero,List.push_toArray,List.append_toArray,wT,wR];gi_wp2_with (refine⟨trivial,?_⟩;gi_at_call 59;refine(callsIn_wide.2 HC.1).mono ?_;rintro e W1 ⟨Bx,v,rfl,L6,S4,E5,hR,hx⟩)
 rw[<-E1]at hR;have M6:=zH (M7.1.step hx);have HR:=zH hR;have M5:=zH (sV HY.1 hx);have N8:w.heap.size+1<Bx:=by simp at L6;omega
 obtain⟨X3,I5⟩:∃X3,X3=w.heap.size:=⟨_,rfl⟩;obtain⟨Bo,I7⟩:∃Bo,Bo=w.heap.size+1:=⟨_,rfl⟩;have H2:=zH (show Hp w W1 [.blk X3 31 (rc ry),.blk Bo 74 [.slice none 0 0],.row 77 5 (.slice none 0 0) 0 (List.flatMap Cg.cells [])]from by rw[I5,I7];have h:=M6.1;simpa using h);have O0:X3<W1.heap.size:=H2.1.lt (i:=0) (by rfl) rfl;have O1:Bo<W1.heap.size:=H2.1.lt (i:=1) (by rfl) rfl;have P6:=zH (show Gi (fun k=>¬(k=Bo\/W1.heap.size<=k)) W1 v qs from HR.1.imp (fun k h=>by have h1:=h.1;simp at h1;omega));rw[<-I7,<-I5];clear M6 HR M7 HY E1 hx hR L6;have I2:Bx≠Bo:=ω
 clear I5 I7 N8;have H1:=zH (show w.heap.size<=W1.heap.size from by have:=H2.1.ext.size;exact this);have M4:=zH (show Nm.rl y<=L from by have h:=M5.1.rl;omega);refine Tt ω (fun k=>k=Bo\/W1.heap.size<=k) Bx v qs rR E5 (fun hk=>hk.elim I2 (fun h=>ω)) P6.1 N4 L1 (fun k h=> .inr h) (vU L X3 Bo ry y w W1) (pG L X3 Bo ry y w W1 H1.1) ⟨none,0,0,[],H2.1,Ah.refl _,by simp[Value.ownBlock],by simp,rfl,rfl,Bz _,Bz _⟩ (vV u X3 Bo Bx ry W1) (pH u X3 Bo Bx ry W1) ?assign ?body ?done;case assign=>
  intro l pre x W K hi hK;obtain⟨A,n,c,es,hh,hd,A5,B3,B8,B4,C1,D4⟩:=hi;have B5:=zH D4;clear D4;have H0:=zH hh;have HK:=zH hK;have HF:=zH (And.intro A5 (And.intro B8 (And.intro B4 C1)));have B0:=zH B3;have HD:=zH hd;clear hh hK A5 B3 B8 B4 C1 hd;unfold Iq;simp only[zA,zB,zC];refine wpIn_seq ?_;refine Ac kR (fun⟨_,_,h⟩=>h) ?_;apply aA 24 [iV 0,iV 0] H0.1;intro I8 N0 Q6 hx A9;have M2:=zH (show W.heap.size<=I8 from Aw (Fr.of_ext (G:=fun kz=>False) (Aa.refl W)).size A9);have R0:=zH (Ah.of_ext hx);have P3:=zH (show Fr (fun kz=>False) W N0 from(Fr.of_ext (G:=fun kz=>False) (Aa.refl W)).trans (Fr.of_ext hx));clear hx A9;apply aS 3 [iV x.1.1.1,iV x.1.1.2] Q6.1;intro S1 Q5 hd ho;have Q9:=zH (hd);have M3:=zH (P3.1.trans_new ho (fun j hj=> .inr (by injection hj with hj;rw[<-hj];exact M2.1)));clear hd ho;refine Ac kR (fun⟨_,_,h⟩=>h) ?_;apply aA 24 [iV 0,iV 0] Q5.1;intro O2 S0 Q4 hx A9;have M1:=zH (Aw M3.1.size A9);have Q8:=zH (Ah.of_ext hx);have P2:=zH (M3.1.trans (Fr.of_ext hx));clear hx A9;apply aS 4 [iV x.1.2.1,iV x.1.2.2] Q4.1;intro R9 H3 hd ho;have Q7:=zH (hd);have J2:=zH (P2.1.trans_new ho (fun j hj=> .inr (by injection hj with hj;rw[<-hj];exact M1.1)));clear hd ho;have G3:=tD (tD (tD R0 Q9) Q8) Q7;refine HK.1 _ _ (KeepsFrom.of_fr J2.1 (fun _ h=>h.elim)) (J2.1.imp (fun _ h=>h.elim)) ⟨A,n,c,es,H3.1.take 3,HD.1.trans G3.1,HF.1.1,fun e he=>(B0.1 e he).dig G3.1,HF.1.2.1,HF.1.2.2.1,HF.1.2.2.2,Aw B5.1 J2.1.size⟩ ⟨I8,O2,H3.1.blk (i:=3) rR,H3.1.blk (i:=4) rR,?_,Aw B5.1 M2.1,Aw B5.1 M1.1,rfl⟩;exact fun e=>H3.1.apart 3 4 _ _ (by rfl) (by rfl) (by decide) I8 (by rfl) (by rw[e];rfl)
 case body=>
  intro l pre x a' W hi N9 N6;obtain⟨A,n,c,es,hh,hd,A5,B3,B8,B4,C1,D4⟩:=hi;have B5:=zH D4;clear D4;obtain⟨Xa,Xb,I4,I3,L3,L5,L4,rfl⟩:=N9;obtain⟨⟨⟨ax,ay⟩,⟨bx,bY⟩⟩,C0⟩:=x;dsimp only at I4 I3⊢
  have A2:=zH C0;have HD:=zH hd;have A7:=zH A5;have B0:=zH B3;have F5:=zH B8;have D5:=zH B4;have E3:n<4096:=ω
  have J8:=zH C1;have H0:=zH (show Hp w W [.blk X3 31 (rc ry),.blk Bo 74 [.slice A n c],ro 77 5 A n c Cg.cells es,.blk Xa 24 [iV ax,iV ay],.blk Xb 24 [iV bx,iV bY]]from hh.addTyp2 I4 I3 L3 (Aw H1.1 L5) (Aw H1.1 L4) (by simp[Ar]) (by simp[Ar]) (by simp[Dl.typ]));have G9:=zH (M5.1.dig hd);have E2: -1048576<=ay/\ay<=1048576/\ -1048576<=bY/\bY<=1048576:=by have h1:=C0.1;have h2:=C0.2;simp only[Cm,xA,decide_eq_true_eq]at h1 h2;omega
  have A3:=zH E2;clear hh hd A5 B3 B8 B4 I4 I3 L3 E2 C1 L5 L4;refine wpIn_block ?_;refine wpIn_seq ?_;refine Lf (S:=fun x=>Aa W x) kR kR (fun⟨_,_,h⟩=>h) zb (fun _=> ?_);have Q3:=zH (H0.1.step (Aa.refl W).drew);have B2:=zH (Ah.of_ext (w:=W) zb);have P1:=zH (show Fr (fun kz=>kz=Bo\/Value.ownBlock (.slice A n c)=some kz) W W.drew from(Fr.of_ext (G:=fun kz=>kz=Bo\/Value.ownBlock (.slice A n c)=some kz) (Aa.refl W)).trans (Fr.of_ext (Aa.refl W).drew));refine Rt Af zb (bs 12 1) 0 _ ?_;refine Cr (g:=Xa) (o:=1) (v:= iV ay) (i:=1) (listed':=(bs 12 3)) rR kR kR kR (by intro _ _ _ h;exact h) rR (fun x hx=>Aa.get hx (show World.cell? W ⟨Xa,1,none⟩=some (iV ay)from At (H0.1.range (i:=3) rR 1 1))) (by intro x hq;go_simp<;>with_reducible rfl) zb kR ?_;refine Jv H0.1 zb (bs 12 43) 3 5 _ _ ?_;refine Cr (g:=Xb) (o:=1) (v:= iV bY) (i:=6) (listed':=(bs 12 107)) rR kR kR kR (by intro _ _ _ h;exact h) rR (fun x hx=>Aa.get hx (show World.cell? W ⟨Xb,1,none⟩=some (iV bY)from At (H0.1.range (i:=4) rR 1 1))) (by intro x hq;go_simp<;>with_reducible rfl) zb kR ?_;refine Rt H0.1 zb (bs 12 363) 8 _ ?_;refine mC 2 (bs 12 367) (Ff ay _ (by have A4:=A3.1;omega) (by have A4:=A3.1;omega)) ?_;rintro e M9 ⟨c_,rfl,C2,hx⟩;have Q2:=zH (Q3.1.step hx);have B1:=zH (show Ah W.drew M9 from Ah.of_ext hx);have P0:=zH (P1.1.trans (Fr.of_ext hx));have M0:=zH (zb.trans hx);obtain⟨S3,rfl,A8⟩:=C2;have O7:=zH A8;have R3:=zH (Bm ay (by have A4:=A3.1;omega) (by have A4:=A3.1;omega));clear A8 hx;apply zm M0.1;have K8:=tD B2 B1;refine mC 4 (bs 12 383) (Ig (L:=60000) (RV.Is.nin O7.1 (Aw R3.1 ω)) (RV.In.nin (RV.In.mono (G9.1.dig K8.1) ω)) ω) ?_;rintro e R8 ⟨rfl,hx⟩;have Q1:=zH (Q2.1.step hx);have B7:=zH (Ah.of_ext hx);have O9:=zH (P0.1.trans (Fr.of_ext hx));have L9:=zH (M0.1.trans hx);clear hx;apply zm L9.1;refine mC 7 (bs 12 511) (Ff bY _ (by have A4:=A3.1;omega) (by have A4:=A3.1;omega)) ?_;rintro e R7 ⟨c_,rfl,C2,hx⟩;have Q0:=zH (Q1.1.step hx);have B6:=zH (Ah.of_ext hx);have O8:=zH (O9.1.trans (Fr.of_ext hx));have L8:=zH (L9.1.trans hx);obtain⟨S2,rfl,A8⟩:=C2;have O6:=zH A8;have R2:=zH (Bm bY (by have A4:=A3.1;omega) (by have A4:=A3.1;omega));clear A8 hx;apply zm L8.1;have K7:=tD (tD (tD B2 B1) B7) B6;refine mC 9 (bs 12 1023) (Ig (L:=60000) (RV.Is.nin O6.1 (Aw R2.1 ω)) (RV.In.nin (RV.In.mono (G9.1.dig K7.1) ω)) ω) ?_;rintro e R6 ⟨rfl,hx⟩;have F8:=zH (Q0.1.step hx);have B9:=zH (Ah.of_ext hx);have F0:=zH (O8.1.trans (Fr.of_ext hx));have L7:=zH (L8.1.trans hx);clear hx;apply zm L7.1;refine Jv Af L7.1 (bs 12 4095) 10 11 (iV (Di (((ay):Int):Rat) y)) (iV (Di (((bY):Int):Rat) y)) ?_;refine wpAnyH_done kR ?_ _;rcases Ck ((((ay):Int):Rat)<y/\y<(((bY):Int):Rat))with CU|CU
  ·have F7:=zH (bB (a:=(ax,ay)) (b:=(bx,bY)) CU.1)
   have A6:=zH (Ny (a:=ay) (b:=bY) (.inl CU.1));have D9:Di (((ay):Int):Rat) y= -1:=Rj CU.1.1;have D8:Di (((bY):Int):Rat) y=1:=Ri CU.1.2;rw[D9,D8];clear D9 D8;change Code.wpIn _ _ _ _ _ _ _;refine wpIn_seq ?_;refine wpIn_seq ?_;refine Ac kR (fun⟨_,_,h⟩=>h) ?_;refine Bq Af (iV (-1)) _ ?_;apply zp (iV (-1)) (by exact mH (by have A4:=A3.1;omega));apply zp φ (by exact sX (e:=(Aj (by have A4:=A3.1;omega))));change Code.wpIn _ _ _ _ _ _ _;refine wpIn_cond_false rR ?_;refine wpIn_skip ?_;change Code.wpIn _ _ _ _ _ _ _;refine wpIn_seq ?_;refine Ac kR (fun⟨_,_,h⟩=>h) ?_;refine Cn F8.1 _ _ _ ?_;have K6:=tD (tD (tD (tD B2 B1) B7) B6) B9;refine zc (dT L ax ay bx bY _ y _ (G9.1.dig K6.1) h1L ω A2.1.1 A2.1.2 A6.1.1 A6.1.2.1 A6.1.2.2) ?_;rintro e R5 ⟨c_,rfl,C2,hx⟩;have P9:=zH (F8.1.step hx);have M8:=zH (Ah.of_ext hx);have F4:=zH (F0.1.trans (Fr.of_ext hx));obtain⟨A1,rfl,A8⟩:=C2;have O5:=zH A8;have R1:=zH (cG A2.1.1 A2.1.2 M4.1);clear A8 hx;refine zn ?_;refine Cn Af _ _ τ ?_;refine aA 31 rz P9.1 ?_;intro O4 N3 K5 hx A9;have J1:=zH (Aw F4.1.size A9);have D3:=zH (Ah.of_ext hx);have J6:=zH (F4.1.trans (Fr.of_ext hx));clear hx A9;apply aS 5 (rc A1) K5.1;intro D7 G0 hd ho;have D2:=zH (hd);have F3:=zH (J6.1.trans_new ho (fun j hj=> .inr (by injection hj with hj;rw[<-hj];exact J1.1)));clear hd ho;apply zq τ;change Code.wpIn _ _ _ _ _ _ _;refine wpIn_seq ?_;refine Ac kR (fun⟨_,_,h⟩=>h) ?_;apply zq τ;change Code.wpIn _ _ _ _ _ _ _;refine wpIn_cond_true rR ?_;have F6:=zH E3;refine Ac kR (fun⟨_,_,h⟩=>h) ?_;refine Ek G0.1 _ _ _ _ ?_;refine zp (w':=(D7.alloc (.cells ([.bool A1.n,.slice A1.p A1.l A1.c,.bool A1.m,.slice A1.p2 A1.l2 A1.c2,iV 1]:List Value).toArray 77))) (.slice (π D7.heap.size) 1 1) (by go_simp) ?_;refine Hn rR _ _ _ rR mS rR G0.1 (ix:=2) rR 1 1 [.bool A1.n,.slice A1.p A1.l A1.c,.bool A1.m,.slice A1.p2 A1.l2 A1.c2,iV 1] rR rfl (by simp[Value.oneCell']) (by simp[Ar]) dC (by unfold maxLen;exact(by have A4:=A3.1;have H8:=F6.1;omega)) (by have A4:=A3.1;have H8:=F6.1;omega) ?_;intro E7 E9 H7 hf hh hd hg;have G2:=zH hf;clear hf;rw[show List.flatMap Cg.cells es++[.bool A1.n,.slice A1.p A1.l A1.c,.bool A1.m,.slice A1.p2 A1.l2 A1.c2,iV 1]=_ from Ds Cg.cells _ (⟨A1,(Ia ax ay bx bY y),1⟩:Cg)]at hh;have K4:=hN hh;have D1:=zH (hd);have J5:=zH (show Fr (fun kz=>kz=Bo\/Value.ownBlock (.slice A n c)=some kz) W H7 from(F3.1.trans (Fr.of_ext (Ak.alloc _))).trans_new hg (fun j hj=> .inl (.inr hj)));clear hh hd hg;try simp only[ζ]
   apply aU 1 (.slice (π E7) (n+1) E9) K4.1;intro H6 K3 hd ho;have D0:=zH (hd);have C4:=zH (J5.1.trans_new ho (fun j hj=> .inl (.inl (by injection hj with hj;exact hj.symm))));clear hd ho;have G6:=tD (tD (tD D3 D2) D1) D0;have C5:=zH (show Cg.Ok (L+8) H6 (⟨A1,(Ia ax ay bx bY y),1⟩:Cg)from⟨(O5.1.dig G6.1),R1.1,(show(-1:Int)<=1 by decide),(show(1:Int)<=1 by decide)⟩);exact⟨(KeepsFrom.of_fr C4.1 (fun k hk o ho=>hk.elim (fun e=>H0.1.cells (i:=1) (by rfl) (by rw[e];rfl) o ho) (fun e=>H0.1.cells (i:=2) (by rfl) (by exact e) o ho))),(C4.1.imp (fun k hk=>hk.imp id (fun e=>A7.1 k e))),_,_,_,_,K3.1.take 3,HD.1.trans (((((((((B2.1.trans B1.1).trans B7.1).trans B6.1).trans B9.1).trans M8.1).trans D3.1).trans D2.1).trans D1.1).trans D0.1),(fun k hk=>by (have I0:E7=k:=by simpa[Value.ownBlock]using hk);(subst I0);exact G2.1.elim (fun q=>A7.1 _ q) (fun q=>Aw B5.1 (Aw F3.1.size q))),(fun e he=>(List.mem_append.1 he).elim (fun he=>(B0.1 e he).dig (((((((((B2.1.trans B1.1).trans B7.1).trans B6.1).trans B9.1).trans M8.1).trans D3.1).trans D2.1).trans D1.1).trans D0.1)) (fun he=>by rw[List.mem_singleton.1 he];exact C5.1)),(by rw[xI,F5.1,xI,List.filterMap_append];simp[F7.1,Cg.vl]),(by rw[wD,<-D5.1];rfl),(by have h:=J8.1;simp;omega),Aw B5.1 C4.1.size⟩
  rcases Ck ((((bY):Int):Rat)<y/\y<(((ay):Int):Rat))with CD|CD
  ·have F7:=zH (Tw (a:=(ax,ay)) (b:=(bx,bY)) CD.1)
   have A6:=zH (Ny (a:=ay) (b:=bY) (.inr CD.1));have D9:Di (((ay):Int):Rat) y=1:=Ri CD.1.2;have D8:Di (((bY):Int):Rat) y= -1:=Rj CD.1.1;rw[D9,D8];clear D9 D8;change Code.wpIn _ _ _ _ _ _ _;refine wpIn_seq ?_;refine wpIn_seq ?_;refine Ac kR (fun⟨_,_,h⟩=>h) ?_;refine Bq Af _ (iV (-1)) ?_;apply zp (iV (-1)) (by exact mH (by have A4:=A3.1;omega));apply zp φ (by exact sX (e:=(Aj (by have A4:=A3.1;omega))));change Code.wpIn _ _ _ _ _ _ _;refine wpIn_cond_false rR ?_;refine wpIn_skip ?_;change Code.wpIn _ _ _ _ _ _ _;refine wpIn_seq ?_;refine Ac kR (fun⟨_,_,h⟩=>h) ?_;refine Cn F8.1 _ _ _ ?_;have G5:=tD (tD (tD (tD B2 B1) B7) B6) B9;refine zc (dT L ax ay bx bY _ y _ (G9.1.dig G5.1) h1L ω A2.1.1 A2.1.2 A6.1.1 A6.1.2.1 A6.1.2.2) ?_;rintro e N2 ⟨c_,rfl,C2,hx⟩;have K2:=zH (F8.1.step hx);have G7:=zH (Ah.of_ext hx);have F2:=zH (F0.1.trans (Fr.of_ext hx));obtain⟨A0,rfl,A8⟩:=C2;have I9:=zH A8;have K9:=zH (cG A2.1.1 A2.1.2 M4.1);clear A8 hx;refine zn ?_;refine Cn Af _ _ τ ?_;refine aA 31 rz K2.1 ?_;intro O3 N1 K1 hx A9;have J0:=zH (Aw F2.1.size A9);have C9:=zH (Ah.of_ext hx);have J4:=zH (F2.1.trans (Fr.of_ext hx));clear hx A9;apply aS 5 (rc A0) K1.1;intro D6 F9 hd ho;have C8:=zH (hd);have F1:=zH (J4.1.trans_new ho (fun j hj=> .inr (by injection hj with hj;rw[<-hj];exact J0.1)));clear hd ho;apply zq τ;change Code.wpIn _ _ _ _ _ _ _;refine wpIn_seq ?_;refine Ac kR (fun⟨_,_,h⟩=>h) ?_;apply zq τ;change Code.wpIn _ _ _ _ _ _ _;refine wpIn_cond_true rR ?_;have F6:=zH E3;refine Ac kR (fun⟨_,_,h⟩=>h) ?_;refine Ek F9.1 _ _ (iV (-1)) _ ?_;refine zp (w':=(D6.alloc (.cells ([.bool A0.n,.slice A0.p A0.l A0.c,.bool A0.m,.slice A0.p2 A0.l2 A0.c2,iV (-1)]:List Value).toArray 77))) (.slice (π D6.heap.size) 1 1) (by go_simp) ?_;refine Hn rR _ _ _ rR mS rR F9.1 (ix:=2) rR 1 1 [.bool A0.n,.slice A0.p A0.l A0.c,.bool A0.m,.slice A0.p2 A0.l2 A0.c2,iV (-1)] rR rfl (by simp[Value.oneCell']) (by simp[Ar]) dC (by unfold maxLen;exact(by have A4:=A3.1;have H8:=F6.1;omega)) (by have A4:=A3.1;have H8:=F6.1;omega) ?_;intro E6 E8 H5 hf hh hd hg;have G1:=zH hf;clear hf;rw[show List.flatMap Cg.cells es++[.bool A0.n,.slice A0.p A0.l A0.c,.bool A0.m,.slice A0.p2 A0.l2 A0.c2,iV (-1)]=_ from Ds Cg.cells _ (⟨A0,(Ia ax ay bx bY y),-1⟩:Cg)]at hh;have K0:=hN hh;have C7:=zH (hd);have J3:=zH (show Fr (fun kz=>kz=Bo\/Value.ownBlock (.slice A n c)=some kz) W H5 from(F1.1.trans (Fr.of_ext (Ak.alloc _))).trans_new hg (fun j hj=> .inl (.inr hj)));clear hh hd hg;try simp only[ζ]
   apply aU 1 (.slice (π E6) (n+1) E8) K0.1;intro H4 J9 hd ho;have C6:=zH (hd);have C3:=zH (J3.1.trans_new ho (fun j hj=> .inl (.inl (by injection hj with hj;exact hj.symm))));clear hd ho;have G4:=tD (tD (tD C9 C8) C7) C6;have C5:=zH (show Cg.Ok (L+8) H4 (⟨A0,(Ia ax ay bx bY y),-1⟩:Cg)from⟨(I9.1.dig G4.1),K9.1,(show(-1:Int)<= -1 by decide),(show(-1:Int)<=1 by decide)⟩);exact⟨(KeepsFrom.of_fr C3.1 (fun k hk o ho=>hk.elim (fun e=>H0.1.cells (i:=1) (by rfl) (by rw[e];rfl) o ho) (fun e=>H0.1.cells (i:=2) (by rfl) (by exact e) o ho))),(C3.1.imp (fun k hk=>hk.imp id (fun e=>A7.1 k e))),_,_,_,_,J9.1.take 3,HD.1.trans (((((((((B2.1.trans B1.1).trans B7.1).trans B6.1).trans B9.1).trans G7.1).trans C9.1).trans C8.1).trans C7.1).trans C6.1),(fun k hk=>by (have I0:E6=k:=by simpa[Value.ownBlock]using hk);(subst I0);exact G1.1.elim (fun q=>A7.1 _ q) (fun q=>Aw B5.1 (Aw F1.1.size q))),(fun e he=>(List.mem_append.1 he).elim (fun he=>(B0.1 e he).dig (((((((((B2.1.trans B1.1).trans B7.1).trans B6.1).trans B9.1).trans G7.1).trans C9.1).trans C8.1).trans C7.1).trans C6.1)) (fun he=>by rw[List.mem_singleton.1 he];exact C5.1)),(by rw[xI,F5.1,xI,List.filterMap_append];simp[F7.1,Cg.vl]),(by rw[wD,<-D5.1];rfl),(by have h:=J8.1;simp;omega),Aw B5.1 C3.1.size⟩
  have F7:=zH (bC (a:=(ax,ay)) (b:=(bx,bY)) CU.1 CD.1);have J7:=zH (dJ CU.1 CD.1);change Code.wpIn _ _ _ _ _ _ _;refine wpIn_seq ?_;refine wpIn_seq ?_;refine Ac kR (fun⟨_,_,h⟩=>h) ?_;refine Bq Af (iV (Di (((ay):Int):Rat) y)) (iV (Di (((bY):Int):Rat) y)) ?_;apply zp (iV (Di (((ay):Int):Rat) y*Di (((bY):Int):Rat) y)) (by exact mK rR rR rR rfl (by have:=J7.1.1;omega) (by have:=J7.1.2;omega));apply zp τ (by exact sX (e:=(Aq J7.1.1)));change Code.wpIn _ _ _ _ _ _ _;refine wpIn_cond_true rR ?_;refine wpIn_exit ?_;exact⟨(KeepsFrom.of_fr F0.1 (fun k hk o ho=>hk.elim (fun e=>H0.1.cells (i:=1) (by rfl) (by rw[e];rfl) o ho) (fun e=>H0.1.cells (i:=2) (by rfl) (by exact e) o ho))),(F0.1.imp (fun k hk=>hk.imp id (fun e=>A7.1 k e))),A,n,c,es,F8.1.take 3,HD.1.trans ((((B2.1.trans B1.1).trans B7.1).trans B6.1).trans B9.1),A7.1,(fun e he=>(B0.1 e he).dig ((((B2.1.trans B1.1).trans B7.1).trans B6.1).trans B9.1)),(by rw[F5.1,xI,List.filterMap_append];simp[F7.1]),D5.1,(by have h:=J8.1;simp;omega),Aw B5.1 F0.1.size⟩
 rintro D xs W hD H9 ⟨A,n,c,es,hh,hd,A5,B3,B8,B4,C1,D4⟩ hK;have cB:W.cell? ⟨Bo,0,none⟩=some (.slice A n c):=hh.cell (i:=1) (by rfl) 0 (by rfl);have E0:=hh.row (i:=2) (by rfl);have N5:es.length<=20000:=by
  have h1:xs.length=(Cc qs).length:=by rw[<-H9,wU]
  have h2:=Es qs;have h3:=Fc L1;omega
 have P5:=zH (bW (L+8) (.slice A n c) es w.heap.size W (by rw[<-B4];exact E0) B3 (fun w e f he hf=>Xx (L+8) ω w e f he hf) N5);have HH:=zH hh;have F5:=zH B8;have D5:=zH B4;have P7:=zH B3;have P4:=zH H9;have HD:=zH hK;clear E0 hh B8 B4 B3 H9 hK A5 C1 hd;gi_wp2
 refine⟨trivial,?_⟩;gi_at_call 88
 refine(callsIn_wide.2 P5.1).mono ?_;rintro e Ws ⟨rfl,L0,I1⟩;have HS:=zH (HH.1.turn (i:=2) (e:= .row 77 5 (.slice A n c) n (List.flatMap Cg.cells es)) (e':= .row 77 5 (.slice A n c) n (List.flatMap Cg.cells (Stb.stab Rd es))) (by rfl) (fun k h=>h) I1 (by rw[<-D5.1]at L0;exact L0) (fun k hk=> .inl hk));have S5:Ws.cell? ⟨Bo,0,none⟩=some (.slice A n c):=HS.1.cell (i:=1) (by rfl) 0 (by rfl);gi_wp2
 have I6:Ws.heap[D]?=some (.deferred (some [])):=(I1.block D (Array.getElem?_eq_some_iff.1 HD.1).1 (fun e=>by
  have h1:=HH.1.cells (i:=2) (by rfl) (by exact e.symm) _ HD.1;cases h1)).trans HD.1
 refine⟨by simp,.inl ⟨_,_,rfl,run_takeDeferred I6,?_⟩⟩;have E4:=HS.1.kept (grownBy_putObj' Ws D (.deferred none)) (fun k hk=>by injection hk with hk;subst hk;exact⟨Aw H1.1 hD,_,I6,rfl⟩);have N7:Ah W _:=((HH.1.growDig (i:=2) (by rfl) I1).trans (Ah.kept (grownBy_putObj' Ws D (.deferred none)) (fun k hk=>by injection hk with hk;subst hk;exact⟨_,I6,rfl⟩)));refine⟨_,results_tmp rfl _ _ _,A,n,c,Stb.stab Rd es,rfl,by rw[Stb.stab_len];exact D5.1,E4.row (i:=2) rR,fun e he=>(P7.1 e ((Stb.mem_stab).1 he)).dig N7,?_,E4.ext⟩;rw[P8.1,Ob Cg.vl (lt:=Rd) (lt':=Ym) (fun _ _=>rfl),F5.1,P4.1];rfl
end
section
attribute [local go_sem ↓] Go.wp_at_zero Go.wp_at_succ Az Ay
def Cg.cx (e:Cg):List Value:=(rc e.a)
def Cg.cu (e:Cg):List Value:=[iV e.up]
theorem Cg.cx_len (e:Cg):e.cx.length=4:=rfl
theorem Cg.cu_len (e:Cg):e.cu.length=1:=rfl
theorem Tg (y:Rat)(rs:List Bb):(Fu y rs).length<=4096:=by
  unfold Fu;rw[Stb.stab_len];unfold Tv;refine Aw (List.length_filterMap_le _ _) (Aw (Es _) ?_);split
  · rename_i h;exact Fc h
  decide
def Uh (L:Nat)(rs:List Bb)(y:Rat)(w:World)(e:Ending)(w':World):Prop:=
  ∃(A1:Option Addr) (c1:Nat) (A2:Option Addr) (c2:Nat) (n:Nat) (es:List Cg),e= .returned (.tuple #[.slice A1 n c1,.slice A2 n c2])/\n=List.length es/\Bi w' w.heap.size 31 4 (.slice A1 n c1) n (List.flatMap Cg.cx es)/\Bi w' w.heap.size 3 1 (.slice A2 n c2) n (List.flatMap Cg.cu es)/\
      (∀e,e∈es->e.Ok (L+8) w')/\es.map Cg.vl=Fu y rs/\Aa w w'
theorem Ut {α:Type}{l:List α}{k:Nat}{e:α}(h:l[k]?=some e):l.take (k+1)=l.take k++[e]:=by rw[List.take_add_one,h];rfl
end
section
def Oq (ms:List QI)(k:Nat):Int:=((ms.take k).map fun a=>a.2).sum
theorem Vm {ms:List QI}{k:Nat}{a:QI}(h:ms[k]?=some a):Oq ms (k+1)=Oq ms k+a.2:=by
  unfold Oq;rw[Ut h,xI,List.sum_append];simp
theorem Si:∀(ms:List QI) (s:Int) (k:Nat) (a b:QI),ms[k]?=some a->ms[k+1]?=some b->(Nh s ms)[k]?=some ((a.1,b.1),s+Oq ms (k+1))
 | [],s,k,a,b,h,_=>by simp at h
 | [x],s,0,a,b,_,h=>by simp at h
 | [x],s,k+1,a,b,h,_=>by simp at h
 |x::y::t,s,0,a,b,h1,h2=>by
  simp at h1 h2;subst h1 h2;simp[Nh,Oq]
 |x::y::t,s,k+1,a,b,h1,h2=>by
  have ih:=Si (y::t) (s+x.2) k a b (by simpa using h1) (by simpa using h2);show(Nh (s+x.2) (y::t))[k]?=_;rw[ih];have e:Oq (x::y::t) (k+1+1)=x.2+Oq (y::t) (k+1):=by unfold Oq;rw[List.take_succ_cons];simp
  rw[e];congr 2;omega
theorem Io:∀(ms:List QI) (s:Int),(Nh s ms).length=ms.length-1
  | [],s=>rfl
  | [x],s=>rfl
  | x::y::t,s=>by
    have:=Io (y::t) (s+x.2);simp[Nh,this]
theorem Oh {rule:Int}{l:List (QQ×Int)}{k:Nat}{r:QQ×Int}(h:l[k]?=some r):eF rule (l.take (k+1))=eF rule (l.take k)++(if Gr r.2 rule=true then[r.1]else[]):=by rw[Ut h,oH,oF]
theorem oG (rule:Int)(l:List (QQ×Int)):(eF rule l).length<=l.length:=by
  unfold eF;rw[wU];exact List.length_filter_le _ _
theorem Bv.Ok.dig {L:Nat}{w w':World}{e:Bv}(h:e.Ok L w)(d:Ah w w'):e.Ok L w':=⟨h.1.dig d,h.2.1.dig d,h.2.2⟩
theorem Bi.base {w:World}{b b':Nat}{t:TypeId}{size:Nat}{v:Value}{n:Nat}{xs:List Value}(h:Bi w b t size v n xs)(hb:b'<=b):Bi w b' t size v n xs:=by
  obtain⟨h1,h2|⟨g,A0,rest,a,c,d⟩⟩:=h
  · exact⟨h1,.inl h2⟩
  exact⟨h1,.inr ⟨g,A0,rest,a,Aw hb c,d⟩⟩
theorem Hf.base {L:Nat}{w:World}{b b':Nat}{v:Value}{es:List Bv}(h:Hf L w b v es)(hb:b'<=b):Hf L w b' v es:=⟨h.1.base hb,h.2⟩
end
section
theorem Xj {a b:Int×Int}{rs:List Bb}{z:Rat}(h:z∈Eb a b rs):(a.2:Rat)<=z/\z<=(b.2:Rat):=by
  unfold Eb at h;split at h
  · rename_i k
    have A0:(a.2:Rat)<(b.2:Rat):=by exact_mod_cast k.2.2.2
    rcases It.1 h with e|⟨_,e1,e2⟩
    · simp at e
      rcases e with rfl|rfl
      · exact⟨Rat.le_refl,Rat.le_of_lt A0⟩
      exact⟨Rat.le_of_lt A0,Rat.le_refl⟩
    exact⟨Rat.le_of_lt e1,Rat.le_of_lt e2⟩
  simp at h
theorem Zk (a b:Int×Int)(rs:List Bb):(Eb a b rs).Pairwise (· < ·):=by
  unfold Eb;split
  · rename_i k
    have A0:(a.2:Rat)<(b.2:Rat):=by exact_mod_cast k.2.2.2
    exact Ot (by simp[A0])
  simp
theorem oL {a b:Int×Int}{rs:List Bb}{z:Rat}(k:Uo a b rs)(h:z∈Lj a b rs)(h1:(a.2:Rat)<z)(h2:z<(b.2:Rat)):z∈Eb a b rs:=by
  unfold Eb;rw[if_pos k];exact It.2 (.inr ⟨h,h1,h2⟩)
theorem iN {a b:Int×Int}{rs:List Bb}{y p q:Rat}{i:Nat}(k:Uo a b rs)(hy:y∈Lj a b rs)(hp:(Eb a b rs)[i]?=some p)(hq:(Eb a b rs)[i+1]?=some q):¬(p<y/\y<q):=by
 rintro⟨h1,h2⟩;have bp:=Xj (wE hp);have bq:=Xj (wE hq);have hm:=oL k hy (by grind) (by grind);obtain⟨j,hj⟩:=List.mem_iff_getElem?.1 hm;have hs:=List.pairwise_iff_getElem.1 (Zk a b rs);obtain⟨li,ei⟩:=List.getElem?_eq_some_iff.1 hp;obtain⟨lq,eq⟩:=List.getElem?_eq_some_iff.1 hq;obtain⟨lj,ej⟩:=List.getElem?_eq_some_iff.1 hj;rcases Nat.lt_trichotomy j i with h|h|h
 ·have:=hs j i lj li h;rw[ej,ei]at this;grind
 ·subst h;rw[ej]at ei;rw[ei]at h1;exact absurd h1 (Rat.lt_irrefl)
 rcases Nat.lt_trichotomy j (i+1)with h'|h'|h'
 ·omega
 ·subst h';rw[ej]at eq;rw[eq]at h2;exact absurd h2 (Rat.lt_irrefl)
 have:=hs (i+1) j lq lj h';rw[ej,eq]at this;grind
end
section
theorem Tf (y:Rat)(rs:List Bb):Fu y rs=Stb.stab Ym ((Ab rs).filterMap (Ei y)):=rfl
def vH (e:Df)(y:Rat):Rat:=Ia e.1.1 e.1.2 e.2.1 e.2.2 y
theorem qJ (e:Df)(y:Rat):vH e y=rW e.1 e.2*y+((e.1.1:Rat)-(e.1.2:Rat)*rW e.1 e.2):=jP e.1 e.2 y
theorem Wn {rs:List Bb}{e:Df}(h:e∈Cc rs):∃r,r∈rs/\e.1∈r/\e.2∈r:=by
  unfold Cc at h;obtain⟨r,hr,h⟩:=List.mem_flatMap.1 h;unfold Ef at h;obtain⟨i,_,h⟩:=List.mem_filterMap.1 h;unfold Lz at h;split at h
  · rename_i a b ha hb
    split at h
    · cases h
    injection h with h;subst h;exact⟨r,hr,wE ha,wE hb⟩
  cases h
section
variable {a b:Int×Int} {rs:List Bb} {p q:Rat} {i:Nat}
theorem gap (k:Uo a b rs)(hp:(Eb a b rs)[i]?=some p)(hq:(Eb a b rs)[i+1]?=some q){r:Rat}(h1:p<r)(h2:r<q):r∉Lj a b rs:=fun h=>iN k h hp hq ⟨h1,h2⟩
def Jk (rule:Int)(a b:Int×Int)(rs:List Bb)(y:Rat):Rat:=Fh (a.1:Rat) (b.1:Rat) (Jl rule (Fu y rs))
end
end
section
def En (rule:Int)(a b:Int×Int)(rs:List Bb):Rat:=if b.1<=a.1\/b.2<=a.2 then 0 else Ed (Jk rule a b rs) (Eb a b rs)
theorem dX {rule:Int}{a b:Int×Int}{rs:List Bb}(h:a.1<=b.1)(y:Rat):Jk rule a b rs y<=(b.1:Rat)-(a.1:Rat):=Xy _ (Kt _).1 (by exact_mod_cast h)
theorem dW {rule:Int}{a b:Int×Int}{rs:List Bb}(y:Rat):0<=Jk rule a b rs y:=pM _ _ _
end
end Go.Proofs.YthlfilomhgeheaaGreat
