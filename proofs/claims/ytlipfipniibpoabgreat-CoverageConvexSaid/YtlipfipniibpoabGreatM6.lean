import Derived.Test.YtlipfipniibpoabGreatProg
import Derived.Calls
import Derived.Shelf.SlSortCmp.NoneTotal
import Derived.Sort.CutIn
import Derived.Sort.LoopGhostIn
import Derived.Maps.Own
import Derived.Maps.OwnOps
import Derived.Test.YtlipfipniibpoabGreatM5
set_option maxRecDepth 100000
set_option maxHeartbeats 4000000
namespace Go.Proofs.YtlipfipniibpoabGreat
open Go.RowKit
open Go.Proofs.Tryz
section
def Zu {α:Type}:Result α->World
  | .ok _ w=>w
  | .halt _ w=>w
theorem rE {α:Type}(x:Ask α):∀w:World,w.drawn<=(w.ask x).2.drawn:=by
  induction x with
  |done a=>intro w;exact Cl _
  | ask what range k ih=>
    intro w;simp only[World.ask];split
    · exact ih _ w
    exact Av (Nat.le_succ _) (ih _ {w with drawn:=w.drawn+1})
theorem Xo (w:World)(c:Sys):w.drawn<=(w.sys c).2.drawn:=by
  have h:=rE (Kernel.perform c w.os) w;unfold World.sys;split
  · exact Cl _
  rename_i h1;rw[h1]at h;exact h
theorem St {p:Program}{w:World}{a:Addr}{u:TypeId}{k:Addr}{v:Value}{b:Bool}{r:World×List Addr}(h:w.viewStore p a u k v b= .ok r):r.1.drawn=w.drawn:=by
  unfold World.viewStore at h;simp only[bind,Except.bind,pure,Except.pure]at h;repeat' split at h
  all_goals first|(cases h;rfl)|(cases h)
theorem Mp {p:Program}{w:World}{a:Addr}{v:Value}{b:Bool}{r:World×List Addr}(h:w.farStore p a v b= .ok r):r.1.drawn=w.drawn:=by
  unfold World.farStore at h;split at h
  · split at h
    · rename_i h2
      cases h;exact St h2
    cases h
  cases h
theorem Qy {α:Type}(p:Program)(s:Sem α):∀w:World,w.drawn<=(Zu (s.run p w)).drawn:=by
  induction s with
  |pure a=>intro w;exact Cl _
  | load m a k ih=>
    intro w;unfold Sem.run;split
    · exact ih _ w
    split
    · exact ih _ w
    exact Cl _
  | store m a v k ih=>
    intro w;cases v<;>simp only[Sem.run]<;>first
      |exact Cl _
      | (split
         · split
           · exact Cl _
           exact ih (w.setCell a _)
         split
         · rename_i h;have e:=Mp h;rw[<-e];exact ih _
         exact Cl _)
  |new o k ih=>intro w;exact ih _ {w with heap:=w.heap.push o}
  |shape r k ih=>intro w;exact ih _ w
  | freeze a n k ih=>
    intro w;have h:=ih (w.freeze a n);have e:(w.freeze a n).drawn=w.drawn:=by unfold World.freeze;split<;>rfl
    rw[e]at h;exact h
  |frozen a k ih=>intro w;exact ih _ w
  | getObj r k ih=>
    intro w;unfold Sem.run;split
    · exact Cl _
    · exact ih _ w
    exact Cl _
  | setObj r o k ih=>
    intro w;unfold Sem.run;split
    · exact Cl _
    · exact ih {w with heap:=w.heap.setIfInBounds r o}
    exact Cl _
  | choose q k ih=>
    intro w;unfold Sem.run;split
    · exact ih _ w
    exact Av (Nat.le_succ _) (ih _ {w with drawn:=w.drawn+1})
  |sys c k ih=>intro w;exact Av (Xo w c) (ih _ _)
  |program k ih=>intro w;exact ih _ w
  |mark m k ih=>intro w;exact ih w
  |halt h=>intro w;exact Cl _
theorem Ez {α:Type}(p:Program)(s:Sem α):∀(w:World) (es:Array Event),w.drawn<=(Zu (s.runT p w es).1).drawn:=by
  induction s with
  |pure a=>intro w es;exact Cl _
  | load m a k ih=>
    intro w es;unfold Sem.runT;split
    · exact ih _ w _
    split
    · exact ih _ w _
    exact Cl _
  | store m a v k ih=>
    intro w es;cases v<;>simp only[Sem.runT]<;>first
      |exact Cl _
      | (split
         · split
           · exact Cl _
           exact ih (w.setCell a _) _
         split
         · rename_i h;have e:=Mp h;rw[<-e];exact ih _ _
         exact Cl _)
  |new o k ih=>intro w es;exact ih _ {w with heap:=w.heap.push o} _
  |shape r k ih=>intro w es;exact ih _ w _
  | freeze a n k ih=>
    intro w es;have h:=ih (w.freeze a n) es;have e:(w.freeze a n).drawn=w.drawn:=by unfold World.freeze;split<;>rfl
    rw[e]at h;exact h
  |frozen a k ih=>intro w es;exact ih _ w _
  | getObj r k ih=>
    intro w es;unfold Sem.runT;split
    · exact Cl _
    · exact ih _ w _
    exact Cl _
  | setObj r o k ih=>
    intro w es;unfold Sem.runT;split
    · exact Cl _
    · exact ih {w with heap:=w.heap.setIfInBounds r o} _
    exact Cl _
  | choose q k ih=>
    intro w es;unfold Sem.runT;split
    · exact ih _ w _
    exact Av (Nat.le_succ _) (ih _ {w with drawn:=w.drawn+1} _)
  |sys c k ih=>intro w es;exact Av (Xo w c) (ih _ _ _)
  |program k ih=>intro w es;exact ih _ w _
  |mark m k ih=>intro w es;exact ih w _
  |halt h=>intro w es;exact Cl _
theorem Fz {α:Type}{p:Program}{s:Sem α}{w w':World}{a:α}(h:s.run p w= .ok a w'):w.drawn<=w'.drawn:=by
  have h2:=Qy p s w;rw[h]at h2;exact h2
theorem sX {α:Type}{p:Program}{s:Sem α}{w w':World}{a:Halt}(h:s.run p w= .halt a w'):w.drawn<=w'.drawn:=by
  have h2:=Qy p s w;rw[h]at h2;exact h2
theorem lE {α:Type}{p:Program}{s:Sem α}{w w':World}{a:α}{es es':Array Event}(h:s.runT p w es=(.ok a w',es')):w.drawn<=w'.drawn:=by
  have h2:=Ez p s w es;rw[h]at h2;exact h2
theorem oE {α:Type}{p:Program}{s:Sem α}{w w':World}{a:Halt}{es es':Array Event}(h:s.runT p w es=(.halt a w',es')):w.drawn<=w'.drawn:=by
  have h2:=Ez p s w es;rw[h]at h2;exact h2
def Sm (d:Nat):GStep->Prop
  | .go _ w _=>d<=w.drawn
  | .comm _ _ _ _ w _=>d<=w.drawn
  | .spawn _ _ w _=>d<=w.drawn
  | .count _ w _=>d<=w.drawn
  | .timer _ _ w _=>d<=w.drawn
  | .alone _ _ w _=>d<=w.drawn
  | .newcoro _ _ _ w _=>d<=w.drawn
  | .coroswitch _ _ _ w _=>d<=w.drawn
  | .collect _ w _=>d<=w.drawn
  | .watch _ w _=>d<=w.drawn
  | .ended .. =>True
theorem Jo {d:Nat}{es:Array Event}{g:GStep}:Sm d (GStep.after es g)=Sm d g:=by cases g<;>rfl
theorem Om {c:Prop}[Decidable c]{a b:GStep}{d:Nat}(h1:Sm d a)(h2:Sm d b):Sm d (if c then a else b):=by
  split
  · exact h1
  exact h2
theorem jW (d:Nat)(w:World)(n:Nat)(t:ByteArray)(o:Outcome):Sm d (endWith w n t o):=by
  unfold endWith;dsimp only
  repeat' split
  all_goals exact True.intro
theorem Mq {d:Nat}{p:Program}{fr:Frame}{v:Value}{w:World}(h:d<=w.drawn):Sm d (endPrinting p fr v w):=by
  unfold endPrinting;dsimp only
  split
  · exact h
  exact True.intro
theorem So {d:Nat}{p:Program}{fr:Frame}{cs:List Frame}{dy:Option Dying}{m:String}{w:World}(h:d<=w.drawn):Sm d (endFatal p fr cs dy m w):=by
  unfold endFatal;dsimp only
  split
  · rename_i h1
    exact Av h (Fz h1)
  · exact True.intro
  exact True.intro
theorem Ms {d:Nat}{p:Program}{b:Bool}{fr:Frame}{cs:List Frame}{dy:Option Dying}{v:Value}{w:World}(h:d<=w.drawn):Sm d (doReturn p b fr cs dy v w):=by
  unfold doReturn;repeat' split
  all_goals first|exact h|exact True.intro
theorem Ta {p:Program}{fr:Frame}{cs:List Frame}{dy:Option Dying}{d:Deferred}{w:World}:Sm w.drawn (callDeferred p fr cs dy d w):=by
  unfold callDeferred;refine Om True.intro ?_
  · have h:=Ez p (invoke d.target d.args) w #[]
    generalize (invoke d.target d.args).runT p w #[]=q at h;obtain⟨r,es⟩:=q;dsimp only
    rw[Jo];repeat' split
    all_goals first|exact h|exact True.intro|exact So h
theorem nI {p:Program}{b:Bool}{fr:Frame}{cs:List Frame}{dy:Option Dying}{w:World}:Sm w.drawn (unwind p b fr cs dy w):=by
  unfold unwind;split
  · rename_i block _ _ _
    have h:=Ez p (Instr.takeDeferred block) w #[];generalize (Instr.takeDeferred block).runT p w #[]=q at h;obtain⟨r,es⟩:=q;dsimp only
    rw[Jo];split
    · exact h
    exact True.intro
  · exact Ta
  split
  · exact True.intro
  · split
    · exact True.intro
    split
    · exact Cl _
    split
    · split
      · exact Cl _
      split
      · rename_i h1
        exact Fz h1
      · exact True.intro
      exact True.intro
    split
    · exact Mq (Cl _)
    exact True.intro
  split
  · exact Ms (Cl _)
  rename_i fn _;have h:=Ez p (results fn fr.tmps) w #[];generalize (results fn fr.tmps).runT p w #[]=q at h
  obtain⟨r,es⟩:=q;dsimp only
  rw[Jo];split
  · exact Ms h
  · exact True.intro
  exact True.intro
theorem hO {p:Program}{fr:Frame}{d:Dying}{f:Fatal}{w:World}:Sm w.drawn (writeOn p fr d f w):=by
  unfold writeOn;dsimp only
  split
  · exact True.intro
  split<;>rename_i h1<;>first|exact True.intro|exact lE h1|exact oE h1
theorem aDP {p:Program}{fr:Frame}{d:Dying}{w:World}:Sm w.drawn (die p fr d w):=by
  unfold die;split
  · exact hO
  split
  · split
    · exact Cl _
    exact jW _ _ _ _ _
  dsimp only
  split
  · exact Cl _
  · split
    · rename_i h1
      exact Fz h1
    exact True.intro
  · rename_i t recv name _
    have h:=Ez p (invoke (.fn (.method name) #[]) #[.iface t recv]) w #[];generalize (invoke (.fn (.method name) #[]) #[.iface t recv]).runT p w #[]=q at h;obtain⟨r,es⟩:=q;dsimp only
    rw[Jo];split;all_goals first|exact h|exact True.intro|exact Mq h
  exact True.intro
theorem vJ {p:Program}{fr:Frame}{cs:List Frame}{dy:Option Dying}{g d:Nat}{w:World}(h:d<=w.drawn):Sm d (early p fr cs dy g w):=by
  have hn:∀w:World,d<=w.drawn->Sm d (match w.heap[g]?with
    |some (.pending c elem)=>GStep.go {frame:=fr,callers:=cs,status:= .running,dying:=dy} {w with heap:=w.heap.setIfInBounds g (.cells c elem)}
    |_=> .ended (.stuck "early: the variable does not wait" (fr.pos p)) w):=by
    intro w hw;split
    · exact hw
    exact True.intro
  unfold early;dsimp only
  refine Om (hn w h) ?_;split
  · exact True.intro
  refine Om (hn w h) (Om (hn w h) ?_);split
  · exact True.intro
  · exact h
  · exact True.intro
  · exact hn w h
  refine Om h (Om (hn w h) ?_);split
  · rename_i h1;exact hn _ (Av h (Fz h1))
  · rename_i h1;exact Av h (Fz h1)
  exact True.intro
theorem Mw {p:Program}{l:Bool}{fr:Frame}{cs:List Frame}{dy:Option Dying}{s:Sem Next}{w:World}:Sm w.drawn (stepG.apply p l fr cs dy s w):=by
  unfold stepG.apply;dsimp only
  generalize hq:(if l=true then s.runT p w #[]else(s.run p w,#[]))=q;have h:w.drawn<=(Zu q.1).drawn:=by
    subst hq;split
    · exact Ez p s w #[]
    exact Qy p s w
  obtain⟨r,es⟩:=q;dsimp only
  rw[Jo];cases r with
  | ok v w1=>
    have h:w.drawn<=w1.drawn:=h;cases v;all_goals (try dsimp only)
    all_goals (repeat' split)
    all_goals first|exact h|exact True.intro
  | halt v w1=>
    have h:w.drawn<=w1.drawn:=h;cases v with
    | unsupported u=>
      cases u with
      |initOrder g=>exact vJ h
      |_=>exact True.intro
    |fatal m=>exact So h
    |_=>first|exact h|exact True.intro
theorem yH {p:Program}{l:Bool}{fr:Frame}{cs:List Frame}{dy:Option Dying}{w:World}:Sm w.drawn (stepG.oper p l fr cs dy w):=by
  unfold stepG.oper;split
  · exact True.intro
  split
  · exact Mw
  exact Mw
theorem mK {α:Type}{o:Option α}{a:GStep}{f:α->GStep}{d:Nat}(h1:Sm d a)(h2:∀x,Sm d (f x)):Sm d (o.elim a f):=by
  cases o with
  |none=>exact h1
  |some x=>exact h2 x
theorem aAU {d e:Nat}{g:GStep}(h:d<=e)(hg:Sm e g):Sm d g:=by
  cases g<;>first|exact Av h hg|exact True.intro
theorem dT {α:Type}{p:Program}{s:Sem α}{w w':World}{a:α}{es:Array Event}(h:(s.runT p w es).1= .ok a w'):w.drawn<=w'.drawn:=by
  have h2:=Ez p s w es;rw[h]at h2;exact h2
theorem iO {α:Type}{p:Program}{s:Sem α}{w w':World}{a:Halt}{es:Array Event}(h:(s.runT p w es).1= .halt a w'):w.drawn<=w'.drawn:=by
  have h2:=Ez p s w es;rw[h]at h2;exact h2
theorem zS {p:Program}{b l:Bool}{fr:Frame}{cs:List Frame}{dy:Option Dying}{w:World}:Sm w.drawn (stepG.exec p b l fr cs dy w):=by
  have hl:∀(A0:Option Code) (ok:Bool),Sm w.drawn (match fr.roundOf with
      |none=>if ok=true then GStep.go {frame:={fr with mode:= .returning},callers:=cs,status:= .running,dying:=dy} w else .ended (.stuck "exit, goto: no such block or label" (fr.pos p)) w
      | some l=>
        let (r,es):=(Instr.endRound l A0).runT p w #[]
        GStep.after (seen p fr.fn es)<|match r with
        | .ok v w=>doReturn p b fr cs dy v w
        | .halt _ w=> .ended (.stuck "range over a function: no such loop" (fr.pos p)) w):=by
    intro A0 ok;split
    · refine Om (Cl _) True.intro
    split;rename_i h1;rw[Jo];split
    · exact Ms (lE h1)
    exact True.intro
  unfold stepG.exec;dsimp only
  split;all_goals first|exact hl _ _|exact Cl _|exact True.intro|exact Mw|exact mK (hl _ _) (fun _=>Cl _)|exact mK True.intro (fun _=>Mw)|skip
  all_goals (try rw[Jo])
  all_goals (repeat' split)
  all_goals first|exact Cl _|exact True.intro|exact yH|(rename_i h1;first|exact dT h1|exact iO h1|exact Fz h1|exact aAU (dT h1) Mw)
theorem sD {p:Program}{b l:Bool}{g:Goroutine}{w:World}:Sm w.drawn (stepG p b g w l):=by
  unfold stepG;dsimp only
  split
  · exact aDP
  · exact zS
  exact nI
def wW (d:Nat):Stepped->Prop
  | .next m=>d<=m.world.drawn
  | .ended .. =>True
theorem jQ {β:Type}{c:Prop}[Decidable c]{a b:Stepped×β}{d:Nat}(h1:wW d (a.1))(h2:wW d (b.1)):wW d ((if c then a else b).1):=by
  split
  · exact h1
  exact h2
theorem Wg {p:Program}{rest:Rest}{gs:Array Goroutine}{i:Nat}{g:Goroutine}{cases:Array CommCase}{b:Bool}{sh:CommShape}{w:World}:wW w.drawn ((communicate p rest gs i g cases b sh w).1):=by
  unfold communicate;dsimp only
  refine jQ True.intro (jQ (jQ ?_ ?_) ?_)
  · split
    · rename_i h1
      unfold waitingAt at h1;split at h1
      · split at h1
        · cases h1;exact Cl _
        cases h1
      cases h1;exact Cl _
    exact True.intro
  · exact Cl _
  split
  · exact True.intro
  rename_i h1;have h:=Fz h1;repeat' split
  all_goals first|exact h|exact True.intro|exact Av h (sX (by assumption))|(rename Sem.run p (choose _) _=Result.ok _ _=>h9;have A0:=Fz h9;exact Av h A0)
theorem lO {p:Program}{rest:Rest}{gs:Array Goroutine}{w:World}:wW w.drawn (look p gs rest w):=by
  unfold look;dsimp only
  repeat' split
  all_goals first|exact True.intro|(rename Sem.run p _ w=Result.ok _ _=>h9;have A0:=Fz h9;exact A0)
theorem fT (w:World)(c:Nat):(drain w c).2.drawn=w.drawn:=by
  unfold drain;split<;>rfl
theorem Pn (m:Machine)(k:Nat)(t:Timer)(a b:Nat):(retime m k t a b).2.world.drawn=m.world.drawn:=by
  unfold retime;dsimp only
  split
  · exact fT _ _
  rfl
theorem Sj {m m':Machine}{var:Addr}{f:Nat->Timer->Value×Machine}{v:Value}{d:Nat}(hf:∀k t,(f k t).2.world.drawn=d)(h:timerOp.named m var f= .ok (v,m')):m'.world.drawn=d:=by
  unfold timerOp.named at h;split at h
  · rename_i k _
    have e:=hf k (m.rest.timers.getD k default);injection h with h
    rw[h]at e;exact e
  cases h
theorem iB {m m':Machine}{op:TimerOp}{v:Value}(h:timerOp m op= .ok (v,m')):m'.world.drawn=m.world.drawn:=by
  cases op with
  | new t=>
    simp only[timerOp]at h;split at h
    · cases h;rfl
    split at h
    · split at h
      · cases h
      cases h;rfl
    cases h
  |stop var=>exact Sj (fun k t=>Pn m k t 0 t.period) h
  | reset var a b=>
    simp only[timerOp]at h;split at h
    · rename_i m2 h2
      have e:m2.world.drawn=m.world.drawn:=by
        unfold timerOp.opened at h2;split at h2
        · split at h2
          · cases h2;rfl
          cases h2
        cases h2;rfl
      exact Sj (fun k t=>(Pn m2 k t a b).trans e) h
    cases h
  | deadline ctx r w t=>
    simp only[timerOp]at h;cases h;rfl
theorem sP {p:Program}{m:Machine}{k:Nat}:wW m.world.drawn (serve p m k):=by
  unfold serve;split
  · exact True.intro
  · exact Cl _
  dsimp only
  split
  · exact True.intro
  exact Cl _
theorem aCA {p:Program}{m:Machine}{i:Nat}{l:Bool}:wW m.world.drawn ((Go.runT p m i l).1):=by
  unfold Go.runT;dsimp only
  generalize hs:stepG p (i==0) _ m.world l=s;have h:Sm m.world.drawn s:=by rw[<-hs];exact sD
  cases s with
  | comm g c b sh w es=>
    have h:m.world.drawn<=w.drawn:=h;have hc:=Wg (p:=p) (rest:=m.rest) (gs:=(m.gs.swapAt! i {(default:Goroutine)with status:= .finished}).2) (i:=i) (g:=g) (cases:=c) (b:=b) (sh:=sh) (w:=w);dsimp only
    revert hc
    generalize communicate p m.rest _ i g c b sh w=q;intro hc;obtain⟨r,A0⟩:=q;cases r with
    |next m2=>exact Av h hc
    |ended=>exact True.intro
  | collect g w es=>
    have h:m.world.drawn<=w.drawn:=h;have hc:=lO (p:=p) (gs:=(m.gs.swapAt! i {(default:Goroutine)with status:= .finished}).2.setIfInBounds i g) (rest:=m.rest) (w:=w);dsimp only
    revert hc
    generalize look p _ m.rest w=q;intro hc;cases q with
    |next m2=>exact Av h hc
    |ended=>exact True.intro
  | timer g op w es=>
    have h:m.world.drawn<=w.drawn:=h;dsimp only
    split
    · rename_i h2
      have e:=iB h2;exact Av h (kXX e.symm)
    all_goals first|exact True.intro|exact h
  | coroswitch g c ex w es=>
    have h:m.world.drawn<=w.drawn:=h;dsimp only
    repeat' split
    all_goals first|exact h|exact True.intro|(rename endThrow _ _ _=GStep.go _ _ _=>h9;unfold endThrow dieOf at h9;cases h9;exact h)
  | count g w es=>
    have h:m.world.drawn<=w.drawn:=h;dsimp only
    split
    · exact True.intro
    exact h
  |_=>first|exact h|exact True.intro
def aBB (d:Nat):Move->Prop
  | .goroutine m _=>d<=m.world.drawn
  | .machine s _=>wW d s
theorem Rl {c:Prop}[Decidable c]{a b:Move}{d:Nat}(h1:aBB d a)(h2:aBB d b):aBB d (if c then a else b):=by
  split
  · exact h1
  exact h2
theorem aQ {p:Program}{rs:List Nat}{d:Nat}(m:Machine)(h:d<=m.world.drawn):aBB d (match (choose (.sched rs.length)).run p m.world with
      | .halt _ w=>Move.machine (.ended (.stuck "sched" "") w)
      | .ok k world=>
        if rs.length<=1 then .goroutine {m with world} (rs.getD k 0)else
        match (choose (.extern "sched.slice" 65536)).run p world with
        | .halt _ w=> .machine (.ended (.stuck "sched.slice" "") w)
        | .ok n world=> .goroutine {m with world,rest:={m.rest with slice:=if n=0 then none else some (rs.getD k 0,n)}} (rs.getD k 0)):=by
  split
  · exact True.intro
  rename_i h1;have h2:=Fz h1;refine Rl (Av h h2) ?_;split
  · exact True.intro
  rename_i h3;have h4:=Fz h3;exact Av h (Av h2 h4)
theorem iM {p:Program}{m:Machine}{k d:Nat}(h:d<=m.world.drawn):wW d (serve p m k):=by
  have hs:=sP (p:=p) (m:=m) (k:=k);generalize serve p m k=q at hs;cases q with
  |next m2=>exact Av h hs
  |ended=>exact True.intro
theorem gT {p:Program}{m:Machine}:aBB m.world.drawn (askOn p m):=by
  unfold askOn;dsimp only
  split
  · exact True.intro
  rename_i w1 h1;have h2:=Fz h1;refine Rl (iM h2) ?_;split
  · split
    · exact h2
    refine Rl h2 ?_;split
    · exact True.intro
    exact True.intro
  split
  · exact aQ {m with world:=w1} h2
  split
  · exact True.intro
  · rename_i w3 h3
    have h4:=Fz h3;exact aQ {m with world:=w3} (Av h2 h4)
  · rename_i h3
    have h4:=Fz h3;exact Av h2 h4
  rename_i h3;have h4:=Fz h3;exact aQ _ (Av h2 h4)
theorem Wm {p:Program}{m:Machine}{d:Nat}(h:d<=m.world.drawn):aBB d (askOn p m):=by
  have hs:=gT (p:=p) (m:=m);generalize askOn p m=q at hs;cases q with
  |goroutine m2 i=>exact Av h hs
  | machine s ops=>
    cases s with
    |next m2=>exact Av h hs
    |ended=>exact True.intro
theorem wL {p:Program}{m:Machine}:aBB m.world.drawn (ask p m):=by
  unfold ask;refine Rl ?_ gT;split
  · exact True.intro
  · rename_i w1 h1
    have h2:=Fz h1;have hl:=lO (p:=p) (gs:=m.gs) (rest:=m.rest) (w:=w1);generalize look p m.gs m.rest w1=q at hl
    cases q with
    |next m2=>exact Wm (Av h2 hl)
    |ended=>exact True.intro
  rename_i w1 _ h1;have h2:=Fz h1;exact Wm (m:={m with world:=w1}) h2
theorem yT {p:Program}{m:Machine}:aBB m.world.drawn (move p m):=by
  unfold move;split
  · refine Rl (Cl _) True.intro
  split
  · refine Rl (Cl _) wL
  exact wL
theorem xL {p:Program}{m:Machine}:wW m.world.drawn (step p m):=by
  unfold step stepT;have h:=yT (p:=p) (m:=m);generalize move p m=q at h
  cases q with
  | goroutine m2 i=>
    have h2:=aCA (p:=p) (m:=m2) (i:=i) (l:=true);dsimp only
    generalize (Go.runT p m2 i true).1=r at h2;cases r with
    |next m3=>exact Av h h2
    |ended=>exact True.intro
  |machine s ops=>exact h
theorem dG {p:Program}{m m':Machine}(h:Steps p m m'):m.world.drawn<=m'.world.drawn:=by
  obtain⟨n,h⟩:=h;induction n generalizing m with
  | zero=>
    simp only[runN]at h;injection h with h
    rw[h];exact Cl _
  | succ n ih=>
    simp only[runN]at h;have hs:=xL (p:=p) (m:=m);generalize step p m=q at h hs
    cases q with
    |next m2=>exact Av hs (ih h)
    |ended=>cases h
theorem Calls.drawn {P:Program}{f:FuncId}{args:Array Value}{w:World}{R:Ending->World->Prop}(h:Calls P f args w R)(hr:∀e w',R e w'->∃v,e= .returned v):
    Calls P f args w fun e w'=>R e w'/\w.drawn<=w'.drawn:=by
  intro cs;obtain⟨e,w',fr,h1,h2,h3⟩:=h cs;refine⟨e,w',fr,⟨h1,?_⟩,h2,h3⟩;obtain⟨v,rfl⟩:=hr e w' h1;exact dG h2
end
section
open Go.RowKit Go.Shelf Go.Lib Go.Sort
theorem vD {W W':World}(h:Aa W W')(hd:W.drawn<=W'.drawn):∃q os',W'=grow (W.drewN q) os':=by
 refine⟨W'.drawn-W.drawn,W'.heap.extract W.heap.size W'.heap.size,?_⟩;have e:W'.heap=W.heap++W'.heap.extract W.heap.size W'.heap.size:=by
  have hs:=h.size;apply Array.ext_getElem?;intro i;rw[Array.getElem?_append];by_cases hi:i<W.heap.size
  ·rw[if_pos hi]
   exact h.block i hi
  rw[if_neg hi,Array.getElem?_extract];have A0:min W'.heap.size W'.heap.size-W.heap.size=W'.heap.size-W.heap.size:=ω
  by_cases h2:i<W'.heap.size
  ·rw[if_pos ω]
   congr 1;omega
  rw[if_neg ω,Array.getElem?_eq_none ω]
 have h1:=h.os;have h2:=h.tape;have h3:=h.output;cases W' with
 |mk hp tp dr o ou=>
  simp only at e h1 h2 h3 hd;subst h1;subst h2;subst h3;simp only[grow,World.drewN];rw[<-e];congr 1;omega
section
variable {α:Type} {enc:α->List Value} {k:Nat}
theorem Za [Inhabited α](hk:∀x,(enc x).length=k)(h0:0<k)(xs:List α)(j:Nat)(hj:j<xs.length*k):(xs.flatMap enc)[j]?=some ((enc xs.toArray[j/k]!)[j%k]!):=by
 have h1:j/k<xs.length:=Nat.div_lt_of_lt_mul (by rw[lXX];exact hj);have e1:xs[j/k]?=some xs.toArray[j/k]! :=by
  rw[getElem!_pos xs.toArray (j/k) (by simpa using h1),aQQ h1];simp
 have h2:j%k<(enc xs.toArray[j/k]!).length:=by rw[hk];exact Nat.mod_lt _ h0
 have h3:=Hh hk xs (j/k) _ e1 (j%k) _ (aQQ h2);rw[lXX,Nat.div_add_mod]at h3;rw[h3,getElem!_pos (enc xs.toArray[j/k]!) (j%k) h2]
theorem jT [Inhabited α](hk:∀x,(enc x).length=k)(h0:0<k){w:World}{g:Nat}{T:TypeId}{xs:List α}{rest:List Value}(hb:Ac w g T (xs.flatMap enc++rest).toArray):HoldsK enc k w g 0 xs.toArray:=by
  intro j hj;have A0:j<xs.length*k:=by simpa using hj
  refine⟨?_,hb.frozen _⟩;have A1:j<xs.toArray.size*k:=by simpa using A0
  rw[cZZ,hb.cell,aZZ,dZZ (by rw[Dm hk];exact A0),Za hk h0 xs j A0,get_flatK enc k _ j A1];rfl
theorem Mh [Inhabited α](w:World)(g off m:Nat)(dk:Array α)(os:Array Obj)(_hg:g<w.heap.size):Bi g w (sortWorldK enc k w g off m dk os):=by
  have hs:(putRowK enc k (Sort.ahead w m) g off dk).heap.size=w.heap.size:=size_putRowK enc k _ _ _ _;refine⟨rfl,rfl,rfl,?_,fun i hi hne=> ?_⟩
  · unfold sortWorldK
    rw[size_grow,hs];exact Nat.le_add_right _ _
  unfold sortWorldK;rw[heap_grow_old _ _ (by rw[hs];exact hi)];show(w.heap.modify g _)[i]?=_;rw[Array.getElem?_modify,if_neg (fun e=>hne (by rw[e]))]
theorem Wj [Inhabited α](hk:∀x,(enc x).length=k)(h0:0<k){w:World}{g:Nat}{T:TypeId}{xs ys:List α}{rest:List Value}(hb:Ac w g T (xs.flatMap enc++rest).toArray)(hl:ys.length=xs.length)(m:Nat)(os:Array Obj):
  Ac (sortWorldK enc k w g 0 m ys.toArray os) g T (ys.flatMap enc++rest).toArray:=by
 have hg:=hb.lt;have hs:(putRowK enc k (Sort.ahead w m) g 0 ys.toArray).heap.size=w.heap.size:=size_putRowK enc k _ _ _ _;unfold sortWorldK Ac;rw[heap_grow_old _ _ (by rw[hs];exact hg)];show(w.heap.modify g (onCells (putCells id 0 (flatK enc k ys.toArray))))[g]?=_;have A5:w.heap[g]?=some (.cells (xs.flatMap enc++rest).toArray T (0,0)):=hb;rw[Array.getElem?_modify,if_pos rfl,A5];simp only[Option.map_some,onCells];congr 2;apply Array.ext_getElem?;intro j;unfold putCells;rw[Array.getElem?_mapIdx,aZZ,aZZ];have A4:(flatK enc k ys.toArray).size=ys.length*k:=by simp
 have A3:(xs.flatMap enc).length=xs.length*k:=Dm hk xs;have A2:(ys.flatMap enc).length=ys.length*k:=Dm hk ys;by_cases hj:j<ys.length*k
 ·have A0:j<(xs.flatMap enc).length:=by rw[A3,<-hl];exact hj
  rw[dZZ A0,aQQ A0,dZZ (by rw[A2];exact hj),Za hk h0 ys j hj];simp only[Option.map_some];rw[if_pos (by rw[A4];omega),Nat.sub_zero,get_flatK enc k _ j (by simpa using hj)];rfl
 have A1:¬(0<=j/\j<0+(flatK enc k ys.toArray).size):=by rw[A4];omega
 have A0:(xs.flatMap enc).length<=j:=by rw[A3,<-hl];omega
 rw[dQQ A0,dQQ (by rw[A2];omega),A3,A2,hl];cases (rest[j-xs.length*k]?)with
 |none=>rfl
 |some v=>simp only[Option.map_some];rw[if_neg A1]
end
theorem nU {ρ:Ren}(LL:SlLaysF0.n6 prog ρ)(k:Nat)(h0:0<k)(aE:∀w,(isAgg (ρ.t 24)).run prog w= .ok true w)(zE:∀w,(Go.sizeOf (ρ.t 24)).run prog w= .ok k w){α:Type}(enc:α->List Value)(hk:∀x,(enc x).length=k)
  (h1:∀x,∀v∈enc x,v.oneCell'=true)(hu:∀x,Ar (enc x))(Ok:World->α->Prop)(hOk:∀{w w' x},Ok w x->Ah w w'->Ok w' x)(cf:α->α->Int)
  (hO1:∀x,¬cf x x<0)(hO2:∀x y z,cf x y<0->cf y z<0->cf x z<0)(hO3:∀x y z,¬cf x y<0->¬cf y z<0->¬cf x z<0)(f:Nat)(eg:∀args w,(callFunc f args).run prog w= .ok (.enter f args) w)
  (hcmp:∀w x y,Ok w x->Ok w y->Calls prog f #[.agg (enc x).toArray,.agg (enc y).toArray] w fun e w'=>e= .returned (iV (cf x y))/\Aa w w')
  (v:Value)(es:List α)(base:Nat)(T:TypeId)(w:World)(h:Ba w base T k v es.length (es.flatMap enc))(hok:∀e,e∈es->Ok w e)(hn:es.length<4611686018427387904):
  Calls prog (ρ.f 6) #[v,.func (.func f) #[] #[]] w fun e w'=>e= .returned (.tuple #[])/\
   ∃es':List α,es'.Perm es/\es'.Pairwise (fun x y=>¬cf y x<0)/\Ba w' base T k v es'.length (es'.flatMap enc)/\w.grownBy w' v.ownBlock/\Ah w w':=by
 cases es with
 |nil=>
  obtain⟨A,c,rfl,_⟩:=Ba.form h;refine(AnyF.slices_SortFunc_none LL A c _ w).mono ?_;rintro e w' ⟨rfl,rfl⟩;exact⟨rfl,[],.refl _,.nil,h,World.grownBy.refl _ _,Ah.refl _⟩
 |cons e0 es0=>
  rcases h.2 with⟨_,hn0⟩|⟨g,cap,rest,rfl,hb,hg,hc1,hc2,hc3,hc4⟩
  ·simp at hn0
  have A0:∃xs:List {e:α//Ok w e},xs.map Subtype.val=e0::es0:=by
   clear h hg hc1 hc3 hn hc4;generalize e0::es0=es at hok;induction es with
   |nil=>exact⟨[],rfl⟩
   |cons e es ih=>
    obtain⟨xs,hx⟩:=ih (fun f hf=>hok f (by simp[hf]));exact⟨⟨e,hok e (by simp)⟩::xs,by rw[List.map_cons,hx]⟩
  obtain⟨xs,A0⟩:=A0;haveI:Inhabited {e:α//Ok w e}:=⟨⟨e0,hok e0 (by simp)⟩⟩
  have B1:∀ys:List {e:α//Ok w e},ys.flatMap (fun x=>enc x.1)=(ys.map Subtype.val).flatMap enc:=fun ys=>by rw[List.flatMap_map]
  have A7:xs.length=(e0::es0).length:=by rw[<-A0,fXX]
  rw[<-A0,<-B1]at hg hc3 hc4;rw[<-A7]at hn h hc1⊢;have A4:∀x: {e:α//Ok w e},(enc x.1).length=k:=fun x=>hk x.1
  have A6:SWO (ltOf (fun x y: {e:α//Ok w e}=>cf x.1 y.1)):=
   ⟨fun x=>decide_eq_false (hO1 x.1),fun x y z a b=>decide_eq_true (hO2 x.1 y.1 z.1 (of_decide_eq_true a) (of_decide_eq_true b)),fun x y z a b=>decide_eq_false (hO3 x.1 y.1 z.1 (of_decide_eq_false a) (of_decide_eq_false b))⟩
  have A3:∀(m:Nat) (os:Array Obj) (dk:Array {e:α//Ok w e}),Ah w (sortWorldK (fun x=>enc x.1) k w g 0 m dk os):=fun m os dk=>
   Ah.of_own hg hc4.arr (Mh w g 0 m dk os hg.lt)
  have A2:CmpLays prog f #[] (fun x: {e:α//Ok w e}=>enc x.1) k (fun x y=>cf x.1 y.1) g 0 xs.toArray.size w:=by
   intro m os dk _ x y;have hd:=A3 m os dk;revert hd
   generalize sortWorldK (fun x: {e:α//Ok w e}=>enc x.1) k w g 0 m dk os=W;intro hd;have hx:Ok W x.1:=hOk (w:=w) (w':=W) (x:=x.1) x.2 hd;have hy:Ok W y.1:=hOk (w:=w) (w':=W) (x:=y.1) y.2 hd;have hc:=Calls.drawn (hcmp W x.1 y.1 hx hy) (fun e w' he=>⟨_,he.1⟩);rw[Array.append_empty];exact hc.mono fun e w' he=>⟨he.1.1,vD he.1.2 he.2⟩
  have hH:HoldsK (fun x: {e:α//Ok w e}=>enc x.1) k w g 0 xs.toArray:=jT (enc:=fun x: {e:α//Ok w e}=>enc x.1) A4 h0 (xs:=xs) (T:=T) (rest:=rest) hg;have A5:xs.toArray.size<4611686018427387904:=by simpa using hn
  have hS:=AnyQ.slices_SortFunc LL k aE zE (fun x: {e:α//Ok w e}=>enc x.1) A4 (fun x=>h1 x.1) (fun x y=>cf x.1 y.1) A6 f #[] g 0 cap xs.toArray w eg A2 hH hg.lt A5;rw[List.size_toArray]at hS;refine hS.mono ?_;rintro e w' ⟨rfl,d',n,os,hp,hs,rfl⟩;obtain⟨B0,_,A9⟩:=hp;have hl:d'.toList.length=xs.length:=by simpa using B0
  have A1:d'.toList.Perm xs:=by
   have e1:d'.extract 0 xs.length=d':=by
    have A5:d'.size=xs.length:=by simpa using B0
    rw[<-A5];simp
   have e2:xs.toArray.extract 0 xs.length=xs.toArray:=by simp
   rw[e1,e2]at A9;simpa using A9
  have B2:=Wj (k:=k) (enc:=fun x: {e:α//Ok w e}=>enc x.1) A4 h0 hg hl n os;rw[Array.toArray_toList]at B2;have B3:(d'.toList.map Subtype.val).length=xs.length:=by rw[fXX,hl]
  have A8:∀ys:List {e:α//Ok w e},(ys.flatMap (fun x=>enc x.1)).length=ys.length*k:=fun ys=>Dm A4 ys
  refine⟨rfl,d'.toList.map Subtype.val,by rw[<-A0];exact A1.map _,?_,?_,?_,?_⟩
  ·rw[List.pairwise_map,List.pairwise_iff_getElem]
   intro i j hi hj B5;have h3:=hs i j (eXX _) B5 (by rw[hl]at hj;simpa using hj);have B6:i<d'.size:=by simpa using hi
   have B4:j<d'.size:=by simpa using hj
   rw[getElem!_pos d' i B6,getElem!_pos d' j B4]at h3;have h4:=of_decide_eq_false h3;simpa using h4
  ·rw[B3,<-B1]
   refine⟨by rw[A8,hl],.inr ⟨g,cap,rest,rfl,hb,B2,hc1,hc2,?_,?_⟩⟩
   ·rw[A8,hl,<-A8];exact hc3
   refine Ar.app ?_ hc4.right;intro z hz;obtain⟨x,_,hx⟩:=List.mem_flatMap.1 hz;exact hu x.1 z hx
  ·have ho:=Mh (k:=k) (enc:=fun x: {e:α//Ok w e}=>enc x.1) w g 0 n d' os hg.lt
   simpa[Value.ownBlock,Bi]using ho
  exact A3 n os d'
end
section
structure Ca where
  a:RV
  q:Rat
def Ca.cells (e:Ca):List Value:=(rc e.a)
theorem Ca.len (e:Ca):e.cells.length=4:=rfl
theorem Ca.one (e:Ca):∀v,v∈e.cells->v.oneCell'=true:=by simp[Ca.cells,Value.oneCell']
theorem aAT (e:Ca):Ar e.cells:=by simp[Ca.cells,Ar]
def Ca.Ok (L:Nat)(w:World)(e:Ca):Prop:=e.a.Is w e.q/\Nm.rl e.q<=L
theorem Ca.Ok.dig {L:Nat}{w w':World}{e:Ca}(h:e.Ok L w)(d:Ah w w'):e.Ok L w':=⟨h.1.dig d,h.2⟩
theorem Le {w:World}{g o:Nat}{v:Value}(h:w.cell? ⟨g,o,none⟩=some v):w.rangeAt g o [v]:=by
  intro j u hj;match j,hj with
  |0,hj=>simp at hj;subst hj;exact h
  |j+1,hj=>simp at hj
section
variable {α:Type} (eqv:α->α->Bool)
def Hi (p:α):List α->List α
  | []=>[]
  |x::l=>if eqv x p then Hi x l else x::Hi x l
def Dp:List α->List α
  | []=>[]
  |x::l=>x::Hi eqv x l
theorem kH (l:List α):∀(p:α) (q x:α),(p::l).getLast?=some q->Hi eqv p (l++[x])=Hi eqv p l++(if eqv x q then[]else[x]):=by
  induction l with
  | nil=>
    intro p q x h;simp at h;subst h;simp[Hi]
  | cons y l ih=>
    intro p q x h;have h2:(y::l).getLast?=some q:=by simpa using h
    have h3:=ih y q x h2;simp only[iZZ,Hi];split
    · exact h3
    rw[h3,iZZ]
theorem Xj {l:List α}{q x:α}(h:l.getLast?=some q):Dp eqv (l++[x])=Dp eqv l++(if eqv x q then[]else[x]):=by
  cases l with
  |nil=>simp at h
  | cons p l=>
    simp only[iZZ,Dp];rw[kH eqv l p q x h]
theorem qY (l:List α):∀(p z:α),z∈Hi eqv p l->z∈l:=by
  induction l with
  |nil=>intro p z h;simp[Hi]at h
  | cons y l ih=>
    intro p z h;unfold Hi at h;split at h
    · exact cQQ _ (ih y z h)
    rcases List.mem_cons.1 h with h|h
    · rw[h];simp
    exact cQQ _ (ih y z h)
theorem Qk {l:List α}{z:α}(h:z∈Dp eqv l):z∈l:=by
  cases l with
  |nil=>simp[Dp]at h
  | cons p l=>
    rcases List.mem_cons.1 h with h|h
    · rw[h];simp
    exact cQQ _ (qY eqv l p z h)
variable {eqv}
theorem qZ {β:Type}{key:α->β}(hk:∀x y,eqv x y=true->key x=key y)(l:List α):∀(p z:α),z∈p::l->∃y∈p::Hi eqv p l,key y=key z:=by
 induction l with
 |nil=>intro p z h;exact⟨z,by simpa[Hi]using h,rfl⟩
 |cons x l ih=>
  intro p z h;rcases List.mem_cons.1 h with rfl|h
  ·exact⟨z,by simp,rfl⟩
  obtain⟨y,h1,h2⟩:=ih x z h;unfold Hi;split
  ·rename_i he
   rcases List.mem_cons.1 h1 with rfl|h1
   ·exact⟨p,by simp,by rw[<-h2,hk _ _ he]⟩
   exact⟨y,cQQ _ h1,h2⟩
  exact⟨y,cQQ _ h1,h2⟩
theorem cH {β:Type}{key:α->β}(hk:∀x y,eqv x y=true->key x=key y){l:List α}{z:α}(h:z∈l):∃y∈Dp eqv l,key y=key z:=by
  cases l with
  |nil=>simp at h
  |cons p l=>exact qZ hk l p z h
theorem cI {lt le:α->α->Prop}(ht:∀a b c,le a b->lt b c->lt a c)(h1:∀x y,le y x->eqv x y=false->lt y x)(h2:∀x y,eqv x y=true->∀z,lt x z->lt y z)(l:List α):∀p:α,(p::l).Pairwise le->(p::Hi eqv p l).Pairwise lt/\∀z,z∈Hi eqv p l->lt p z:=by
 induction l with
 |nil=>intro p _;simp[Hi]
 |cons x l ih=>
  intro p hp;have A1:=List.pairwise_cons.1 hp;obtain⟨h3,h4⟩:=ih x A1.2;have A0:=A1.1 x (by simp);unfold Hi;split
  ·rename_i he
   have h5:∀z,z∈Hi eqv x l->lt p z:=fun z hz=>h2 _ _ he z (h4 z hz)
   exact⟨List.pairwise_cons.2 ⟨h5,(List.pairwise_cons.1 h3).2⟩,h5⟩
  rename_i he;have A2:=h1 x p A0 (by simpa using he);have h5:∀z,z∈x::Hi eqv x l->lt p z:=fun z hz=>by
   rcases List.mem_cons.1 hz with rfl|hz
   ·exact A2
   exact ht p x z A0 (h4 z hz)
  exact⟨List.pairwise_cons.2 ⟨h5,h3⟩,h5⟩
theorem Sz {lt le:α->α->Prop}(ht:∀a b c,le a b->lt b c->lt a c)(h1:∀x y,le y x->eqv x y=false->lt y x)(h2:∀x y,eqv x y=true->∀z,lt x z->lt y z){l:List α}(hl:l.Pairwise le):(Dp eqv l).Pairwise lt:=by
  cases l with
  |nil=>exact .nil
  |cons p l=>exact(cI ht h1 h2 l p hl).1
end
theorem Oa {α:Type}{lt:α->α->Prop}(hi:∀a,¬lt a a)(ht:∀a b c,lt a b->lt b c->lt a c):∀{l m:List α},l.Pairwise lt->m.Pairwise lt->(∀z,z∈l↔z∈m)->l=m
 | [],[],_,_,_=>rfl
 | [],y::m,_,_,h=>by have:=(h y).2 (by simp);simp at this
 |x::l,[],_,_,h=>by have:=(h x).1 (by simp);simp at this
 |x::l,y::m,hl,hm,h=>by
  have A1:=List.pairwise_cons.1 hl;have A0:=List.pairwise_cons.1 hm;have e:x=y:=by
   rcases List.mem_cons.1 ((h x).1 (by simp))with e|hx
   ·exact e
   rcases List.mem_cons.1 ((h y).2 (by simp))with e|hy
   ·exact e.symm
   exact absurd (ht _ _ _ (A1.1 y hy) (A0.1 x hx)) (hi x)
  subst e;rw[Oa hi ht A1.2 A0.2 (fun z=>by
   constructor
   ·intro hz
    rcases List.mem_cons.1 ((h z).1 (cQQ _ hz))with e|h2
    ·subst e;exact absurd (A1.1 z hz) (hi z)
    exact h2
   intro hz;rcases List.mem_cons.1 ((h z).2 (cQQ _ hz))with e|h2
   ·subst e;exact absurd (A0.1 z hz) (hi z)
   exact h2)]
theorem mI {P:Program}{ρ:Operand->Value}{o:Oper}{w:World}{g n c size k d c2:Nat}{z:Int}{t e:TypeId}{x y:Operand}(ho:o.op= .slice t x (some y) none none)(ht:P.underlying t=some (.slice e))(hs:(P.info? e).map (·.size)=some size)
  (hx:ρ x= .slice (π g) n c)(hy:ρ y= iV z)(hz:z=(k:Int))(hn:n=k+d)(hd:0<d)(hc:c=k+c2)(hc2:d<=c2):(execOp ρ o).run P w= .ok (.value (.slice (some ⟨g,k*size,none⟩) d c2)) w:=by
 subst hz;subst hn;subst hc;have A0:P.elem t=e:=by simp[Program.elem,ht]
 have h1:P.underlying t=some (.slice (P.elem t)):=by rw[A0];exact ht
 unfold execOp;simp only[ho,hx,hy,Option.map_some,Option.map_none,Sem.run_bind,run_sliceAt_slice _ _ _ _ _ _ h1,run_slice_l w t _ _ _ h1 .i64 (k:Int) ω (by omega:(k:Int)<=((k+d:Nat):Int)),A0];cases hq:P.info? e with
 |none=>simp[hq]at hs
 |some i=>
  have h2:i.size=size:=by simpa[hq]using hs
  have h3:k+d-k=d:=ω;have h4:k+c2-k=c2:=ω;simp[sizeOf,typeInfo,hq,sliced,h2,h3,h4,Int.toNat_natCast,show¬c2=0 by omega,Addr.add_lit]
theorem Mr {w:World}{g a b c:Nat}{cs:List Value}(h:w.rangeAt g ((a+b)*c) cs):w.rangeAt g (a*c+b*c) cs:=by rw[kQQ]at h;exact h
theorem Sl {α:Type}{l m:List α}{i x:Nat}(h:l.drop i=m.drop i)(hx:i<=x):l[x]?=m[x]?:=by
  have e1:(l.drop i)[x-i]?=(m.drop i)[x-i]?:=by rw[h]
  rw[List.getElem?_drop,List.getElem?_drop]at e1;rwa[show i+(x-i)=x by omega]at e1
theorem Fr.grownBy {r:Option Nat}{w w':World}(h:Fr (fun k=>r=some k) w w'):w.grownBy w' r:=⟨h.os,h.tape,h.output,h.size,fun k hk hne=>h.block k hk (fun e=>hne e.symm)⟩
theorem aAW (w:World)(b:Nat)(h:b<=w.heap.size):∃w0,Aa w0 w/\w0.heap.size=b:=
  ⟨{w with heap:=w.heap.extract 0 b},⟨rfl,rfl,rfl,by rw[show({w with heap:=w.heap.extract 0 b}:World).heap.size=min b w.heap.size-0 from Array.size_extract];omega,fun k hk=>by
    have A0:k<b:=by simp at hk;omega
    simp[show k<min b w.heap.size by omega]⟩,by simp;omega⟩
theorem Hp.one {w0 w:World}{t:TypeId}{size n:Nat}{v:Value}{xs:List Value}(x:Aa w0 w)(h:Ba w w0.heap.size t size v n xs):Hp w0 w [.row t size v n xs]:=
  ((Hp.start w0).step x).add h (fun i f hf=>by simp at hf)
theorem Wx {α:Type}{l:List α}{k:Nat}{e:α}(h:k<l.length):(l.set k e).take (k+1)=l.take k++[e]:=by
  rw[List.take_add_one,List.take_set_of_le (Cl k)];simp[h]
theorem Qj {α:Type}{eqv:α->α->Bool}{es:List α}{j:Nat}{e f:α}(he:es[j+1]?=some e)(hf:es[j]?=some f):Dp eqv (es.take (j+1+1))=Dp eqv (es.take (j+1))++(if eqv e f then[]else[e]):=by
  have h1:es.take (j+1+1)=es.take (j+1)++[e]:=by rw[List.take_add_one,he];rfl
  rw[h1];refine Xj eqv ?_;rw[List.take_add_one,hf];simp
theorem zW {P:Program}{ρ:Operand->Value}{o:Oper}{w:World}{g n c size k:Nat}{z:Int}{t e:TypeId}{x y:Operand}(ho:o.op= .slice t x none (some y) none)(ht:P.underlying t=some (.slice e))(hs:(P.info? e).map (·.size)=some size)
  (hx:ρ x= .slice (π g) n c)(hy:ρ y= iV z)(hz:z=(k:Int))(hk:k<=n)(hn:n<=c)(hc:0<c):(execOp ρ o).run P w= .ok (.value (.slice (π g) k c)) w:=by
 subst hz;have A0:P.elem t=e:=by simp[Program.elem,ht]
 have h1:P.underlying t=some (.slice (P.elem t)):=by rw[A0];exact ht
 unfold execOp;simp only[ho,hx,hy,Option.map_some,Option.map_none,Sem.run_bind,run_sliceAt_slice _ _ _ _ _ _ h1,run_slice_h w t _ _ _ h1 .i64 (k:Int) ω (by omega:(k:Int)<=(c:Int)),A0];cases hq:P.info? e with
 |none=>simp[hq]at hs
 |some i=>
  have h2:i.size=size:=by simpa[hq]using hs
  simp[sizeOf,typeInfo,hq,sliced,h2,Int.toNat_natCast,show¬c=0 by omega,Addr.add_lit]
theorem Ba.cut {w:World}{base:Nat}{t:TypeId}{size g n cap k:Nat}{xs:List Value}(h:Ba w base t size (.slice (π g) n cap) n xs)(hk:k<=n):Ba w base t size (.slice (π g) k cap) k (xs.take (k*size)):=by
 obtain⟨h1,⟨hv,_⟩|⟨g',A0,rest,hv,a,hb,h3,h4,h5,h6⟩⟩:=h
 ·cases hv
 injection hv with e1 e2 e3
 injection e1 with e1
 injection e1 with e1
 subst e1;subst e3;have hl:k*size<=xs.length:=by rw[h1];exact hXX _ hk
 have e:xs.take (k*size)++(xs.drop (k*size)++rest)=xs++rest:=by rw[<-jQQ,List.take_append_drop]
 refine⟨by rw[dXX];omega,.inr ⟨g,cap,xs.drop (k*size)++rest,rfl,a,by rw[e];exact hb,ω,h4,?_,by rw[e];exact h6⟩⟩;rw[dXX,bQQ,List.length_drop];omega
theorem uI {α:Type}{f:α->List Value}{P:Program}{w0 w:World}{m:List Df}{ix:Nat}{a:Act}{Q:Exit->Act->World->Prop}{rest:List Oper}{op:Oper}{ops:Array Oper}(hw:Region.wanted op (yielded ops a.tmps)=true)(x:Operand)(ty:TypeId)(ho:op.op= .call {callee:= .builtin .clear,args:=#[x],argTypes:=#[ty]})
  {g n cap size:Nat}{t:TypeId}{es:List α}(hH:Hp w0 w m)(hi:m[ix]?=some (.row t size (.slice (π g) n cap) n (es.flatMap f)))(hc:∀x,(f x).length=size)(hl:es.length=n)(k c:Nat)(hk:k<n)(hx:a.eval x= .slice (some ⟨g,k*size,none⟩) (n-k) c)
  (ht:P.underlying ty=some (.slice t))(z:Value)(hz:∀w,(zeroValue t).run P w= .ok z w)(hzs:z.cells.size=size)(h1:∀v,v∈z.cells.toList->v.oneCell'=true)(hn:Ar z.cells.toList)(h0:0<size)
  (h:∀w',Hp w0 w' (m.set ix (.row t size (.slice (π g) k cap) k ((es.take k).flatMap f)))->Ah w w'->Bi g w w'->wpList P ops Q rest (a.put op.dst (.tuple #[])) w'):wpList P ops Q (op::rest) a w:=by
 have A1:(Builtin.zeroCells z.cells (n-k)).size=(n-k)*size:=by rw[size_zeroCells,hzs]
 have A7:(es.flatMap f).length=n*size:=by rw[Dm hc,hl]
 have B3:k*size+(n-k)*size=n*size:=by rw[<-kQQ];congr 1;omega
 have A9:w.there g (k*size) ((n-k)*size):=(hH.row hi).there (k*size) ((n-k)*size) (by rw[A7];omega);have B1:Ar (Builtin.zeroCells z.cells (n-k)).toList:=Rd _ _ ω hn;have A4:∀v,v∈(Builtin.zeroCells z.cells (n-k)).toList->v.oneCell'=true:=by
  intro v hv;unfold Builtin.zeroCells at hv;simp only[Array.toList_map,List.mem_map]at hv;obtain⟨i,_,rfl⟩:=hv;have B2:i%z.cells.size<z.cells.size:=Nat.mod_lt _ ω;rw[getElem!_pos z.cells _ B2];exact h1 _ (by simp)
 have B0:=run_storeCells_cells (P:=P) g (k*size) (Builtin.zeroCells z.cells (n-k)).toList 0 w (fun j hj=>by simpa using(A9 j (by simpa[A1]using hj)).1) (fun j hj=>by simpa using(A9 j (by simpa[A1]using hj)).2) A4;have A3:(Builtin.clear_ #[ty] op.type #[.slice (some ⟨g,k*size,none⟩) (n-k) c]).run P w= .ok (.tuple #[]) (w.setCells g (k*size) (Builtin.zeroCells z.cells (n-k)).toList):=by
  obtain⟨d,hd⟩:∃d,n-k=d+1:=⟨n-k-1,ω⟩;rw[hd]at B0⊢;simp[Builtin.clear_,run_underlying ht,hz,B0]
 have A2:=(hH.row hi).setPart (k*size) (Builtin.zeroCells z.cells (n-k)).toList (by rw[A7,Array.length_toList,A1];omega) B1;have A0:=A2.cut (nQQ hk);have e:((es.flatMap f).take (k*size)++(Builtin.zeroCells z.cells (n-k)).toList++(es.flatMap f).drop (k*size+(Builtin.zeroCells z.cells (n-k)).toList.length)).take (k*size)=(es.take k).flatMap f:=by
  have B4:((es.flatMap f).take (k*size)).length=k*size:=by rw[dXX,A7];exact Nat.min_eq_left (hXX _ ω)
  rw[jQQ,List.take_append_of_le_length ω,cXX ω,Rp hc]
 rw[e]at A0;have A6:w.grownBy (w.setCells g (k*size) (Builtin.zeroCells z.cells (n-k)).toList) (some g):=Dj _ _ _ _;have A5:=hH.turn (r:=some g) (e':= .row t size (.slice (π g) k cap) k ((es.take k).flatMap f)) hi (fun k hk=>by simpa[Df.own,Value.ownBlock]using hk) A6 A0 (fun k hk=> .inl hk);have A8:Ah w (w.setCells g (k*size) (Builtin.zeroCells z.cells (n-k)).toList):=by
  refine Ah.grown (hH.row hi) ?_;exact A6
 have h2:=h _ A5 A8 A6;refine Ck hw ?_;unfold Oper.wp;simp[execOp,ho,resolve,invoke,builtin,hx,A3,Result.andThen];exact h2
end
section
def Nt:List Rat->Rat->List Rat
  | [],y=>[y]
  |x::l,y=>if x<y then x::Nt l y else if x=y then x::l else y::x::l
theorem Uy {y z:Rat}:∀{l:List Rat},z∈Nt l y↔z=y\/z∈l
  | []=>by simp[Nt]
  | x::l=>by
    unfold Nt;split
    · rw[List.mem_cons,Uy,List.mem_cons]
      constructor
      · rintro(h|h|h)
        · exact .inr (.inl h)
        · exact .inl h
        exact .inr (.inr h)
      rintro(h|h|h)
      · exact .inr (.inl h)
      · exact .inl h
      exact .inr (.inr h)
    split
    · rename_i h;subst h;simp
    simp
theorem eF {y:Rat}:∀{l:List Rat},l.Pairwise (· < ·)->(Nt l y).Pairwise (· < ·)
 | [],_=>by simp[Nt]
 |x::l,h=>by
  obtain⟨h1,h2⟩:=List.pairwise_cons.1 h;unfold Nt;split
  ·rename_i hx
   refine List.pairwise_cons.2 ⟨fun z hz=> ?_,eF h2⟩;rcases Uy.1 hz with e|e
   ·rw[e];exact hx
   exact h1 z e
  split
  ·exact h
  rename_i hx hy;have A0:y<x:=by
   have:=Rat.not_lt.1 hx;grind
  refine List.pairwise_cons.2 ⟨fun z hz=> ?_,h⟩;rcases List.mem_cons.1 hz with e|e
  ·rw[e];exact A0
  have:=h1 z e;grind
def aT (lo hi:Rat)(l all:List Rat):List Rat:=all.foldl (fun o x=>if lo<x/\x<hi then Nt o x else o) l
theorem Ko {lo hi z:Rat}:∀{all l:List Rat},z∈aT lo hi l all↔z∈l\/(z∈all/\lo<z/\z<hi)
  | [],l=>by simp[aT]
  | x::all,l=>by
    show z∈aT lo hi (if lo<x/\x<hi then Nt l x else l) all↔_;rw[Ko];by_cases h:lo<x/\x<hi
    · rw[if_pos h,Uy,List.mem_cons]
      constructor
      · rintro((e|e)|e)
        · subst e;exact .inr ⟨.inl rfl,h⟩
        · exact .inl e
        exact .inr ⟨.inr e.1,e.2⟩
      rintro(e|⟨e|e,f⟩)
      · exact .inl (.inr e)
      · exact .inl (.inl e)
      exact .inr ⟨e,f⟩
    rw[if_neg h,List.mem_cons];constructor
    · rintro(e|e)
      · exact .inl e
      exact .inr ⟨.inr e.1,e.2⟩
    rintro(e|⟨e|e,f⟩)
    · exact .inl e
    · subst e;exact absurd f h
    exact .inr ⟨e,f⟩
theorem Vd {lo hi:Rat}:∀{all l:List Rat},l.Pairwise (· < ·)->(aT lo hi l all).Pairwise (· < ·)
  | [],l,h=>h
  | x::all,l,h=>by
    show(aT lo hi (if lo<x/\x<hi then Nt l x else l) all).Pairwise (· < ·);refine Vd ?_;split
    · exact eF h
    exact h
def Nc (a b:Int×Int)(pre:List Cg)(x:Cg):List Rat:=pre.flatMap (fun o=>Up x o)++Lz x a.1++Lz x b.1
def Xc (a b:Int×Int):List Cg->List Cg->List Rat
  |_,[]=>[]
  |pre,x::l=>Nc a b pre x++Xc a b (pre++[x]) l
def tM (rs:List Ai):List Rat:=rs.flatMap fun r=>r.map fun p=>(p.2:Rat)
def Mf (a b:Int×Int)(rs:List Ai):List Rat:=tM rs++Xc a b [] (Bk rs)
theorem Xz (x o:Cg):Up o x=Up x o:=by unfold Up;rw[oD,oB]
theorem cM {lo hi q z:Rat}:z∈gI lo hi q↔z=q/\lo<z/\z<hi:=by
  unfold gI;split
  · rename_i h;simp;intro e;rw[e];exact h
  rename_i h;simp;intro e h1 h2;rw[e]at h1 h2;exact h ⟨h1,h2⟩
theorem Qp {lo hi z:Rat}{l:List Rat}:z∈l.flatMap (gI lo hi)↔z∈l/\lo<z/\z<hi:=by
  rw[List.mem_flatMap];constructor
  · rintro⟨q,h1,h2⟩;obtain⟨e,h3⟩:=cM.1 h2;rw[e]at h3⊢;exact⟨h1,h3⟩
  rintro⟨h1,h2⟩;exact⟨z,h1,cM.2 ⟨rfl,h2⟩⟩
theorem sC {a b:Int×Int}{pre:List Cg}{x:Cg}{z:Rat}:z∈Wd a b pre x↔z∈Nc a b pre x/\(a.2:Rat)<z/\z<(b.2:Rat):=by
 unfold Wd Nc;rw[oQQ,oQQ,oQQ,oQQ,Qp,Qp,List.mem_flatMap,List.mem_flatMap];constructor
 ·rintro((⟨h1,h2⟩|⟨h1,h2⟩)|⟨o,h1,h2⟩)
  ·exact⟨.inl (.inr h1),h2⟩
  ·exact⟨.inr h1,h2⟩
  rw[Qp,Xz]at h2;exact⟨.inl (.inl ⟨o,h1,h2.1⟩),h2.2⟩
 rintro⟨(⟨o,h1,h2⟩|h1)|h1,h3⟩
 ·exact .inr ⟨o,h1,by rw[Qp,Xz];exact⟨h2,h3⟩⟩
 ·exact .inl (.inl ⟨h1,h3⟩)
 exact .inl (.inr ⟨h1,h3⟩)
theorem mJ {a b:Int×Int}{z:Rat}:∀{l p:List Cg},z∈qP a b p l↔z∈Xc a b p l/\(a.2:Rat)<z/\z<(b.2:Rat)
  | [],p=>by simp[qP,Xc]
  | x::l,p=>by
    unfold qP Xc;rw[oQQ,oQQ,sC,mJ];constructor
    · rintro(h|h)
      · exact⟨.inl h.1,h.2⟩
      exact⟨.inr h.1,h.2⟩
    rintro⟨h|h,k⟩
    · exact .inl ⟨h,k⟩
    exact .inr ⟨h,k⟩
theorem zY {a b:Int×Int}{rs:List Ai}{z:Rat}:z∈aBG a b rs↔z∈tM rs/\(a.2:Rat)<z/\z<(b.2:Rat):=by
  unfold aBG tM;simp only[List.mem_flatMap,List.mem_map,cM];constructor
  · rintro⟨r,h1,p,h2,h3,h4⟩;exact⟨⟨r,h1,p,h2,h3.symm⟩,h4⟩
  rintro⟨⟨r,h1,p,h2,h3⟩,h4⟩;exact⟨r,h1,p,h2,h3.symm,h4⟩
def Dn (a b:Int×Int)(rs:List Ai):List Rat:=if Lk a b rs then aT (a.2:Rat) (b.2:Rat) [(a.2:Rat),(b.2:Rat)] (Mf a b rs)else[]
theorem zT {a b:Int×Int}{rs:List Ai}{l:List Rat}(h:l.Pairwise (· < ·))(hm:∀x,x∈l↔x∈aDK a b rs):l=Dn a b rs:=by
 unfold Dn;unfold aDK at hm;by_cases k:Lk a b rs
 ·rw[if_pos k]at hm⊢
  have A0:(a.2:Rat)<(b.2:Rat):=by exact_mod_cast k.2.2.2
  refine Oa (lt:=(· < ·)) (fun x=>Rat.lt_irrefl) (fun x y z h1 h2=>by grind) h (Vd (by simp[A0])) (fun z=> ?_);rw[hm,Ko];unfold Mf;rw[oQQ,oQQ,oQQ,zY,mJ];constructor
  ·rintro((e|e)|e)
   ·exact .inl e
   ·exact .inr ⟨.inl e.1,e.2⟩
   exact .inr ⟨.inr e.1,e.2⟩
  rintro(e|⟨e|e,f⟩)
  ·exact .inl (.inl e)
  ·exact .inl (.inr ⟨e,f⟩)
  exact .inr ⟨e,f⟩
 rw[if_neg k]at hm⊢;cases l with
 |nil=>rfl
 |cons x l=>have:=(hm x).1 (by simp);simp at this
def Be (W:Rat->Rat):List Rat->Rat
  |x::y::l=>W ((x+y)/2)*(y-x)+Be W (y::l)
  |_=>0
theorem jG {p q:Rat}(h:p<q):p<(p+q)/2/\(p+q)/2<q:=by
  rw[Rat.div_def];have e:(2:Rat)*(2:Rat)⁻¹=1:=Rat.mul_inv_cancel 2 (by decide);have k:(0:Rat)<(2:Rat)⁻¹:=by decide+kernel
  have e2:(2:Rat)⁻¹+(2:Rat)⁻¹=1:=by decide+kernel
  generalize (2:Rat)⁻¹=i at*;have h1:=Rat.mul_lt_mul_of_pos_left h k;have e3:p=i*p+i*p:=by grind
  have e4:q=i*q+i*q:=by grind
  have e5:(p+q)*i=i*p+i*q:=by grind
  rw[e5];generalize i*p=a at*;generalize i*q=b at*;constructor<;>grind
structure aHC (lo hi:Rat) (l:List Rat):Prop where
  srt:l.Pairwise (· < ·)
  bd:∀z,z∈l->lo<=z/\z<=hi
  lo:lo∈l
  hi:hi∈l
theorem gS {W U V:Rat->Rat}(h:∀y,W y=U y+V y):∀l:List Rat,Be W l=Be U l+Be V l
  | x::y::l=>by
    have ih:=gS h (y::l);show W _*_+Be W (y::l)=(U _*_+Be U (y::l))+(V _*_+Be V (y::l));rw[ih,h];grind
  | [x]=>by show(0:Rat)=0+0;grind
  | []=>by show(0:Rat)=0+0;grind
def Wu (l:List QQ)(x:Rat):Prop:=∃p,p∈l/\p.1<=x/\x<=p.2
def Ss (l:List QQ):Prop:=l.Pairwise (fun a b=>a.2<b.1)/\∀p,p∈l->p.1<p.2
theorem lC:Ss []:=⟨List.Pairwise.nil,by simp⟩
theorem Ss.tail {a:QQ}{l:List QQ}(h:Ss (a::l)):Ss l:=⟨(List.pairwise_cons.1 h.1).2,fun p hp=>h.2 p (cQQ _ hp)⟩
theorem Ss.far {a:QQ}{l:List QQ}(h:Ss (a::l)){p:QQ}(hp:p∈l):a.2<p.1:=(List.pairwise_cons.1 h.1).1 p hp
theorem Ss.head {a:QQ}{l:List QQ}(h:Ss (a::l)):a.1<a.2:=h.2 a (eQQ ..)
theorem Gd {a:QQ}{l:List QQ}{x:Rat}:Wu (a::l) x↔(a.1<=x/\x<=a.2)\/Wu l x:=by
  constructor
  · rintro⟨p,hp,h⟩
    rcases List.mem_cons.1 hp with rfl|hp
    · exact Or.inl h
    exact Or.inr ⟨p,hp,h⟩
  rintro(h|⟨p,hp,h⟩)
  · exact⟨a,eQQ ..,h⟩
  exact⟨p,cQQ _ hp,h⟩
theorem Mt {a:QQ}{l:List QQ}{x:Rat}:Wu (l++[a]) x↔Wu l x\/(a.1<=x/\x<=a.2):=by
  constructor
  · rintro⟨p,hp,h⟩
    rcases List.mem_append.1 hp with hp|hp
    · exact Or.inl ⟨p,hp,h⟩
    rw[lZZ]at hp;subst hp;exact Or.inr h
  rintro(⟨p,hp,h⟩|h)
  · exact⟨p,List.mem_append.2 (Or.inl hp),h⟩
  exact⟨a,List.mem_append.2 (Or.inr (List.mem_singleton.2 rfl)),h⟩
theorem Jt {x:Rat}:¬Wu [] x:=by rintro⟨p,hp,_⟩;simp at hp
theorem Ss.tail_cov {a:QQ}{l:List QQ}(h:Ss (a::l)){x:Rat}:Wu l x↔Wu (a::l) x/\a.2<x:=by
  constructor
  · rintro⟨p,hp,h1,h2⟩
    refine⟨Gd.2 (Or.inr ⟨p,hp,h1,h2⟩),?_⟩;have:=h.far hp;grind
  rintro⟨hc,hx⟩;rcases Gd.1 hc with h1|h1
  · grind
  exact h1
theorem Ss.first_le {a:QQ}{l:List QQ}(h:Ss (a::l)){x:Rat}(hc:Wu (a::l) x):a.1<=x:=by
  rcases Gd.1 hc with h1|⟨p,hp,h1,_⟩
  · exact h1.1
  have:=h.far hp;have:=h.head;grind
theorem Ss.gap {a:QQ}{l:List QQ}(h:Ss (a::l)){y:Rat}(hy:a.2<y):∃x,a.2<x/\x<y/\¬Wu (a::l) x:=by
 have hm:∃z,a.2<z/\z<=y/\∀p,p∈l->z<=p.1:=by
  cases l with
  |nil=>exact⟨y,hy,by grind,by simp⟩
  |cons b l=>
   have A1:=h.far (eQQ (a:=b) (l:=l));have ht:=h.tail;have hb:∀p,p∈b::l->b.1<=p.1:=by
    intro p hp;rcases List.mem_cons.1 hp with rfl|hp
    ·grind
    have:=ht.far hp;have:=ht.head;grind
   by_cases hyb:y<=b.1
   ·exact⟨y,hy,by grind,fun p hp=>by have:=hb p hp;grind⟩
   exact⟨b.1,A1,by grind,hb⟩
 obtain⟨z,A3,A2,A0⟩:=hm;refine⟨(a.2+z)/2,by grind,by grind,?_⟩;intro hc;rcases Gd.1 hc with h1|⟨p,hp,h1,_⟩
 ·grind
 have:=A0 p hp;grind
theorem Uo:∀{l m:List QQ},Ss l->Ss m->(∀x,Wu l x↔Wu m x)->l=m
 | [],[],_,_,_=>rfl
 | [],b::m,_,hm,h=>by
  have:=(h b.1).2 (Gd.2 (Or.inl ⟨by grind,by have:=hm.head;grind⟩));exact(Jt this).elim
 |a::l,[],hl,_,h=>by
  have:=(h a.1).1 (Gd.2 (Or.inl ⟨by grind,by have:=hl.head;grind⟩));exact(Jt this).elim
 |a::l,b::m,hl,hm,h=>by
  have ha:=hl.head;have hb:=hm.head;have e1:a.1=b.1:=by
   have h1:=hm.first_le ((h a.1).1 (Gd.2 (Or.inl ⟨by grind,by grind⟩)));have h2:=hl.first_le ((h b.1).2 (Gd.2 (Or.inl ⟨by grind,by grind⟩)));grind
  have e2:a.2=b.2:=by
   by_cases h1:a.2<b.2
   ·obtain⟨x,A2,A1,A0⟩:=hl.gap h1
    exact(A0 ((h x).2 (Gd.2 (Or.inl ⟨by grind,by grind⟩)))).elim
   by_cases h2:b.2<a.2
   ·obtain⟨x,A2,A1,A0⟩:=hm.gap h2
    exact(A0 ((h x).1 (Gd.2 (Or.inl ⟨by grind,by grind⟩)))).elim
   grind
  have e:a=b:=Prod.ext e1 e2;subst e;rw[Uo hl.tail hm.tail (fun x=>by rw[hl.tail_cov,hm.tail_cov,h])]
theorem vY {l m:List QQ}(h:∀p,p∈l↔p∈m)(x:Rat):Wu l x↔Wu m x:=
  ⟨fun⟨p,hp,k⟩=>⟨p,(h p).1 hp,k⟩,fun⟨p,hp,k⟩=>⟨p,(h p).2 hp,k⟩⟩
theorem bM {l:List QQ}{a:QQ}(h:l.getLast?=some a):l=l.dropLast++[a]:=by
  obtain⟨ys,rfl⟩:=List.getLast?_eq_some_iff.1 h;simp
theorem Pi {l:List QQ}{a:QQ}:Ss (l++[a])↔Ss l/\a.1<a.2/\∀p,p∈l->p.2<a.1:=by
 constructor
 ·rintro⟨h1,h2⟩
  rw[List.pairwise_append]at h1;exact⟨⟨h1.1,fun p hp=>h2 p (List.mem_append.2 (Or.inl hp))⟩,h2 a (by simp),fun p hp=>h1.2.2 p hp a (by simp)⟩
 rintro⟨h1,h2,h3⟩;refine⟨List.pairwise_append.2 ⟨h1.1,List.pairwise_singleton ..,fun p hp q hq=> ?_⟩,fun p hp=> ?_⟩
 ·rw[lZZ]at hq
  subst hq;exact h3 p hp
 rcases List.mem_append.1 hp with hp|hp
 ·exact h1.2 p hp
 rw[lZZ]at hp;subst hp;exact h2
theorem pH {out:List QQ}{s:QQ}(h:Ss out)(hs:s.1<s.2)(hl:∀p,p∈out->p.1<=s.1):
  Ss (Ej out s)/\(∀x,Wu (Ej out s) x↔Wu out x\/(s.1<=x/\x<=s.2))/\∀p,p∈Ej out s->p.1<=s.1:=by
 unfold Ej;split
 ·rename_i h0
  rw[List.getLast?_eq_none_iff]at h0;subst h0;refine⟨Pi.2 ⟨lC,hs,by simp⟩,fun x=>Mt,?_⟩;intro p hp;simp at hp;subst hp;grind
 rename_i l h0;have e:=bM h0;generalize out.dropLast=o at e
 subst e;obtain⟨k1,k2,k3⟩:=Pi.1 h;have A0:=hl l (by simp);split
 ·rename_i h1
  refine⟨Pi.2 ⟨h,hs,?_⟩,fun x=>Mt,?_⟩
  ·intro p hp
   rcases List.mem_append.1 hp with hp|hp
   ·have:=k3 p hp
    grind
   rw[lZZ]at hp;subst hp;exact h1
  intro p hp;rcases List.mem_append.1 hp with hp|hp
  ·exact hl p hp
  rw[lZZ]at hp;subst hp;grind
 rename_i h1;split
 ·rename_i h2
  refine⟨Pi.2 ⟨k1,by show l.1<s.2;grind,k3⟩,fun x=> ?_,?_⟩
  ·rw[Mt,Mt]
   show Wu o x\/(l.1<=x/\x<=s.2)↔(Wu o x\/(l.1<=x/\x<=l.2))\/(s.1<=x/\x<=s.2);grind
  intro p hp;rcases List.mem_append.1 hp with hp|hp
  ·exact hl p (List.mem_append.2 (Or.inl hp))
  rw[lZZ]at hp;subst hp;exact A0
 rename_i h2;refine⟨h,fun x=> ?_,hl⟩;rw[Mt];grind
theorem uX (l:List QQ):∀(out:List QQ),Ss out->(∀p,p∈l->p.1<p.2)->l.Pairwise (fun a b=>a.1<=b.1)->(∀p,p∈out->∀q,q∈l->p.1<=q.1)->
  Ss (l.foldl Ej out)/\∀x,Wu (l.foldl Ej out) x↔Wu out x\/Wu l x:=by
 induction l with
 |nil=>intro out h _ _ _;exact⟨h,fun x=>⟨Or.inl,fun k=>k.elim id fun k=>(Jt k).elim⟩⟩
 |cons s l ih=>
  intro out h h1 h2 h3;obtain⟨a1,a2,a3⟩:=pH h (h1 s (eQQ ..)) (fun p hp=>h3 p hp s (eQQ ..));obtain⟨p1,p2⟩:=List.pairwise_cons.1 h2;obtain⟨b1,b2⟩:=ih (Ej out s) a1 (fun p hp=>h1 p (cQQ _ hp)) p2 (fun p hp q hq=>by have:=a3 p hp;have:=p1 q hq;grind);refine⟨b1,fun x=> ?_⟩;rw[List.foldl_cons,b2,a2,Gd,or_assoc]
theorem Ri {ps:List QQ}{p:QQ}:p∈Hn ps↔p∈ps/\p.1<p.2:=by unfold Hn;simp
theorem Li (ps:List QQ):Ss (Ff ps)/\∀x,Wu (Ff ps) x↔Wu (Hn ps) x:=by
  have hs:Stb.Srt aBC (Ea ps):=Stb.stab_srt (aFM fun p:QQ=>p.1) _;have hm:∀p,p∈Ea ps↔p∈Hn ps:=fun p=>Stb.mem_stab
  obtain⟨a,b⟩:=uX (Ea ps) [] lC (fun p hp=>(Ri.1 ((hm p).1 hp)).2) (List.Pairwise.imp (fun {x y} h=>by unfold aBC at h;rw[decide_eq_false_iff_not]at h;grind) hs) (by simp);refine⟨a,fun x=> ?_⟩;unfold Ff;rw[b,vY hm];exact⟨fun k=>k.elim (fun k=>(Jt k).elim) id,Or.inr⟩
theorem nV {l:List QQ}(h:Ss l):Hn l=l:=by
  unfold Hn;rw[List.filter_eq_self];intro p hp;rw[decide_eq_true_iff];exact h.2 p hp
theorem jH {l:List QQ}(h:Ss l):Ff l=l:=Uo (Li l).1 h (fun x=>by rw[(Li l).2,nV h])
theorem eV (ps:List QQ):Ff (Ff ps)=Ff ps:=jH (Li ps).1
theorem uQ {α:Type}{lt:α->α->Bool}{R:α->α->Prop}(hs:∀x y,R x y->R y x){l:List α}{y:α}(h:l.Pairwise R)(hy:∀x,x∈l->R x y):(Stb.ins lt l y).Pairwise R:=by
 induction l with
 |nil=>exact List.pairwise_singleton ..
 |cons x l ih=>
  obtain⟨h1,h2⟩:=List.pairwise_cons.1 h;rw[Stb.ins];split
  ·exact List.pairwise_cons.2 ⟨fun z hz=>hs _ _ (hy z hz),h⟩
  refine List.pairwise_cons.2 ⟨fun z hz=> ?_,ih h2 fun z hz=>hy z (cQQ _ hz)⟩;rcases Stb.mem_ins.1 hz with rfl|hz
  ·exact hy x (eQQ ..)
  exact h1 z hz
theorem nP {α:Type}{lt:α->α->Bool}{R:α->α->Prop}(hs:∀x y,R x y->R y x)(l:List α)(h:l.Pairwise R):(Stb.stab lt l).Pairwise R:=by
  induction l using Stb.rev_rec with
  |nil=>exact List.Pairwise.nil
  | snoc l y ih=>
    rw[List.pairwise_append]at h;rw[Stb.stab_snoc];exact uQ hs (ih h.1) fun x hx=>h.2.2 x (Stb.mem_stab.1 hx) y (by simp)
theorem iJ (p:QQ)(l:List QQ):Hn (p::l)=if p.1<p.2 then p::Hn l else Hn l:=by
  unfold Hn;by_cases h:p.1<p.2<;>simp[h]
def Fg (f t:Rat)(p:QQ):Rat:=
  if (if p.1<f then f else p.1)<(if t<p.2 then t else p.2)then(if t<p.2 then t else p.2)-(if p.1<f then f else p.1)else 0
def Dw (f t:Rat)(l:List QQ):Rat:=(l.map (Fg f t)).sum
theorem Eo (f t:Rat):Dw f t []=0:=rfl
theorem Ce (f t:Rat)(p:QQ)(l:List QQ):Dw f t (p::l)=Fg f t p+Dw f t l:=by unfold Dw;rw[List.map_cons,List.sum_cons]
theorem Kt (f t:Rat)(l m:List QQ):Dw f t (l++m)=Dw f t l+Dw f t m:=by
  induction l with
  |nil=>rw[Eo,fQQ];grind
  |cons p l ih=>rw[iZZ,Ce,Ce,ih];grind
theorem jP {f t:Rat}{p:QQ}(h:¬p.1<p.2):Fg f t p=0:=by unfold Fg;grind
theorem jN (f t:Rat)(l:List QQ):Dw f t (Hn l)=Dw f t l:=by
  induction l with
  |nil=>rfl
  | cons p l ih=>
    rw[iJ];split
    · rw[Ce,Ce,ih]
    rename_i h;rw[Ce,jP h,ih];grind
theorem yZ (f t:Rat)(p:QQ):0<=Fg f t p:=by unfold Fg;grind
theorem yY (f t:Rat)(l:List QQ):0<=Dw f t l:=by
  induction l with
  |nil=>rw[Eo];grind
  |cons p l ih=>rw[Ce];have:=yZ f t p;grind
theorem pZ {f t:Rat}(h:t<=f)(l:List QQ):Dw f t l=0:=by
  induction l with
  |nil=>rfl
  | cons p l ih=>
    rw[Ce,ih];have:Fg f t p=0:=by unfold Fg;grind
    grind
theorem bJ {f t:Rat}:∀(l:List QQ),Ss l->f<=t->Dw f t l<=t-f
 | [],_,h=>by rw[Eo];grind
 |p::l,hs,h=>by
  rw[Ce];have hp:=hs.head;by_cases h1:p.2<=f
  ·have:=bJ l hs.tail h
   have:Fg f t p=0:=by unfold Fg;grind
   grind
  by_cases h2:t<=p.2
  ·have hz:Dw f t l=0:=by
    have A0:∀q,q∈l->Fg f t q=0:=fun q hq=>by have:=hs.far hq;unfold Fg;grind
    clear hs;induction l with
    |nil=>rfl
    |cons q l ih=>rw[Ce,A0 q (eQQ ..),ih fun r hr=>A0 r (cQQ _ hr)];grind
   have:Fg f t p<=t-f:=by unfold Fg;grind
   grind
  have hz:Dw f t l=Dw p.2 t l:=by
   have A0:∀q,q∈l->Fg f t q=Fg p.2 t q:=fun q hq=>by have:=hs.far hq;unfold Fg;grind
   unfold Dw;rw[List.map_congr_left A0]
  have h3:=bJ (f:=p.2) (t:=t) l hs.tail (by grind);have:Fg f t p<=p.2-f:=by unfold Fg;grind
  grind
end
section
attribute [local go_sem ↓] Go.wp_at_zero Go.wp_at_succ Ae Ad
theorem Nb (L:Nat)(hL:L<=60000)(Bc:Nat)(w:World)(e f:Ca)(he:e.Ok L w)(hf:f.Ok L w)(hc:w.cell? ⟨Bc,0,none⟩=some (.func (.func 54) #[] #[])):
  Calls prog 173 #[(rg e.a),(rg f.a),.pointer (π Bc)] w fun x w'=>x= .returned (.bool (decide (e.q=f.q)))/\Aa w w':=by
 have RE:=zH he.1;have A2:=zH he.2;have RF:=zH hf.1;have A1:=zH hf.2;have HC:=zH hc;clear he hf hc;go_enter func173,ntmps173
 have H0:=zH (Hp.start w);go_upto_region 0 with fail;apply wl;apply Cm 58 (rc e.a) H0.1;intro B1 A9 A5 _;apply Cm 58 (rc f.a) A5.1;intro B0 A8 A0 _;apply zq φ;rcases Cx (e.q=f.q)with CQ|CQ
 ·go_upto_region 1 with fail
  apply wl;refine ze Bc 0 (.func (.func 54) #[] #[]) (Le (A0.1.ext.get HC.1)) ?_;refine Cc A0.1 _ _ ?_;refine aC A0.1 (Ga (L:=60000) (RV.Is.nin (RE.1.dig A0.1.dig0) (Av A2.1 ω)) (RV.Is.nin (RF.1.dig A0.1.dig0) (Av A1.1 ω)) ω) ?_;intro A7 A4 _;apply zp τ (by exact Rr (e:=(An (Rb.2 CQ.1))));apply zq τ;go_wp2_with fail;go_ret;exact⟨by rw[decide_eq_true CQ.1];rfl,A4.1.ext⟩
 go_upto_region 1 with fail;apply wl;refine ze Bc 0 (.func (.func 54) #[] #[]) (Le (A0.1.ext.get HC.1)) ?_;refine Cc A0.1 _ _ ?_;refine aC A0.1 (Ga (L:=60000) (RV.Is.nin (RE.1.dig A0.1.dig0) (Av A2.1 ω)) (RV.Is.nin (RF.1.dig A0.1.dig0) (Av A1.1 ω)) ω) ?_;intro A6 A3 _;apply zp φ (by exact Rr (e:=(Al (fun hh=>CQ.1 (Rb.1 hh)))));apply zq φ;go_wp2_with fail;go_ret;exact⟨by rw[decide_eq_false CQ.1];rfl,A3.1.ext⟩
theorem qX (L:Nat)(hL:L<=60000)(Bc:Nat)(v:Value)(es:List Ca)(base:Nat)(w:World)(h:Ba w base 58 4 v es.length (es.flatMap Ca.cells))(hbase:base<=w.heap.size)(hok:∀e,e∈es->e.Ok L w)(hc:w.cell? ⟨Bc,0,none⟩=some (.func (.func 54) #[] #[]))(hB:¬v.ownBlock=some Bc)(hn:es.length<=100000000):
  Calls prog 172 #[v,.func (.func 173) #[] #[.pointer (π Bc)]] w fun x w'=>∃v',x= .returned v'/\Ba w' base 58 4 v' (Dp (fun x y:Ca=>decide (x.q=y.q)) es).length ((Dp (fun x y:Ca=>decide (x.q=y.q)) es).flatMap Ca.cells)/\w.grownBy w' v.ownBlock/\Ah w w'/\v'.ownBlock=v.ownBlock:=by
 obtain⟨w0,I3,rfl⟩:=aAW w base hbase;have F2:=zH hok;have HC:=zH hc;have HB:=zH hB;clear hc hB hok;rcases h.2 with⟨rfl,h0⟩|⟨g,cap,rest,rfl,hb,hg,hc1,E9,E8,hc4⟩
 ·have he:es=[]:=iXX h0
  subst he;go_enter func172,ntmps172;go_wp2_with fail;go_ret;exact⟨_,rfl,h,World.grownBy.refl _ _,Ah.refl _,rfl⟩
 have H0:=zH (Hp.one I3 h);have A5:=zH hc1;clear h I3 hb hg E9 E8 hc4;have B6:=zH (show Fr (fun kz=>Value.ownBlock (.slice (π g) es.length cap)=some kz) w w from Fr.of_ext (Aa.refl w));go_enter func172,ntmps172
 go_upto_region 0 with fail;apply wl;refine Cn Af _ ?_;by_cases c2:es.length<2
 ·have HS:=zH c2
  clear c2;go_upto_region 1 with fail;apply wl;refine Cc Af _ (iV ((es.length:Nat):Int)) ?_;apply zp τ (by exact Eg (e:=(An (by have A0:=HS.1;omega))));go_upto_region 2 with fail;apply wl;refine Cc Af _ _ ?_;have G0:Dp (fun x y:Ca=>decide (x.q=y.q)) es=es:=by have hs:=HS.1;match es,hs with| [],_=>rfl| [x],_=>rfl|x::y::l,hs=>exact absurd hs (by simp)
  go_wp2_with fail;go_ret;exact⟨_,rfl,by rw[G0];exact H0.1.row (i:=0) (by rfl),World.grownBy.refl _ _,Ah.refl _,rfl⟩
 have HS:=zH c2;clear c2;go_upto_region 1 with fail;apply wl;refine Cc Af _ (iV ((es.length:Nat):Int)) ?_;apply zp φ (by exact Eg (e:=(Al (by have A0:=HS.1;omega))));go_upto_region 3 with fail;apply wl;apply zq (iV 1);go_wp2_with fail;go_loopg [5] (es.length) (fun cq K8 wr=>∃(j:Nat),cq=es.length-j/\K8= iV ((j+1:Nat):Int)/\(j+1<=es.length)/\(Dp (fun x y:Ca=>decide (x.q=y.q)) (es.take (j+1))=es.take (j+1))/\(Fr (fun kz=>Value.ownBlock (.slice (π g) es.length cap)=some kz) w wr)/\Hp w0 wr [.row 58 4 (.slice (π g) es.length cap) (es.length) (List.flatMap Ca.cells es)]/\Ah w wr)
 case atStart=>exact⟨0,rfl,rfl,(by have h_:=HS.1;omega),(by have hs:=HS.1;match es,hs with| [],hs=>exact absurd hs (by decide)|x::l,_=>rfl),B6.1,H0.1,Ah.refl _⟩
 obtain⟨j,rfl,rfl,C9,C4,A2,D2,D3⟩:=hrel;generalize wr=B9 at*;have HK:=zH C9;clear C9;have G7:=zH C4;clear C4;have B6:=zH A2;clear A2;have C8:=zH D2;have F5:=zH D3;clear D2 D3;rcases Cx (j+1<es.length)with HLT|HLT
 ·go_upto_region 4 with fail
  apply wl;refine Dt Af (iV ((j+1:Nat):Int)) _ (iV ((es.length:Nat):Int)) ?_;apply zp τ (by exact Eg (e:=(An (by have A0:=HK.1;have A3:=HLT.1;omega))));obtain⟨e,he⟩:∃e,es[j+1]?=some e:=⟨_,aQQ HLT.1⟩;obtain⟨f,hf⟩:∃f,es[j]?=some f:=⟨_,aQQ (by have h_:=HLT.1;omega)⟩;have F1:=zH he;have A6:=F2.1 e (bZZ he);have J5:=zH A6.1;have K2:=zH A6.2;clear he A6;have G5:=zH hf;have A6:=F2.1 f (bZZ hf);have J4:=zH A6.1;have K1:=zH A6.2;clear hf A6;have J2:=zH (Qj (eqv:=(fun x y:Ca=>decide (x.q=y.q))) F1.1 G5.1);rcases Cx (e.q=f.q)with HEQ|HEQ
  ·go_upto_region 6 with fail
   refine zy ?_;have L7:=zH (C8.1.step (Aa.refl B9).drew);have K0:=zH (Ah.of_ext (w:=B9) zb);have J1:=zH (B6.1.trans (Fr.of_ext (Aa.refl B9).drew));refine rN Af zb (bs 11 7) 0 1 2 _ _ (iV ((j+1:Nat):Int)) ?_;refine zo 3 (bs 11 15) (v:= .pointer (some ⟨g,(j+1)*4,none⟩)) zb ?_ (hv:=by intro w B2;exact Ha (k:=j+1) underlying127 (l:=(by have h_:=HLT.1;omega)) (f:=(cZZ _).symm));refine zg 4 (bs 11 31) g ((j+1)*4) (rc e.a) (C8.1.elem (f:=Ca.cells) (i:=0) rR Ca.len F1.1) underlying58 zb ?_;refine cR Af zb (bs 11 127) 5 6 _ (iV ((j+1:Nat):Int)) ?_;refine zu 7 (bs 11 255) (v:= iV (j:Int)) zb ?_ (hv:=by intro w B2;exact Xg (by have A0:=HK.1;have A3:=HLT.1;omega));refine zo 8 (bs 11 511) (v:= .pointer (some ⟨g,j*4,none⟩)) zb ?_ (hv:=by intro w B2;exact Ha (k:=j) underlying127 (l:=(by have h_:=HLT.1;omega)) (f:=(cZZ _).symm));refine zg 9 (bs 11 1023) g (j*4) (rc f.a) (C8.1.elem (f:=Ca.cells) (i:=0) rR Ca.len G5.1) underlying58 zb ?_;have B7:=tD F5 K0;refine mC 10 (bs 11 2047) (Nb L hL Bc _ e f ⟨(J5.1.dig B7.1),K2.1⟩ ⟨(J4.1.dig B7.1),K1.1⟩ (J1.1.cell HC.1 HB.1)) ?_;rintro e I0 ⟨rfl,hx⟩;have J7:=zH (L7.1.step hx);have H5:=zH (show Ah B9.drew I0 from Ah.of_ext hx);have L2:=zH (J1.1.trans (Fr.of_ext hx));have K9:=zH (zb.trans hx);clear hx;refine⟨.bool true,by rw[decide_eq_true HEQ.1],K9.1,?_⟩;try simp only[ζ]
   refine wpAnyH_done kR ?_ _;obtain⟨d,hd⟩:∃d,es.length=j+1+d:=⟨es.length-(j+1),by have h_:=HLT.1;omega⟩;obtain⟨c2,E9⟩:∃c2,cap=j+1+c2:=⟨cap-(j+1),by have h_:=HLT.1;have A7:=A5.1;omega⟩;have HD:=zH hd;have A8:=zH E9;clear hd E9;go_upto_region 7 with fail
   apply wl;refine Cc Af _ (iV ((j+1:Nat):Int)) ?_;apply zp (.slice (some ⟨g,(j+1)*4,none⟩) d c2) (by exact mI rR underlying127 kR rR rR (by first|rfl|omega) HD.1 (by have A0:=HK.1;have A3:=HLT.1;have B1:=HD.1;have A9:=A8.1;have B0:=A5.1;omega) A8.1 (by have A0:=HK.1;have A3:=HLT.1;have B1:=HD.1;have A9:=A8.1;have B0:=A5.1;omega));apply zq (.slice (some ⟨g,(j+1)*4,none⟩) d c2);go_upto_region 8 with fail;apply wl;apply zq (iV 1);go_wp2_with fail;go_loopg [5,7] (d) (fun cq K7 v45 wr=>∃(i:Nat) (k:Nat) (ds:List Ca),cq=d-i/\K7= iV (k:Int)/\v45= iV ((i+1:Nat):Int)/\(i+1<=d)/\(k<j+1+(i+1))/\(ds.length=es.length)/\(ds.take k=Dp (fun x y:Ca=>decide (x.q=y.q)) (es.take (j+1+(i+1))))/\(ds.drop (j+1+i)=es.drop (j+1+i))/\(Fr (fun kz=>Value.ownBlock (.slice (π g) es.length cap)=some kz) w wr)/\Hp w0 wr [.row 58 4 (.slice (π g) es.length cap) (es.length) (List.flatMap Ca.cells ds)]/\Ah I0 wr)
   case atStart=>exact⟨0,j+1,es,rfl,rfl,rfl,(by have h_:=HLT.1;have A7:=HD.1;omega),ω,rfl,(by rw[show j+1+(0+1)=j+1+1 by omega,J2.1,if_pos (decide_eq_true HEQ.1),gXX];exact G7.1.symm),rfl,L2.1,J7.1,Ah.refl _⟩
   obtain⟨i,k,ds,rfl,rfl,rfl,D0,C0,C1,C3,C2,A2,D2,D3⟩:=hrel;generalize wr=B8 at*;have HI:=zH D0;clear D0;have A1:=zH C0;clear C0;have A4:=zH C1;clear C1;have G6:=zH C3;clear C3;have F3:=zH C2;clear C2;have B6:=zH A2;clear A2;have C7:=zH D2;have E5:=zH D3;clear D2 D3 J7;rcases Cx (i+1<d)with HLT2|HLT2
   ·go_upto_region 9 with fail
    apply wl;refine Dt Af (iV ((i+1:Nat):Int)) (.slice (some ⟨g,(j+1)*4,none⟩) d c2) (iV (d:Int)) ?_;apply zp τ (by exact Eg (e:=(An (by have A0:=HI.1;have A3:=A1.1;have B1:=HD.1;have A9:=A8.1;have B0:=A5.1;have B5:=A4.1;have B4:=HLT2.1;omega))));obtain⟨e2,F9⟩:∃e2,es[j+1+i+1]?=some e2:=⟨_,aQQ (by have h_:=HLT2.1;have A7:=HD.1;omega)⟩;obtain⟨f2,F8⟩:∃f2,es[j+1+i]?=some f2:=⟨_,aQQ (by have h_:=HLT2.1;have A7:=HD.1;omega)⟩;have D8:=zH F9;have A6:=F2.1 e2 (bZZ F9);have E0:=zH A6.1;have E7:=zH A6.2;clear F9 A6;have D7:=zH F8;have A6:=F2.1 f2 (bZZ F8);have D9:=zH A6.1;have E6:=zH A6.2;clear F8 A6;have C5:=zH (show ds[j+1+(i+1)]?=some e2 from(Sl F3.1 ω).trans D8.1);have D6:=zH (show ds[j+1+i]?=some f2 from(Sl F3.1 ω).trans D7.1);have D5:=zH (Qj (eqv:=(fun x y:Ca=>decide (x.q=y.q))) D8.1 D7.1);rcases Cx (e2.q=f2.q)with HEQ2|HEQ2
    ·go_upto_region 11 with fail
     refine zy ?_;have L6:=zH (C7.1.step (Aa.refl B8).drew);have J9:=zH (Ah.of_ext (w:=B8) zb);have J0:=zH (B6.1.trans (Fr.of_ext (Aa.refl B8).drew));refine rN Af zb (bs 12 7) 0 1 2 _ (.slice (some ⟨g,(j+1)*4,none⟩) d c2) (iV ((i+1:Nat):Int)) ?_;refine zo 3 (bs 12 15) (v:= .pointer (some ⟨g,(j+1)*4+(i+1)*4,none⟩)) zb ?_ (hv:=by intro w B2;exact Ha (k:=i+1) underlying127 (l:=(by have h_:=HLT2.1;omega)) (f:=rfl));refine zg 4 (bs 12 31) g ((j+1)*4+(i+1)*4) (rc e2.a) (Mr (C7.1.elem (f:=Ca.cells) (i:=0) rR Ca.len C5.1)) underlying58 zb ?_;refine cR Af zb (bs 12 127) 5 6 (.slice (some ⟨g,(j+1)*4,none⟩) d c2) (iV ((i+1:Nat):Int)) ?_;refine zu 7 (bs 12 255) (v:= iV (i:Int)) zb ?_ (hv:=by intro w B2;exact Xg (by have A0:=HI.1;have A3:=A1.1;have B1:=HD.1;have A9:=A8.1;have B0:=A5.1;have B5:=A4.1;have B4:=HLT2.1;omega));refine zo 8 (bs 12 511) (v:= .pointer (some ⟨g,(j+1)*4+i*4,none⟩)) zb ?_ (hv:=by intro w B2;exact Ha (k:=i) underlying127 (l:=(by have h_:=HLT2.1;omega)) (f:=rfl));refine zg 9 (bs 12 1023) g ((j+1)*4+i*4) (rc f2.a) (Mr (C7.1.elem (f:=Ca.cells) (i:=0) rR Ca.len D6.1)) underlying58 zb ?_;have E2:=tD (tD (tD B7 H5) E5) J9;refine mC 10 (bs 12 2047) (Nb L hL Bc _ e2 f2 ⟨(E0.1.dig E2.1),E7.1⟩ ⟨(D9.1.dig E2.1),E6.1⟩ (J0.1.cell HC.1 HB.1)) ?_;rintro e K4 ⟨rfl,hx⟩;have L5:=zH (L6.1.step hx);have L9:=zH (show Ah B8.drew K4 from Ah.of_ext hx);have L1:=zH (J0.1.trans (Fr.of_ext hx));have I8:=zH (zb.trans hx);clear hx;refine⟨.bool true,by rw[decide_eq_true HEQ2.1],I8.1,?_⟩;try simp only[ζ]
     refine zx 11 (bs 12 4095) φ I8.1 ?_;refine wpAnyH_done kR ?_ _;go_upto_region 10 with fail;apply wl;apply zq (iV ((i+1:Nat):Int));apply zp (iV ((i+2:Nat):Int)) (by exact Ht (by have A0:=HI.1;have A3:=A1.1;have B1:=HD.1;have A9:=A8.1;have B0:=A5.1;have B5:=A4.1;have B4:=HLT2.1;omega));apply zq (iV ((i+2:Nat):Int));have H4:=tD (tD E5 J9) L9;go_wp2_with fail
     go_roundg (d-(i+1))
     case measure=>exact(by have A0:=HI.1;have A3:=A1.1;have B1:=HD.1;have A9:=A8.1;have B0:=A5.1;have B5:=A4.1;have B4:=HLT2.1;have I1:=(show i<d from by have h_:=HLT2.1;omega);omega)
     case rel=>exact⟨i+1,k,ds,rfl,rfl,(by go_num),HLT2.1,(by have h_:=A1.1;omega),A4.1,(by rw[show j+1+(i+1+1)=j+1+i+1+1 by omega,D5.1,if_pos (decide_eq_true HEQ2.1),gXX];exact G6.1),(by rw[show j+1+(i+1)=(j+1+i)+1 by omega,<-List.drop_drop,F3.1,List.drop_drop]),L1.1,L5.1,H4.1⟩
    go_upto_region 11 with fail;refine zy ?_;have L4:=zH (C7.1.step (Aa.refl B8).drew);have J8:=zH (Ah.of_ext (w:=B8) zb);have I9:=zH (B6.1.trans (Fr.of_ext (Aa.refl B8).drew));refine rN Af zb (bs 12 7) 0 1 2 _ (.slice (some ⟨g,(j+1)*4,none⟩) d c2) (iV ((i+1:Nat):Int)) ?_;refine zo 3 (bs 12 15) (v:= .pointer (some ⟨g,(j+1)*4+(i+1)*4,none⟩)) zb ?_ (hv:=by intro w B2;exact Ha (k:=i+1) underlying127 (l:=(by have h_:=HLT2.1;omega)) (f:=rfl));refine zg 4 (bs 12 31) g ((j+1)*4+(i+1)*4) (rc e2.a) (Mr (C7.1.elem (f:=Ca.cells) (i:=0) rR Ca.len C5.1)) underlying58 zb ?_;refine cR Af zb (bs 12 127) 5 6 (.slice (some ⟨g,(j+1)*4,none⟩) d c2) (iV ((i+1:Nat):Int)) ?_;refine zu 7 (bs 12 255) (v:= iV (i:Int)) zb ?_ (hv:=by intro w B2;exact Xg (by have A0:=HI.1;have A3:=A1.1;have B1:=HD.1;have A9:=A8.1;have B0:=A5.1;have B5:=A4.1;have B4:=HLT2.1;omega));refine zo 8 (bs 12 511) (v:= .pointer (some ⟨g,(j+1)*4+i*4,none⟩)) zb ?_ (hv:=by intro w B2;exact Ha (k:=i) underlying127 (l:=(by have h_:=HLT2.1;omega)) (f:=rfl));refine zg 9 (bs 12 1023) g ((j+1)*4+i*4) (rc f2.a) (Mr (C7.1.elem (f:=Ca.cells) (i:=0) rR Ca.len D6.1)) underlying58 zb ?_;have E1:=tD (tD (tD B7 H5) E5) J8;refine mC 10 (bs 12 2047) (Nb L hL Bc _ e2 f2 ⟨(E0.1.dig E1.1),E7.1⟩ ⟨(D9.1.dig E1.1),E6.1⟩ (I9.1.cell HC.1 HB.1)) ?_;rintro e K3 ⟨rfl,hx⟩;have J6:=zH (L4.1.step hx);have L8:=zH (show Ah B8.drew K3 from Ah.of_ext hx);have L0:=zH (I9.1.trans (Fr.of_ext hx));have I7:=zH (zb.trans hx);clear hx;refine⟨.bool false,by rw[decide_eq_false HEQ2.1],I7.1,?_⟩;try simp only[ζ]
    refine zx 11 (bs 12 4095) τ I7.1 ?_;refine wpAnyH_done kR ?_ _;go_upto_region 12 with fail;apply wl;refine Fk Af _ (iV (k:Int)) (.slice (some ⟨g,(j+1)*4,none⟩) d c2) (iV ((i+1:Nat):Int)) ?_;apply zp (.pointer (some ⟨g,(j+1)*4+(i+1)*4,none⟩)) (by exact Ha (k:=i+1) underlying127 (l:=(by have h_:=HLT2.1;omega)) (f:=rfl));refine zd g ((j+1)*4+(i+1)*4) (rc e2.a) (Mr (J6.1.elem (f:=Ca.cells) (i:=0) rR Ca.len C5.1)) underlying58 ?_;apply zp (.pointer (some ⟨g,k*4,none⟩)) (by exact Ha (k:=k) underlying127 (l:=(by have h_:=A1.1;have I6:=HLT2.1;have A7:=HD.1;omega)) (f:=(cZZ _).symm));refine pD (f:=Ca.cells) rR _ _ _ rR J6.1 (ix:=0) rR Ca.len k e2 (by have h_:=A1.1;have I6:=HLT2.1;have A7:=HD.1;have F0:=A4.1;omega) (rc e2.a) rR (k*4) rR rR rR kR (by simp[Value.oneCell']) (by simp[Ar]) ?_;intro K6 hh hd ho;have H3:=hN hh;have H9:=zH (hd);have G4:=zH (L0.1.trans_new ho (fun j hj=> .inl hj));clear hh hd ho
    (try simp only[Act.put])
    go_upto_region 13 with fail;apply wl;apply zq (iV (k:Int));apply zp (iV ((k+1:Nat):Int)) (by exact Ht (by have A0:=HI.1;have A3:=A1.1;have B1:=HD.1;have A9:=A8.1;have B0:=A5.1;have B5:=A4.1;have B4:=HLT2.1;omega));apply zq (iV ((k+1:Nat):Int));go_upto_region 10 with fail;apply wl;apply zq (iV ((i+1:Nat):Int));apply zp (iV ((i+2:Nat):Int)) (by exact Ht (by have A0:=HI.1;have A3:=A1.1;have B1:=HD.1;have A9:=A8.1;have B0:=A5.1;have B5:=A4.1;have B4:=HLT2.1;omega));apply zq (iV ((i+2:Nat):Int));have E4:=tD (tD (tD E5 J8) L8) H9;go_wp2_with fail
    go_roundg (d-(i+1))
    case measure=>exact(by have A0:=HI.1;have A3:=A1.1;have B1:=HD.1;have A9:=A8.1;have B0:=A5.1;have B5:=A4.1;have B4:=HLT2.1;have I1:=(show i<d from by have h_:=HLT2.1;omega);omega)
    case rel=>exact⟨i+1,k+1,(ds.set k e2),rfl,(by go_num),(by go_num),HLT2.1,(by have h_:=A1.1;omega),(by rw[eZZ];exact A4.1),(by rw[show j+1+(i+1+1)=j+1+i+1+1 by omega,D5.1,if_neg (by rw[decide_eq_false HEQ2.1];decide),Wx (by have h_:=A1.1;have I6:=HLT2.1;have A7:=HD.1;have F0:=A4.1;omega)];exact congrArg (· ++[e2]) G6.1),(by rw[List.drop_set_of_lt (by have h_:=A1.1;omega),show j+1+(i+1)=(j+1+i)+1 by omega,<-List.drop_drop,F3.1,List.drop_drop]),G4.1,H3.1,E4.1⟩
   go_upto_region 9 with fail;apply wl;refine Dt Af (iV ((i+1:Nat):Int)) (.slice (some ⟨g,(j+1)*4,none⟩) d c2) (iV (d:Int)) ?_;apply zp φ (by exact Eg (e:=(Al (by have A0:=HI.1;have A3:=A1.1;have B1:=HD.1;have A9:=A8.1;have B0:=A5.1;have B5:=A4.1;have B4:=HLT2.1;omega))));have F7:i+1=d:=by have h_:=HLT2.1;have A7:=HI.1;omega
   have L3:=zH (show ds.take k=Dp (fun x y:Ca=>decide (x.q=y.q)) es from by rw[G6.1,show j+1+(i+1)=es.length by rw[HD.1];omega,cXX (Cl _)]);obtain⟨d3,I4⟩:∃d3,es.length=k+d3:=⟨es.length-k,by have h_:=A1.1;have A7:=HD.1;omega⟩;obtain⟨c3,E8⟩:∃c3,cap=k+c3:=⟨cap-k,by have h_:=A1.1;have A7:=HD.1;have F0:=A5.1;omega⟩;have C6:=zH I4;have G8:=zH E8;have I5:0<d3:=by have h_:=A1.1;have A7:=HD.1;omega
   have F4:=zH I5;clear I4 E8 F7 I5;go_upto_region 14 with fail;apply wl;refine Cc Af _ (iV (k:Int)) ?_;apply zp (.slice (some ⟨g,k*4,none⟩) d3 c3) (by exact mI rR underlying127 kR rR rR (by first|rfl|omega) C6.1 F4.1 G8.1 (by have A0:=HI.1;have A3:=A1.1;have B1:=HD.1;have A9:=A8.1;have B0:=A5.1;have B5:=A4.1;have B4:=HLT2.1;have M1:=C6.1;have I1:=G8.1;have M0:=F4.1;omega));refine uI (f:=Ca.cells) rR _ 127 rR C7.1 (ix:=0) rR Ca.len A4.1 k c3 (by have h_:=C6.1;have A7:=F4.1;omega) (by rw[show es.length-k=d3 by have h_:=C6.1;omega];rfl) underlying127 (.agg z4) Tryz.zeroValue58 rfl (by simp[Value.cells,Value.oneCell']) (by simp[Value.cells,Ar]) dC ?_;intro K5 hh hd ho;have H2:=hN hh;have H8:=zH (hd);have G3:=zH (B6.1.trans_new ho (fun j hj=> .inl hj));clear hh hd ho
   (try simp only[Act.put])
   go_upto_region 15 with fail;apply wl;refine Cc Af _ (iV (k:Int)) ?_;apply zp (.slice (π g) k cap) (by exact zW (size:=4) rR underlying127 kR rR rR (by first|rfl|omega) (by have h_:=C6.1;omega) A5.1 (by have h_:=G8.1;have A7:=C6.1;have F0:=A5.1;have M2:=F4.1;omega));refine Cn Af _ ?_;have J3:=zH (H2.1.row (i:=0) (by rfl));have D1:(ds.take k).length=k:=by rw[dXX,A4.1,C6.1];omega
   rw[L3.1]at D1 J3;go_wp2_with fail;go_ret;exact⟨_,rfl,by rw[D1];exact J3.1,G3.1.grownBy,((((F5.1.trans K0.1).trans H5.1).trans E5.1).trans H8.1),rfl⟩
  go_upto_region 6 with fail;refine zy ?_;have H1:=zH (C8.1.step (Aa.refl B9).drew);have H7:=zH (Ah.of_ext (w:=B9) zb);have D4:=zH (B6.1.trans (Fr.of_ext (Aa.refl B9).drew));refine rN Af zb (bs 11 7) 0 1 2 _ _ (iV ((j+1:Nat):Int)) ?_;refine zo 3 (bs 11 15) (v:= .pointer (some ⟨g,(j+1)*4,none⟩)) zb ?_ (hv:=by intro w B2;exact Ha (k:=j+1) underlying127 (l:=(by have h_:=HLT.1;omega)) (f:=(cZZ _).symm));refine zg 4 (bs 11 31) g ((j+1)*4) (rc e.a) (C8.1.elem (f:=Ca.cells) (i:=0) rR Ca.len F1.1) underlying58 zb ?_;refine cR Af zb (bs 11 127) 5 6 _ (iV ((j+1:Nat):Int)) ?_;refine zu 7 (bs 11 255) (v:= iV (j:Int)) zb ?_ (hv:=by intro w B2;exact Xg (by have A0:=HK.1;have A3:=HLT.1;omega));refine zo 8 (bs 11 511) (v:= .pointer (some ⟨g,j*4,none⟩)) zb ?_ (hv:=by intro w B2;exact Ha (k:=j) underlying127 (l:=(by have h_:=HLT.1;omega)) (f:=(cZZ _).symm));refine zg 9 (bs 11 1023) g (j*4) (rc f.a) (C8.1.elem (f:=Ca.cells) (i:=0) rR Ca.len G5.1) underlying58 zb ?_;have B3:=tD F5 H7;refine mC 10 (bs 11 2047) (Nb L hL Bc _ e f ⟨(J5.1.dig B3.1),K2.1⟩ ⟨(J4.1.dig B3.1),K1.1⟩ (D4.1.cell HC.1 HB.1)) ?_;rintro e F6 ⟨rfl,hx⟩;have G9:=zH (H1.1.step hx);have H6:=zH (show Ah B9.drew F6 from Ah.of_ext hx);have G2:=zH (D4.1.trans (Fr.of_ext hx));have G1:=zH (zb.trans hx);clear hx;refine⟨.bool false,by rw[decide_eq_false HEQ.1],G1.1,?_⟩;try simp only[ζ]
  refine wpAnyH_done kR ?_ _;go_upto_region 5 with fail;apply wl;apply zq (iV ((j+1:Nat):Int));apply zp (iV ((j+2:Nat):Int)) (by exact Ht (by have A0:=HK.1;have A3:=HLT.1;omega));apply zq (iV ((j+2:Nat):Int));have E3:=tD B3 H6;go_wp2_with fail
  go_roundg (es.length-(j+1))
  case measure=>exact(by have A0:=HK.1;have A3:=HLT.1;have A9:=(show j<es.length from by have h_:=HLT.1;omega);omega)
  case rel=>exact⟨j+1,rfl,(by go_num),HLT.1,(by rw[J2.1,if_neg (by rw[decide_eq_false HEQ.1];decide),G7.1,List.take_add_one (i:=j+1),F1.1];rfl),G2.1,G9.1,E3.1⟩
 go_upto_region 4 with fail;apply wl;refine Dt Af (iV ((j+1:Nat):Int)) _ (iV ((es.length:Nat):Int)) ?_;apply zp φ (by exact Eg (e:=(Al (by have A0:=HK.1;have A3:=HLT.1;omega))));go_upto_region 16 with fail;apply wl;refine Cc Af _ _ ?_;have G0:Dp (fun x y:Ca=>decide (x.q=y.q)) es=es:=by have h_:=G7.1;rwa[show j+1=es.length by have A7:=HLT.1;have F0:=HK.1;omega,cXX (Cl _)]at h_
 go_wp2_with fail;go_ret;exact⟨_,rfl,by rw[G0];exact C8.1.row (i:=0) (by rfl),B6.1.grownBy,F5.1,rfl⟩
end
section
open Go.Shelf Go.RowKit
def dJ:Go.Shelf.Ren:=⟨fun|6=>145|15=>175|14=>174|28=>181|29=>195|20=>187|21=>188|22=>189|23=>190|24=>191|25=>192|26=>193|27=>194|46=>202|47=>203|48=>204|49=>205|50=>206|57=>209|n=>n,fun|22=>127|24=>58|25=>65|3=>3|39=>94|0=>0|53=>113|55=>111|4=>4|46=>198|45=>197|50=>89|5=>5|9=>9|66=>209|70=>213|76=>215|77=>216|n=>n,fun|n=>n⟩
theorem xM:Go.Proofs.SlLaysF0.n6 prog dJ:={
 mixed:=by kernel_rfl
 f6:=⟨Tryz.f145.name,by decide,func145.trans (congrArg some (by kernel_rfl))⟩
 f14:=⟨Tryz.f174.name,by decide,func174.trans (congrArg some (by kernel_rfl))⟩
 f15:=func175.trans (congrArg some (by kernel_rfl))
 f20:=⟨Tryz.f187.name,by decide,func187.trans (congrArg some (by kernel_rfl))⟩
 f21:=⟨Tryz.f188.name,by decide,func188.trans (congrArg some (by kernel_rfl))⟩
 f22:=⟨Tryz.f189.name,by decide,func189.trans (congrArg some (by kernel_rfl))⟩
 f23:=⟨Tryz.f190.name,by decide,func190.trans (congrArg some (by kernel_rfl))⟩
 f24:=⟨Tryz.f191.name,by decide,func191.trans (congrArg some (by kernel_rfl))⟩
 f25:=⟨Tryz.f192.name,by decide,func192.trans (congrArg some (by kernel_rfl))⟩
 f26:=⟨Tryz.f193.name,by decide,func193.trans (congrArg some (by kernel_rfl))⟩
 f27:=⟨Tryz.f194.name,by decide,func194.trans (congrArg some (by kernel_rfl))⟩
 f28:=func181.trans (congrArg some (by kernel_rfl))
 f29:=func195.trans (congrArg some (by kernel_rfl))
 f46:=⟨Tryz.f202.name,by decide,func202.trans (congrArg some (by kernel_rfl))⟩
 f47:=func203.trans (congrArg some (by kernel_rfl))
 f48:=func204.trans (congrArg some (by kernel_rfl))
 f49:=⟨Tryz.f205.name,by decide,func205.trans (congrArg some (by kernel_rfl))⟩
 f50:=⟨Tryz.f206.name,by decide,func206.trans (congrArg some (by kernel_rfl))⟩
 f57:=⟨Tryz.f209.name,by decide,func209.trans (congrArg some (by kernel_rfl))⟩
 t0:=underlying0
 a0:=Tryz.isAgg0
 z0:=Tryz.sizeOf0
 v0:=Tryz.zeroValue0
 t3:=underlying3
 a3:=Tryz.isAgg3
 z3:=Tryz.sizeOf3
 v3:=Tryz.zeroValue3
 t4:=underlying4
 a4:=Tryz.isAgg4
 z4:=Tryz.sizeOf4
 v4:=Tryz.zeroValue4
 t5:=underlying5
 a5:=Tryz.isAgg5
 z5:=Tryz.sizeOf5
 v5:=Tryz.zeroValue5
 t9:=underlying9
 a9:=Tryz.isAgg9
 z9:=Tryz.sizeOf9
 v9:=Tryz.zeroValue9
 t22:=underlying127
 a22:=Tryz.isAgg127
 z22:=Tryz.sizeOf127
 v22:=Tryz.zeroValue127
 t25:=underlying65
 a25:=Tryz.isAgg65
 z25:=Tryz.sizeOf65
 v25:=Tryz.zeroValue65
 t39:=underlying94
 a39:=Tryz.isAgg94
 z39:=Tryz.sizeOf94
 v39:=Tryz.zeroValue94
 t45:=underlying197
 a45:=Tryz.isAgg197
 z45:=Tryz.sizeOf197
 v45:=Tryz.zeroValue197
 t46:=underlying198
 a46:=Tryz.isAgg198
 z46:=Tryz.sizeOf198
 v46:=Tryz.zeroValue198
 t50:=underlying89
 a50:=Tryz.isAgg89
 z50:=Tryz.sizeOf89
 v50:=Tryz.zeroValue89
 t53:=underlying113
 a53:=Tryz.isAgg113
 z53:=Tryz.sizeOf113
 v53:=Tryz.zeroValue113
 t55:=underlying111
 a55:=Tryz.isAgg111
 z55:=Tryz.sizeOf111
 v55:=Tryz.zeroValue111
 t66:=underlying209
 a66:=Tryz.isAgg209
 z66:=Tryz.sizeOf209
 v66:=Tryz.zeroValue209
 t70:=underlying213
 a70:=Tryz.isAgg213
 z70:=Tryz.sizeOf213
 v70:=Tryz.zeroValue213
 t76:=underlying215
 a76:=Tryz.isAgg215
 z76:=Tryz.sizeOf215
 v76:=Tryz.zeroValue215
 t77:=underlying216
 a77:=Tryz.isAgg216
 z77:=Tryz.sizeOf216
 v77:=Tryz.zeroValue216}
theorem Uj (L:Nat)(hL:L<=60000)(v:Value)(es:List Ca)(base:Nat)(w:World)(h:Ba w base 58 4 v es.length (es.flatMap Ca.cells))(hok:∀e,e∈es->e.Ok L w)(hn:es.length<=100000000):
  Calls prog 145 #[v,.func (.func 54) #[] #[]] w fun e w'=>e= .returned (.tuple #[])/\
   ∃es':List Ca,es'.Perm es/\es'.Pairwise (fun x y=>x.q<=y.q)/\Ba w' base 58 4 v es'.length (es'.flatMap Ca.cells)/\w.grownBy w' v.ownBlock/\Ah w w':=by
 have hc:=nU xM 4 (by decide) Tryz.isAgg58 Tryz.sizeOf58 Ca.cells Ca.len Ca.one aAT (fun w e=>e.Ok L w) (fun h d=>h.dig d) (fun x y=>Dh x.q y.q)
  (fun x h=>Rat.not_lt.2 Rat.le_refl (rcmp_lt.1 h)) (fun x y z h1 h2=>rcmp_lt.2 (by have a:=rcmp_lt.1 h1;have b:=rcmp_lt.1 h2;grind))
  (fun x y z h1 h2 h3=>by have k1:=Rat.not_lt.1 (fun h=>h1 (rcmp_lt.2 h));have k2:=Rat.not_lt.1 (fun h=>h2 (rcmp_lt.2 h));exact Rat.not_lt.2 (Rat.le_trans k2 k1) (rcmp_lt.1 h3))
  54 (enters_of func54 (by kernel_rfl) rfl)
  (fun w x y hx hy=>(Ga (L:=60000) (RV.Is.nin hx.1 (Av hx.2 hL)) (RV.Is.nin hy.1 (Av hy.2 hL)) ω:Calls _ _ _ _ _)) v es base 58 w h hok (ω)
 refine hc.mono ?_;rintro e w' ⟨rfl,es',h1,h2,h3⟩;exact⟨rfl,es',h1,h2.imp (fun h=>Rat.not_lt.1 (fun k=>h (rcmp_lt.2 k))),h3⟩
end
section
attribute [local go_sem ↓] Go.wp_at_zero Go.wp_at_succ Ae Ad
theorem iQ (L:Nat)(hL:L<=60000)(v:Value)(es:List Ca)(base:Nat)(w:World)(h:Ba w base 58 4 v es.length (es.flatMap Ca.cells))(hbase:base<=w.heap.size)(hok:∀e,e∈es->e.Ok L w)(hn:es.length<=100000000):
  Calls prog 143 #[v,.func (.func 54) #[] #[]] w fun x w'=>∃(v':Value) (es':List Ca),x= .returned v'/\Ba w' base 58 4 v' es'.length (es'.flatMap Ca.cells)/\w.grownBy w' v.ownBlock/\Ah w w'/\v'.ownBlock=v.ownBlock/\
   (es'.map Ca.q).Pairwise (· < ·)/\(∀x,x∈es'.map Ca.q↔x∈es.map Ca.q)/\(∀e,e∈es'->e∈es):=by
 obtain⟨w0,A6,rfl⟩:=aAW w base hbase;obtain⟨A,c,rfl,_⟩:=Ba.form h;have A9:=zH hok;have H0:=zH (Hp.one A6 h);have C1:=zH (show Fr (fun kz=>Value.ownBlock (.slice A es.length c)=some kz) w w from Fr.of_ext (Aa.refl w));clear h A6 hok;go_enter func143,ntmps143
 go_upto_region 0 with fail;apply wl;apply aA 65 [.func (.func 54) #[] #[]] H0.1;intro X1 w2 H4 hx B4;have D4:=zH (Ah.of_ext hx);have K6:=zH (C1.1.trans (Fr.of_ext hx));clear hx B4;refine Cn Af _ ?_;go_upto_region 1 with fail
 apply wl;refine Cc H4.1 _ _ ?_;refine zc (Uj L hL (.slice A es.length c) es _ _ (H4.1.row (i:=0) rR) (fun e he=>(A9.1 e he).dig D4.1) hn) ?_;rintro e B1 ⟨rfl,A1,A4,A7,A3,A5,A8⟩;have A0:=zH A4;have C0:=zH A7;rw[A4.length_eq]at A3;have hh:=H4.1.turn (i:=0) (e:= .row 58 4 (.slice A es.length c) es.length (es.flatMap Ca.cells)) (e':= .row 58 4 (.slice A es.length c) es.length (A1.flatMap Ca.cells)) (by rfl) (fun k h=>h) A5 A3 (fun k hk=> .inl hk);have A2:=hN hh;have B0:=zH (show Ah w2 B1 from A8);have B9:=zH (K6.1.trans_new A5 (fun j hj=> .inl hj));have hx:=True.intro;clear hh A3 A5 A8 A4 A7 hx;refine zn ?_;go_upto_region 2 with fail
 apply wl;refine Cc Af _ _ ?_;refine zc (qX L hL X1 (.slice A es.length c) A1 _ _ (by rw[A0.1.length_eq];exact A2.1.row (i:=0) rR) A2.1.ext.size (fun e he=>(A9.1 e (A0.1.mem_iff.1 he)).dig (D4.1.trans B0.1)) (A2.1.cell (i:=1) rR 0 rR) (A2.1.offRow (i:=1) (j:=0) rR rR dC rR) (by rw[A0.1.length_eq];exact hn)) ?_;rintro e C2 ⟨v2,rfl,B3,B5,B6,B7⟩;have B8:=zH (B9.1.trans_new B5 (fun j hj=> .inl hj));have hx:=True.intro;clear hx;refine zn ?_;refine zq (v2) ?_;go_wp2_with fail
 go_ret;have B2:(Dp (fun x y:Ca=>decide (x.q=y.q)) A1).Pairwise (fun x y=>x.q<y.q):=Sz (le:=fun x y=>x.q<=y.q) (fun a b c h1 h2=>by grind) (fun x y h1 h2=>by have h3:=of_decide_eq_false h2;grind) (fun x y h1 z h2=>by have h3:=of_decide_eq_true h1;grind) C0.1;refine⟨_,Dp (fun x y:Ca=>decide (x.q=y.q)) A1,rfl,B3,B8.1.grownBy,(D4.1.trans B0.1).trans B6,B7,?_,fun x=>⟨fun hx=> ?_,fun hx=> ?_⟩,fun e he=>A0.1.mem_iff.1 (Qk _ he)⟩
 ·rw[List.pairwise_map];exact B2
 ·obtain⟨e,he,rfl⟩:=List.mem_map.1 hx
  exact List.mem_map_of_mem (A0.1.mem_iff.1 (Qk _ he))
 obtain⟨e,he,rfl⟩:=List.mem_map.1 hx;obtain⟨f,hf,h2⟩:=cH (eqv:=(fun x y:Ca=>decide (x.q=y.q))) (key:=Ca.q) (fun x y h=>of_decide_eq_true h) (A0.1.mem_iff.2 he);exact List.mem_map.2 ⟨f,hf,h2⟩
def cQ (L:Nat)(y lo hi:Rat)(Bo:Nat)(A:Option Addr)(n c:Nat)(es:List Ca)(w0 w w':World):Prop:=
  ∃ (A':Option Addr) (c' n':Nat) (es':List Ca),Hp w0 w' [.blk Bo 127 [.slice A' n' c'],.row 58 4 (.slice A' n' c') n' (List.flatMap Ca.cells es')]/\Ah w w'/\Fr (fun kz=>kz=Bo\/Value.ownBlock (.slice A n c)=some kz) w w'/\
    (∀k,Value.ownBlock (.slice A' n' c')=some k->Value.ownBlock (.slice A n c)=some k\/w.heap.size<=k)/\es'.map Ca.q=es.map Ca.q++(if lo<y/\y<hi then[y]else[])/\n'=es'.length/\n'<=n+1/\∀e,e∈es'->e.Ok L w'
theorem aJ (L:Nat)(hL:L<=60000)(ry rl rh:RV)(y lo hi:Rat)(Xl Xh Bo:Nat)(A:Option Addr)(n c:Nat)(es:List Ca)(w0 w:World)(hh:Hp w0 w [.blk Bo 127 [.slice A n c],.row 58 4 (.slice A n c) n (List.flatMap Ca.cells es)])
  (hy:ry.Is w y)(h1:Nm.rl y<=L)(hl:rl.Is w lo)(hh2:rh.Is w hi)(hl2:Nm.rl lo<=L)(hh3:Nm.rl hi<=L)(hrl:w.rangeAt Xl 0 (rc rl))(hrh:w.rangeAt Xh 0 (rc rh))
  (hnl:¬(Xl=Bo\/Value.ownBlock (.slice A n c)=some Xl))(hnh:¬(Xh=Bo\/Value.ownBlock (.slice A n c)=some Xh))(hn:n=es.length)(hn2:n<=90000000)(hok:∀e,e∈es->e.Ok L w):
  Calls prog 140 #[(rg ry),.pointer (π Xl),.pointer (π Xh),.pointer (π Bo)] w fun e w'=>e= .returned (.tuple #[])/\cQ L y lo hi Bo A n c es w0 w w':=by
 have RY:=zH hy;have BY:=zH h1;have RL:=zH hl;have RH:=zH hh2;have BL:=zH hl2;have BH:=zH hh3;have GL:=zH hrl;have GH:=zH hrh;have NL:=zH hnl;have NH:=zH hnh;have HN:=zH hn;have A4:=zH hok;have H0:=zH hh;have B6:=zH hn2;clear hy h1 hl hh2 hl2 hh3 hrl hrh hnl hnh hn hn2 hok hh;have D0:=zH (show Fr (fun kz=>kz=Bo\/Value.ownBlock (.slice A n c)=some kz) w w from Fr.of_ext (Aa.refl w));go_enter func140,ntmps140
 go_upto_region 0 with fail;apply wl;apply aA 58 (rc ry) H0.1;intro X1 w2 H4 hx C5;have D4:=zH (Ah.of_ext hx);have K6:=zH (D0.1.trans (Fr.of_ext hx));clear hx C5;rcases Cx (lo<y/\y<hi)with CL|CL
 ·go_upto_region 1 with fail
  apply wl;refine zd Xl (0) (rc rl) (K6.1.range GL.1 NL.1) underlying58 ?_;refine Cn H4.1 _ ?_;refine zc (Ga (L:=60000) (RV.Is.nin (RL.1.dig D4.1) (Av BL.1 ω)) (RV.Is.nin (RY.1.dig D4.1) (Av BY.1 ω)) ω) ?_;rintro e w9 ⟨rfl,hx⟩;have B9:=zH (H4.1.step hx);have B1:=zH (Ah.of_ext hx);have B5:=zH (K6.1.trans (Fr.of_ext hx));clear hx;refine zn ?_;apply zp τ (by exact Eg (e:=(An (rcmp_lt.2 CL.1.1))));refine Cc B9.1 τ _ ?_;refine zd Xh (0) (rc rh) (B5.1.range GH.1 NH.1) underlying58 ?_;have A0:=tD D4 B1;refine zc (Ga (L:=60000) (RV.Is.nin (RY.1.dig A0.1) (Av BY.1 ω)) (RV.Is.nin (RH.1.dig A0.1) (Av BH.1 ω)) ω) ?_;rintro e B2 ⟨rfl,hx⟩;have B8:=zH (B9.1.step hx);have B0:=zH (Ah.of_ext hx);have B4:=zH (B5.1.trans (Fr.of_ext hx));clear hx;refine zn ?_;apply zp τ (by exact Eg (e:=(An (rcmp_lt.2 CL.1.2))));apply zq τ;go_upto_region 2 with fail
  apply wl;refine Cc B8.1 _ _ ?_;refine zp (w':=(B2.alloc (.cells ((rc ry):List Value).toArray 58))) (.slice (π B2.heap.size) 1 1) (by go_simp) ?_;refine Mm rR _ _ _ rR aBH rR B8.1 (ix:=1) rR 1 1 (rc ry) rR rfl (by simp[Value.oneCell']) (by simp[Ar]) dC (by unfold maxLen;exact(by have C4:=B6.1;omega)) (by have C4:=B6.1;omega) ?_;intro A3 A1 C3 hf hh hd hg;have A5:=zH hf;clear hf;rw[show List.flatMap Ca.cells es++(rc ry)=_ from Fs Ca.cells _ (⟨ry,y⟩:Ca)]at hh;have D5:=hN hh;have A9:=zH (hd);have C9:=zH (show Fr (fun kz=>kz=Bo\/Value.ownBlock (.slice A n c)=some kz) w C3 from(B4.1.trans (Fr.of_ext (Aq.alloc _))).trans_new hg (fun j hj=> .inl (.inr hj)));clear hh hd hg;try simp only[ζ]
  apply aU 0 (.slice (π A3) (n+1) A1) D5.1;intro D9 D3 hd ho;have A8:=zH (hd);have C8:=zH (C9.1.trans_new ho (fun j hj=> .inl (.inl (by injection hj with hj;exact hj.symm))));clear hd ho;have A6:=tD (tD (tD A0 B0) A9) A8;go_wp2_with fail
  first|refine bodyPost_end (v:= .tuple #[]) (results_none rfl _ _ _) rfl ?_|refine bodyPost_ret (v:= .tuple #[]) (results_none rfl _ _ _) rfl ?_
  exact⟨rfl,some ⟨A3,0,none⟩,A1,n+1,es++[(⟨ry,y⟩:Ca)],D3.1.take 2,((((D4.1.trans B1.1).trans B0.1).trans A9.1).trans A8.1),C8.1,(fun k_ hk_=>by have e_:A3=k_:=(by simpa[Value.ownBlock]using hk_);subst e_;exact A5.1.imp id (fun h_=>Av B4.1.size h_)),(by rw[jXX,if_pos CL.1];rfl),(by rw[bQQ,<-HN.1];rfl),Cl _,(fun g_ hg_=>(List.mem_append.1 hg_).elim (fun hg_=>(A4.1 g_ hg_).dig ((((D4.1.trans B1.1).trans B0.1).trans A9.1).trans A8.1)) (fun hg_=>by rw[List.mem_singleton.1 hg_];exact⟨(RY.1.dig A6.1),BY.1⟩))⟩
 rcases Cx (lo<y)with C1|C1
 ·go_upto_region 1 with fail
  apply wl;refine zd Xl (0) (rc rl) (K6.1.range GL.1 NL.1) underlying58 ?_;refine Cn H4.1 _ ?_;refine zc (Ga (L:=60000) (RV.Is.nin (RL.1.dig D4.1) (Av BL.1 ω)) (RV.Is.nin (RY.1.dig D4.1) (Av BY.1 ω)) ω) ?_;rintro e D8 ⟨rfl,hx⟩;have B7:=zH (H4.1.step hx);have A7:=zH (Ah.of_ext hx);have B3:=zH (K6.1.trans (Fr.of_ext hx));clear hx;refine zn ?_;apply zp τ (by exact Eg (e:=(An (rcmp_lt.2 C1.1))));refine Cc B7.1 τ _ ?_;refine zd Xh (0) (rc rh) (B3.1.range GH.1 NH.1) underlying58 ?_;have A2:=tD D4 A7;refine zc (Ga (L:=60000) (RV.Is.nin (RY.1.dig A2.1) (Av BY.1 ω)) (RV.Is.nin (RH.1.dig A2.1) (Av BH.1 ω)) ω) ?_;rintro e D7 ⟨rfl,hx⟩;have D2:=zH (B7.1.step hx);have C2:=zH (Ah.of_ext hx);have C7:=zH (B3.1.trans (Fr.of_ext hx));clear hx;refine zn ?_;apply zp φ (by exact Eg (e:=(Al (fun hh=>(fun h_=>CL.1 ⟨C1.1,h_⟩) (rcmp_lt.1 hh)))));apply zq φ;go_wp2_with fail
  first|refine bodyPost_end (v:= .tuple #[]) (results_none rfl _ _ _) rfl ?_|refine bodyPost_ret (v:= .tuple #[]) (results_none rfl _ _ _) rfl ?_
  exact⟨rfl,A,c,n,es,D2.1.take 2,((D4.1.trans A7.1).trans C2.1),C7.1,(fun k_ hk_=> .inl hk_),(by rw[if_neg CL.1,gXX]),HN.1,Nat.le_succ _,(fun g_ hg_=>(A4.1 g_ hg_).dig ((D4.1.trans A7.1).trans C2.1))⟩
 go_upto_region 1 with fail;apply wl;refine zd Xl (0) (rc rl) (K6.1.range GL.1 NL.1) underlying58 ?_;refine Cn H4.1 _ ?_;refine zc (Ga (L:=60000) (RV.Is.nin (RL.1.dig D4.1) (Av BL.1 ω)) (RV.Is.nin (RY.1.dig D4.1) (Av BY.1 ω)) ω) ?_;rintro e D6 ⟨rfl,hx⟩;have D1:=zH (H4.1.step hx);have C0:=zH (Ah.of_ext hx);have C6:=zH (K6.1.trans (Fr.of_ext hx));clear hx;refine zn ?_;apply zp φ (by exact Eg (e:=(Al (fun hh=>C1.1 (rcmp_lt.1 hh)))));refine Tx Af φ _ _ _ _ φ ?_;go_wp2_with fail
 first|refine bodyPost_end (v:= .tuple #[]) (results_none rfl _ _ _) rfl ?_|refine bodyPost_ret (v:= .tuple #[]) (results_none rfl _ _ _) rfl ?_
 exact⟨rfl,A,c,n,es,D1.1.take 2,(D4.1.trans C0.1),C6.1,(fun k_ hk_=> .inl hk_),(by rw[if_neg CL.1,gXX]),HN.1,Nat.le_succ _,(fun g_ hg_=>(A4.1 g_ hg_).dig (D4.1.trans C0.1))⟩
end
section
theorem iW {w:World}{g o:Nat}{r:Ai}{k:Nat}{p:Int×Int}(h:Wq w g o r)(hp:r[k]?=some p):w.rangeAt g (o+k*2) [iV p.1,iV p.2]:=by
  obtain⟨hk,rfl⟩:=List.getElem?_eq_some_iff.1 hp;have h2:=h k hk;intro j v hj;match j,hj with
  |0,hj=>simp at hj;subst hj;have h3:=h2.1;simpa[aXX,hk]using h3
  |1,hj=>simp at hj;subst hj;have h3:=h2.2;simpa[aXX,hk,Nat.add_assoc]using h3
  |j+2,hj=>simp at hj
theorem aCO {rs:List Ai}{r:Ai}(h:Fm rs=true)(hr:r∈rs):De r=true:=by
  unfold Fm at h;rw[hZZ]at h;exact List.all_eq_true.1 h.2 r hr
theorem lH {rs:List Ai}{r:Ai}{i k:Nat}{p:Int×Int}(h:Fm rs=true)(hr:rs[i]?=some r)(hp:r[k]?=some p):Du p:=by
  have h2:=aCO h (bZZ hr);unfold De at h2;exact List.all_eq_true.1 h2 p (bZZ hp)
theorem vG {a b:Int×Int}{rs:List Ai}{r:Ai}{i:Nat}(h:rs[i]?=some r):aBG a b (rs.take (i+1))=aBG a b (rs.take i)++r.flatMap (fun p=>gI a.2 b.2 (p.2:Rat)):=by
  unfold aBG;rw[List.take_add_one,h,List.flatMap_append];simp
theorem Hp.litRow17 {w0 w:World}{m:List Df}{i X n size:Nat}{t:TypeId}{cs:List Value}(h:Hp w0 w m)(hi:m[i]?=some (.blk X t cs))(hl:cs.length=n*size)(hn:n<=maxLen):Ba w w0.heap.size t size (.slice (π X) n n) n cs:=
  ⟨hl,.inr ⟨X,n,[],rfl,h.ge hi rfl,by rw[gXX];exact h.blk hi,Cl _,hn,by simp[hl],by rw[gXX];exact h.noU hi⟩⟩
theorem Ah.keptQ {w w':World}{r:Option Nat}(hg:w.grownBy w' r)(hr:∀k,r=some k->∃o:Obj,w.heap[k]?=some o/\o.isCells=false):Ah w w':=by
 intro v xs h;obtain⟨p,A1,rfl,hc,hd,hp⟩:=h;refine⟨p,A1,rfl,hc,hd,fun h0=> ?_⟩;obtain⟨b,o,rfl,hb⟩:=hp h0;refine⟨b,o,rfl,fun i hi=> ?_⟩;have h1:=hb i hi;have A0:¬(some b=r):=fun e=>by
  obtain⟨ob,h2,h3⟩:=hr b e.symm;cases ob with
  |cells cs t fz=>cases h3
  |_=>simp[World.cell?,h2]at h1
 rw[World.cell?_of_block (hg.block b (World.block_lt_of_cell? w ⟨b,o+i,none⟩ h1) A0)];exact h1
theorem Hp.keptQ {w0 w w':World}{m:List Df}{r:Option Nat}(h:Hp w0 w m)(hg:w.grownBy w' r)(hr:∀k,r=some k->w0.heap.size<=k/\∃o:Obj,w.heap[k]?=some o/\o.isCells=false):Hp w0 w' m:=by
 refine⟨h.ext.grown hg (fun k hk=>(hr k hk).1),fun i e he=>(h.all i e he).kept hg (fun k hk hrk=> ?_),h.apart⟩;obtain⟨o,h2,h3⟩:=(hr k hrk).2;cases e with
 |blk g t cs=>
  injection hk with hk
  subst hk;have:=h.blk he;unfold Ac at this;rw[h2]at this;injection this with this
  rw[this]at h3;cases h3
 |row t size v n xs=>
  obtain⟨h4,⟨rfl,_⟩|⟨g,A0,rest,rfl,a,hb,c⟩⟩:=h.row he
  ·simp[Df.own,Value.ownBlock]at hk
  have hk:g=k:=by simpa[Df.own,Value.ownBlock]using hk
  subst hk;unfold Ac at hb;rw[h2]at hb;injection hb with hb
  rw[hb]at h3;cases h3
theorem eY {w0 w:World}{m:List Df}{i X:Nat}{t:TypeId}{p q:Int}(h:Hp w0 w m)(hi:m[i]?=some (.blk X t [iV p,iV q]))(k:Nat)(hk:k<2):w.rangeAt X k [iV (if k=0 then p else q)]:=by
  have:k=0\/k=1:=ω;rcases this with rfl|rfl
  · exact h.range hi 0 1
  exact h.range hi 1 1
theorem Qu.yes {C:Prop}{q:Rat}{w w':World}{e:Ending}(h:Qu C q w e w')(hc:C):∃r:RV,e= .returned (.tuple #[(rg r),.bool true])/\r.Is w' q/\Aa w w':=by
  obtain⟨⟨r,_,h1,h2⟩|⟨h1,_⟩,hx⟩:=h
  · exact⟨r,h1,h2,hx⟩
  exact absurd hc h1
theorem Qu.no {C:Prop}{q:Rat}{w w':World}{e:Ending}(h:Qu C q w e w')(hc:¬C):e= .returned (.tuple #[.agg z4,.bool false])/\Aa w w':=by
  obtain⟨⟨r,h0,h1,h2⟩|⟨_,h1⟩,hx⟩:=h
  · exact absurd h0 hc
  exact⟨h1,hx⟩
theorem Oz.yes {a b c d:Int×Int}{w w':World}{e:Ending}(h:Oz a b c d w e w')(hc:Gm a b c d=1):∃r s:RV,e= .returned (.tuple #[(rg r),(rg s),iV 1])/\r.Is w' (iN a b c d)/\s.Is w' (Qx a b c d)/\Aa w w':=by
  obtain⟨⟨r,s,_,h1,h2,h3⟩|⟨h1,_⟩,hx⟩:=h
  · exact⟨r,s,h1,h2,h3,hx⟩
  exact absurd hc h1
theorem Oz.no {a b c d:Int×Int}{w w':World}{e:Ending}(h:Oz a b c d w e w')(hc:¬Gm a b c d=1):e= .returned (.tuple #[.agg z4,.agg z4,iV (Gm a b c d)])/\Aa w w':=by
  obtain⟨⟨r,s,h0,h1,h2,h3⟩|⟨_,h1⟩,hx⟩:=h
  · exact absurd h0 hc
  exact⟨h1,hx⟩
theorem rO {e:Cg}{x:Int}(h:cZ e.1 e.2 x):Lz e x=[Im e.1 e.2 x]:=if_pos h
theorem wZ {e:Cg}{x:Int}(h:¬cZ e.1 e.2 x):Lz e x=[]:=if_neg h
theorem sS {o e:Cg}(h:Gm o.1 o.2 e.1 e.2=1):Up o e=[Qx o.1 o.2 e.1 e.2]:=if_pos h
theorem xV {o e:Cg}(h:¬Gm o.1 o.2 e.1 e.2=1):Up o e=[]:=if_neg h
def nG (a b:Int×Int)(e:Cg)(k:Nat):List Rat:=(if 1<=k then(Lz e a.1).flatMap (gI a.2 b.2)else[])++(if 2<=k then(Lz e b.1).flatMap (gI a.2 b.2)else[])
theorem Xk (a b:Int×Int)(e:Cg)(k:Nat)(hk:k<2):nG a b e (k+1)=nG a b e k++(Lz e (if k=0 then a.1 else b.1)).flatMap (gI a.2 b.2):=by
  have:k=0\/k=1:=ω;rcases this with rfl|rfl<;>simp[nG]
theorem Fr.trans_fr {G G':Nat->Prop}{a b c:World}(h:Fr G a b)(k:Fr G' b c)(hG:∀j,G' j->G j\/a.heap.size<=j):Fr G a c:=
  ⟨k.os.trans h.os,k.tape.trans h.tape,k.output.trans h.output,Av h.size k.size,fun i hi hn=>(k.block i (jZZ hi h.size) (fun g=>(hG i g).elim hn (fun h2=>ω))).trans (h.block i hi hn)⟩
theorem Hp.addTyp3 {w0 w:World}{m:List Df}{X Y B:Nat}{T:TypeId}{zs us:List Value}(h:Hp w0 w m)(B1:Ac w X T zs.toArray)(B2:Ac w Y T us.toArray)(hne:X≠Y)(hB:w0.heap.size<=B)(z1:B<=X)(z2:B<=Y)(n1:Ar zs)(n2:Ar us)
  (ht:∀e,e∈m->e.typ≠T\/∀k,e.own=some k->k<B):Hp w0 w (m++[.blk X T zs]++[.blk Y T us]):=by
 have h1:Hp w0 w (m++[.blk X T zs]):=h.add ⟨Av hB z1,B1,n1⟩ (fun i f hf k hk e=>by
  injection e with e
  subst e;rcases ht f (bZZ hf)with h2|h2
  ·exact h2 (h.typ hf B1 hk)
  have:=h2 _ hk;omega)
 refine h1.add ⟨Av hB z2,B2,n2⟩ (fun i f hf k hk e=> ?_);injection e with e
 subst e;rcases List.mem_append.1 (bZZ hf)with hm|hm
 ·obtain⟨j,hj⟩:=List.mem_iff_getElem?.1 hm
  rcases ht f hm with h2|h2
  ·exact h2 (h.typ hj B2 hk)
  have:=h2 _ hk;omega
 simp at hm;subst hm;injection hk with hk
 exact hne hk
def Kx (F:Fence)(n:Nat)(P:Program)(fn:Func)(R:Ending->World->Prop):Exit->Act->World->Prop
  | .normal,a,w| .ret,a,w=>LeavesInM F n P fn a.tmps R a.defers .returning w
  |_,_,_=>False
theorem Kx.m {F:Fence}{n:Nat}{P:Program}{fn:Func}{R:Ending->World->Prop}:∀e a w,Kx F n P fn R e a w->bodyPostM F n P fn R e a w:=by
  intro e a w h;cases e<;>first|exact h|exact h.elim
end
section
attribute [local go_sem ↓] Go.wp_at_zero Go.wp_at_succ Ae Ad
structure aGT where
  a:Int×Int
  b:Int×Int
  r:Nat
  i:Nat
  n:Nat
def aGA (e:aGT)(p:Rat×Rat):Prop:=(((e.b.1-e.a.1):Int):Rat)*(p.2-(((e.a.2):Int):Rat))=(((e.b.2-e.a.2):Int):Rat)*(p.1-(((e.a.1):Int):Rat))/\(((0):Int):Rat)<=(((e.b.1-e.a.1):Int):Rat)*(p.1-(((e.a.1):Int):Rat))+(((e.b.2-e.a.2):Int):Rat)*(p.2-(((e.a.2):Int):Rat))/\(((e.b.1-e.a.1):Int):Rat)*(p.1-(((e.a.1):Int):Rat))+(((e.b.2-e.a.2):Int):Rat)*(p.2-(((e.a.2):Int):Rat))<=(((e.b.1-e.a.1):Int):Rat)*(((e.b.1-e.a.1):Int):Rat)+(((e.b.2-e.a.2):Int):Rat)*(((e.b.2-e.a.2):Int):Rat)
instance aEQ (e:aGT) (p:Rat×Rat):Decidable (aGA e p):=inferInstanceAs (Decidable (_/\_))
end
section
theorem Qo {p q:Int}(h:p≠q):(q:Rat)-(p:Rat)≠0:=by
  intro e;apply h;have:(q:Rat)=(p:Rat):=by grind
  exact_mod_cast this.symm
theorem mE {p q:Int}{r:Rat}(hpq:p≠q)(h1:((min p q:Int):Rat)<r)(h2:r<((max p q:Int):Rat)):0<=(r-(p:Rat))*((q:Rat)-(p:Rat))⁻¹/\(r-(p:Rat))*((q:Rat)-(p:Rat))⁻¹<=1:=by
 have hd:=Qo hpq;have e:=Rat.mul_inv_cancel _ hd;by_cases c:p<q
 ·rw[Int.min_eq_left ω]at h1
  rw[Int.max_eq_right ω]at h2;have hp:(0:Rat)<(q:Rat)-(p:Rat):=by
   have:(p:Rat)<(q:Rat):=by exact_mod_cast c
   grind
  have hi:(0:Rat)<=((q:Rat)-(p:Rat))⁻¹:=Rat.le_of_lt (Rat.inv_pos.2 hp);generalize ((q:Rat)-(p:Rat))⁻¹=i at*;have k1:=Rat.mul_nonneg (show 0<=r-(p:Rat)by grind) hi;have k2:=Rat.mul_nonneg (show 0<=(q:Rat)-r by grind) hi;exact⟨k1,by grind⟩
 have c:q<p:=ω;rw[Int.min_eq_right ω]at h1;rw[Int.max_eq_left ω]at h2;have hp:(0:Rat)<(p:Rat)-(q:Rat):=by
  have:(q:Rat)<(p:Rat):=by exact_mod_cast c
  grind
 have hi:(0:Rat)<=((p:Rat)-(q:Rat))⁻¹:=Rat.le_of_lt (Rat.inv_pos.2 hp);have hn:((q:Rat)-(p:Rat))⁻¹= -((p:Rat)-(q:Rat))⁻¹:=by
  have e2:=Rat.mul_inv_cancel ((p:Rat)-(q:Rat)) (by grind);grind
 rw[hn];have e2:=Rat.mul_inv_cancel ((p:Rat)-(q:Rat)) (by grind);generalize ((p:Rat)-(q:Rat))⁻¹=i at*
 have k1:=Rat.mul_nonneg (show 0<=(p:Rat)-r by grind) hi;have k2:=Rat.mul_nonneg (show 0<=r-(q:Rat)by grind) hi;exact⟨by grind,by grind⟩
def Tg (a b:Int×Int):Rat:=((1:Int):Rat)/((b.2-a.2:Int):Rat)*((b.1-a.1:Int):Rat)
theorem rQ (a b:Int×Int)(y:Rat):Di a.1 a.2 b.1 b.2 y=Tg a b*y+((a.1:Rat)-(a.2:Rat)*Tg a b):=by
  unfold Di Tg;generalize ((1:Int):Rat)/((b.2-a.2:Int):Rat)=i;generalize ((b.1-a.1:Int):Rat)=u;grind
end
section
theorem jO {f t:Rat}{p:QQ}{m:Rat}(h1:p.1<=m)(h2:m<=p.2):Fg f t p=Fg f t (p.1,m)+Fg f t (m,p.2):=by unfold Fg;grind
theorem uN (f t:Rat)(l:List QQ)(y:QQ):Dw f t (Stb.ins aBC l y)=Dw f t l+Fg f t y:=by
  induction l with
  |nil=>rw[Stb.ins,Ce,Eo];grind
  | cons x l ih=>
    rw[Stb.ins];split
    · rw[Ce,Ce];grind
    rw[Ce,Ce,ih];grind
theorem pY (f t:Rat)(l:List QQ):Dw f t (Stb.stab aBC l)=Dw f t l:=by
  induction l using Stb.rev_rec with
  |nil=>rfl
  |snoc l y ih=>rw[Stb.stab_snoc,uN,ih,Kt,Ce,Eo];grind
theorem fB (f t:Rat)(l:List QQ):Dw f t (Ea l)=Dw f t l:=by unfold Ea;rw[pY,jN]
theorem qJ (f t:Rat)(l:List QQ):∀(out:List QQ),(∀p,p∈l->p.1<p.2)->l.Pairwise (fun a b=>a.2<=b.1)->(∀p,p∈out->p.1<p.2/\∀q,q∈l->p.2<=q.1)->
  Dw f t (l.foldl Ej out)=Dw f t out+Dw f t l:=by
 induction l with
 |nil=>intro out _ _ _;rw[List.foldl_nil,Eo];grind
 |cons s l ih=>
  intro out h1 h2 h3;obtain⟨p1,p2⟩:=List.pairwise_cons.1 h2;have hs:=h1 s (eQQ ..);have A1:Dw f t (Ej out s)=Dw f t out+Fg f t s/\∀p,p∈Ej out s->p.1<p.2/\∀q,q∈l->p.2<=q.1:=by
   have A0:∀p,p∈out->p.1<p.2/\∀q,q∈l->p.2<=q.1:=fun p hp=>⟨(h3 p hp).1,fun q hq=>(h3 p hp).2 q (cQQ _ hq)⟩
   have A2:∀p,p∈out++[s]->p.1<p.2/\∀q,q∈l->p.2<=q.1:=fun p hp=>by
    rcases List.mem_append.1 hp with hp|hp
    ·exact A0 p hp
    rw[lZZ]at hp;subst hp;exact⟨hs,p1⟩
   unfold Ej;split
   ·exact⟨by rw[Kt,Ce,Eo];grind,A2⟩
   rename_i e h0;have e0:=bM h0;split
   ·exact⟨by rw[Kt,Ce,Eo];grind,A2⟩
   rename_i h4;have k:=h3 e (by rw[e0];simp);have ke:=k.2 s (eQQ ..);have kq:e.2=s.1:=by grind
   rw[if_pos (by grind)];generalize out.dropLast=o at*;subst e0;refine⟨?_,fun p hp=> ?_⟩
   ·have sp:=jO (f:=f) (t:=t) (p:=(e.1,s.2)) (m:=s.1) (by dsimp only;grind) (by dsimp only;grind)
    have e1:Fg f t (e.1,s.1)=Fg f t e:=by rw[<-kq]
    have e2:Fg f t (s.1,s.2)=Fg f t s:=rfl;dsimp only at sp
    rw[Kt,Kt,Ce,Ce,Eo];grind
   rcases List.mem_append.1 hp with hp|hp
   ·exact A0 p (List.mem_append.2 (Or.inl hp))
   rw[lZZ]at hp;subst hp;exact⟨by dsimp only;grind,p1⟩
  obtain⟨a1,a2⟩:=A1;rw[List.foldl_cons,ih (Ej out s) (fun p hp=>h1 p (cQQ _ hp)) p2 a2,a1,Ce];grind
def Qt (c d:QQ):Prop:=c.1<c.2->d.1<d.2->c.2<=d.1\/d.2<=c.1
theorem Qt.symm {c d:QQ}(h:Qt c d):Qt d c:=fun h1 h2=>(h h2 h1).symm
theorem jI (f t:Rat){l:List QQ}(h:l.Pairwise Qt):Dw f t (Ff l)=Dw f t l:=by
 have hs:Stb.Srt aBC (Ea l):=Stb.stab_srt (aFM fun p:QQ=>p.1) _;have hm:∀p,p∈Ea l↔p∈Hn l:=fun p=>Stb.mem_stab
 have hp:(Ea l).Pairwise Qt:=nP (fun _ _=>Qt.symm) _ (List.Pairwise.filter _ h);have A0:∀p,p∈Ea l->p.1<p.2:=fun p hp=>(Ri.1 ((hm p).1 hp)).2
 have hb:(Ea l).Pairwise fun a b=>a.2<=b.1:=List.Pairwise.imp_of_mem (fun {a b} ha hb2 hab=>by
  obtain⟨h1,h2⟩:=hab;unfold aBC at h1;rw[decide_eq_false_iff_not]at h1;have e1:=A0 a ha;have e2:=A0 b hb2;rcases h2 e1 e2 with h3|h3
  ·exact h3
  grind) (List.Pairwise.and hs hp)
 unfold Ff;rw[qJ f t (Ea l) [] A0 hb (by simp),Eo,fB];grind
end
section
attribute [local go_sem ↓] Go.wp_at_zero Go.wp_at_succ
def Jm (n rule:Int):Bool:=(decide (rule=1)&&decide (n≠0))||(decide (rule=2)&&decide (n%2≠0))
end
section
def Gy:Int->List QI->List (QQ×Int)
  |s,a::b::t=>((a.1,b.1),s+a.2)::Gy (s+a.2) (b::t)
  |_,[_]=>[]
  |_,[]=>[]
def Xx (rule:Int)(l:List (QQ×Int)):List QQ:=(l.filter fun r=>Jm r.2 rule).map fun r=>r.1
def La (rule:Int)(ms:List QI):List QQ:=Ff (Xx rule (Gy 0 ms))
theorem xU (rule:Int)(l m:List (QQ×Int)):Xx rule (l++m)=Xx rule l++Xx rule m:=by unfold Xx;simp
theorem xS (rule:Int)(r:QQ×Int):Xx rule [r]=if Jm r.2 rule=true then[r.1]else[]:=by
  unfold Xx;by_cases h:Jm r.2 rule=true<;>simp[h]
end
section
attribute [local go_sem ↓] Go.wp_at_zero Go.wp_at_succ Ae Ad
end
section
theorem jE {P Q:Rat->Prop}{out:List QQ}{s:QQ}(h:∀p,p∈out->P p.1/\Q p.2)(hs:P s.1/\Q s.2):∀p,p∈Ej out s->P p.1/\Q p.2:=by
 have A0:∀p,p∈out++[s]->P p.1/\Q p.2:=fun p hp=>by
  rcases List.mem_append.1 hp with hp|hp
  ·exact h p hp
  rw[lZZ]at hp;subst hp;exact hs
 intro p hp;unfold Ej at hp;split at hp
 ·exact A0 p hp
 rename_i l h0;have e0:=bM h0;split at hp
 ·exact A0 p hp
 split at hp
 ·generalize out.dropLast=o at*
  subst e0;rcases List.mem_append.1 hp with hp|hp
  ·exact h p (List.mem_append.2 (Or.inl hp))
  rw[lZZ]at hp;subst hp;exact⟨(h l (by simp)).1,hs.2⟩
 exact h p hp
theorem qK {P Q:Rat->Prop}(l:List QQ):∀(out:List QQ),(∀p,p∈out->P p.1/\Q p.2)->(∀p,p∈l->P p.1/\Q p.2)->∀p,p∈l.foldl Ej out->P p.1/\Q p.2:=by
  induction l with
  |nil=>intro out h _;exact h
  |cons s l ih=>intro out h k;rw[List.foldl_cons];exact ih _ (jE h (k s (eQQ ..))) fun p hp=>k p (cQQ _ hp)
theorem eW {P Q:Rat->Prop}{l:List QQ}(h:∀p,p∈l->P p.1/\Q p.2):∀p,p∈Ff l->P p.1/\Q p.2:=by
  unfold Ff;refine qK _ [] (by simp) fun p hp=>h p ?_
  unfold Ea at hp;exact(Ri.1 (Stb.mem_stab.1 hp)).1
end
section
attribute [local go_sem ↓] Go.wp_at_zero Go.wp_at_succ Ae Ad
theorem bI (L:Nat)(hL:L<=60000)(w:World)(e f:Gk)(he:e.Ok L w)(hf:f.Ok L w):
  Calls prog 165 #[.agg e.cells.toArray,.agg f.cells.toArray] w fun x w'=>∃z:Int,x= .returned (iV z)/\(z<0↔pT e f=true)/\Aa w w':=by
 have RA:=zH he.1;have RB:=zH hf.1;have BA:=zH he.2.1;have BB:=zH hf.2.1;clear he hf;unfold Gk.cells;go_enter func165,ntmps165
 have H0:=zH (Hp.start w);go_upto_region 0 with fail;apply wl;apply Cm 154 [.bool e.a.n,.slice e.a.p e.a.l e.a.c,.bool e.a.m,.slice e.a.p2 e.a.l2 e.a.c2,iV e.up] H0.1;intro X1 w2 H3 _;apply Cm 154 [.bool f.a.n,.slice f.a.p f.a.l f.a.c,.bool f.a.m,.slice f.a.p2 f.a.l2 f.a.c2,iV f.up] H3.1;intro X6 w7 H8 _;apply zq (iV 0);go_upto_region 1 with fail;refine zy ?_;have A1:=zH (H8.1.step (Aa.refl w7).drew);refine Mz Af zb (bs 13 1) 0 _ ?_;refine zg 1 (bs 13 3) X1 (0) (rc e.a) (H8.1.range (i:=0) rR 0 4) underlying58 zb ?_;refine Mz Af zb (bs 13 7) 2 _ ?_;refine zg 3 (bs 13 15) X6 (0) (rc f.a) (H8.1.range (i:=1) rR 0 4) underlying58 zb ?_;refine aEA H8.1 zb (bs 13 495) 5 6 7 8 _ _ _ _ ?_;refine mC 4 (bs 13 511) (Ga (L:=60000) (RV.Is.nin (RA.1.dig A1.1.dig0) (Av BA.1 ω)) (RV.Is.nin (RB.1.dig A1.1.dig0) (Av BB.1 ω)) ω) ?_;rintro e B4 ⟨rfl,hx⟩;have B0:=zH (A1.1.step hx);have A5:=zH (zb.trans hx);clear hx;apply zm A5.1;refine mC 9 (bs 13 1023) (gC f.up e.up _) ?_;rintro e B3 ⟨rfl,hx⟩;have A9:=zH (B0.1.step hx);have A4:=zH (A5.1.trans hx);clear hx;apply zm A4.1;refine Rj (T:=3) (zs:=[iV (Dh e.q f.q),iV (Ov f.up e.up)]) (n:=2) (i:=10) (listed':=(bs 13 2047)) rR kR rR (by go_simp) kR A9.1 (by simp[Ar]) ?_;intro A7 B2 hh hx A6;have A0:=hN hh;have A3:=zH (A4.1.trans hx);clear hh hx A6;refine⟨A3.1,?_⟩;try simp only[ζ]
 refine mC 11 (bs 13 4095) (aCJ A7 0 2 (Dh e.q f.q) (Ov f.up e.up) _ (A0.1.cell (i:=2) rR 0 rR) (A0.1.cell (i:=2) rR 1 rR)) ?_;rintro e B1 ⟨rfl,hx⟩;have A8:=zH (A0.1.step hx);have A2:=zH (A3.1.trans hx);clear hx;apply zm A2.1;refine zx 12 (bs 13 8191) (iV (aCK (Dh e.q f.q) (Ov f.up e.up))) A2.1 ?_;refine wpAnyH_done kR ?_ _;go_wp2_with fail
 go_ret;exact⟨_,rfl,by show _↔Qq e.q e.up f.q f.up=true;rw[<-aCI,decide_eq_true_iff],A8.1.ext⟩
end
section
open Go.RowKit Go.Shelf
attribute [local go_sem] Oper.semAt_some
attribute [local go_sem ↓] Go.wp_at_zero Go.wp_at_succ Ee Ed Ae Ad
def aGQ (L X3 Bo:Nat)(ry:RV)(y:Rat)(w W1:World)(pre:List Wr)(W:World):Prop:=
  ∃(A:Option Addr) (n c:Nat) (es:List Gk),Hp w W [.blk X3 58 (rc ry),.blk Bo 151 [.slice A n c],.row 154 5 (.slice A n c) n (List.flatMap Gk.cells es)]/\Ah W1 W/\(∀k,Value.ownBlock (.slice A n c)=some k->W1.heap.size<=k)/\(∀e,e∈es->e.Ok (L+8) W)/\es.map Gk.vl=(pre.map Subtype.val).filterMap (Do y)/\n=es.length/\n<=pre.length/\W1.heap.size<=W.heap.size
def aGR (u:Value)(X3 Bo Bx:Nat)(ry:RV)(W1:World)(x:Wr)(a':Act)(W:World):Prop:=
  ∃ Xa Xb,Ac W Xa 44 ([iV x.1.1.1,iV x.1.1.2]:List Value).toArray/\Ac W Xb 44 ([iV x.1.2.1,iV x.1.2.2]:List Value).toArray/\Xa≠Xb/\W1.heap.size<=Xa/\W1.heap.size<=Xb/\
    a'={tmps:=#[u,(rg ry),undef,.pointer (π X3),.slice none 0 0,.pointer (π Bo),.pointer (π Xa),.pointer (π Xb),undef,undef,undef,undef,u,.func (.func 110) #[] #[.pointer (π Bx)],.agg #[iV x.1.1.1,iV x.1.1.2],.agg #[iV x.1.2.1,iV x.1.2.2],undef,undef,undef,undef,undef,undef,undef,undef,undef,undef,undef,undef,undef,undef,undef,undef,undef,undef,undef,undef,undef,undef,undef,undef,undef,undef,undef,undef,undef,undef,undef],defers:=[]}
theorem yU (L X3 Bo:Nat)(ry:RV)(y:Rat)(w W1:World)(hw:w.heap.size<=W1.heap.size):OwnFrom W1.heap.size (aGQ L X3 Bo ry y w W1):=by
  rintro s W W' row ⟨A,n,c,es,h1,h2,h3,h4,h5,h6,h7,h8⟩ hg hr;have d:Ah W W':=Ah.kept hg (fun k hk=>(hr k hk).2);exact⟨A,n,c,es,h1.kept hg (fun k hk=>⟨Av hw (hr k hk).1,(hr k hk).2⟩),h2.trans d,h3,fun e he=>(h4 e he).dig d,h5,h6,h7,Av h8 hg.size⟩
theorem yV (u:Value)(X3 Bo Bx:Nat)(ry:RV)(W1:World)(x:Wr)(a':Act):OwnFrom W1.heap.size (fun(_:Unit) W=>aGR u X3 Bo Bx ry W1 x a' W):=by
  rintro _ W W' row ⟨Xa,Xb,h1,h2,h3⟩ hg hr;exact⟨Xa,Xb,h1.kept hg (fun k hk=>(hr k hk).2),h2.kept hg (fun k hk=>(hr k hk).2),h3⟩
theorem aDA {L:Nat}{w w':World}{a:RV}{q:Rat}(h:a.In L w q)(x:Aa w w'):a.In L w' q:=h.ext x
theorem pQ (L:Nat)(u:Value)(rs:List Ai)(ry:RV)(y:Rat)(w:World)(hu:Cv w u rs)(hy:ry.In L w y)(h1L:1<=L)(hL:L<=2000)(hn:rs.length<=1048576)(hr:∀r,r∈rs->r.length<=1048576)(htot:Gx rs<20):
  Calls prog 137 #[u,(rg ry)] w fun e w'=>∃A n c es,e= .returned (.slice A n c)/\n=List.length es/\Ba w' w.heap.size 154 5 (.slice A n c) n (List.flatMap Gk.cells es)/\
   (∀e,e∈es->e.Ok (L+8) w')/\es.map Gk.vl=El y rs/\Aa w w':=by
 obtain⟨qs,D5⟩:∃qs,qs=if Fm rs=true then rs else[]:=⟨_,rfl⟩
 have I0:Fm qs=true:=by
  rw[D5];split
  ·assumption
  rfl
 have N5:qs.length<=1048576:=by
  rw[D5];split
  ·exact hn
  simp
 have P8:=zH (show Gx qs<=Gx rs by rw[D5];split;exact Cl _;exact eXX _);have Q0:=zH (show El y rs=Stb.stab pS (We y qs)by rw[D5];rfl);have L3:=(((Hp.start w).alloc 58 (rc ry) (by simp[Ar])).alloc 151 [.slice none 0 0] (by simp[Ar])).addNil 154 5;have G8:Aa w ((w.alloc (.cells #[.bool ry.n,.slice ry.p ry.l ry.c,.bool ry.m,.slice ry.p2 ry.l2 ry.c2] 58)).alloc (.cells #[.slice none 0 0] 151)):=((Aa.refl w).alloc _).alloc _;have HC:=zH (Ru u rs _ (hu.ext G8) hn hr);have HY:=zH (hy.ext G8);clear hu hy;have M8:=zH L3;clear L3;have S8:=zH G8;clear G8;refine(callsIn_wide (n:=4)).1 ?_;refine callsIn_of_wp_marks func137 rfl trivial ?_ rfl;simp only[ntmps137,List.size_toArray,hQQ,List.length_nil,Nat.reduceAdd,Nat.reduceSub,Array.replicate_succ,Array.replicate_zero,List.push_toArray,List.append_toArray,fQQ,iZZ];gi_wp2_with (refine⟨trivial,?_⟩;gi_at_call 76;refine(callsIn_wide.2 HC.1).mono ?_;rintro e W1 ⟨Bx,v,rfl,L7,S6,E5,hR,hx⟩)
 rw[<-D5]at hR;have M7:=zH (M8.1.step hx);have HR:=zH hR;have M6:=zH (aDA HY.1 hx);have N9:w.heap.size+1<Bx:=by simp at L7;omega
 obtain⟨X3,I7⟩:∃X3,X3=w.heap.size:=⟨_,rfl⟩;obtain⟨Bo,I9⟩:∃Bo,Bo=w.heap.size+1:=⟨_,rfl⟩;have H2:=zH (show Hp w W1 [.blk X3 58 (rc ry),.blk Bo 151 [.slice none 0 0],.row 154 5 (.slice none 0 0) 0 (List.flatMap Gk.cells [])]from by rw[I7,I9];have h:=M7.1;simpa using h);have O1:X3<W1.heap.size:=H2.1.lt (i:=0) (by rfl) rfl;have O2:Bo<W1.heap.size:=H2.1.lt (i:=1) (by rfl) rfl;have P7:=zH (show Ge (fun k=>¬(k=Bo\/W1.heap.size<=k)) W1 v qs from HR.1.imp (fun k h=>by have h1:=h.1;simp at h1;omega));rw[<-I9,<-I7];clear M7 HR M8 HY D5 hx hR L7;have I4:Bx≠Bo:=ω
 clear I7 I9 N9;have H1:=zH (show w.heap.size<=W1.heap.size from by have:=H2.1.ext.size;exact this);have M5:=zH (show Nm.rl y<=L from by have h:=M6.1.rl;omega);refine Oo ω (fun k=>k=Bo\/W1.heap.size<=k) Bx v qs rR E5 (fun hk=>hk.elim I4 (fun h=>ω)) P7.1 N5 I0 (Av (Fh _) (Hf I0)) (fun k h=> .inr h) (aGQ L X3 Bo ry y w W1) (yU L X3 Bo ry y w W1 H1.1) ⟨none,0,0,[],H2.1,Ah.refl _,by simp[Value.ownBlock],by simp,rfl,rfl,Cl _,Cl _⟩ (aGR u X3 Bo Bx ry W1) (yV u X3 Bo Bx ry W1) ?assign ?body ?done;case assign=>
  intro l pre x W K hi hK;obtain⟨A,n,c,es,hh,hd,A5,B3,B8,B4,C1,D4⟩:=hi;have B5:=zH D4;clear D4;have H0:=zH hh;have HK:=zH hK;have HF:=zH (And.intro A5 (And.intro B8 (And.intro B4 C1)));have B0:=zH B3;have HD:=zH hd;clear hh hK A5 B3 B8 B4 C1 hd;unfold Iq;simp only[zA,zB,zC];refine wpIn_seq ?_;refine Ab kR (fun⟨_,_,h⟩=>h) ?_;apply aA 44 [iV 0,iV 0] H0.1;intro J0 N1 Q8 hx A9;have M3:=zH (show W.heap.size<=J0 from Av (Fr.of_ext (G:=fun kz=>False) (Aa.refl W)).size A9);have R2:=zH (Ah.of_ext hx);have P4:=zH (show Fr (fun kz=>False) W N1 from(Fr.of_ext (G:=fun kz=>False) (Aa.refl W)).trans (Fr.of_ext hx));clear hx A9;apply aS 3 [iV x.1.1.1,iV x.1.1.2] Q8.1;intro S3 Q7 hd ho;have R1:=zH (hd);have M4:=zH (P4.1.trans_new ho (fun j hj=> .inr (by injection hj with hj;rw[<-hj];exact M3.1)));clear hd ho;refine Ab kR (fun⟨_,_,h⟩=>h) ?_;apply aA 44 [iV 0,iV 0] Q7.1;intro O3 S2 Q6 hx A9;have M2:=zH (Av M4.1.size A9);have R0:=zH (Ah.of_ext hx);have P3:=zH (M4.1.trans (Fr.of_ext hx));clear hx A9;apply aS 4 [iV x.1.2.1,iV x.1.2.2] Q6.1;intro S1 H3 hd ho;have Q9:=zH (hd);have J4:=zH (P3.1.trans_new ho (fun j hj=> .inr (by injection hj with hj;rw[<-hj];exact M2.1)));clear hd ho;have G3:=tD (tD (tD R2 R1) R0) Q9;refine HK.1 _ _ (KeepsFrom.of_fr J4.1 (fun _ h=>h.elim)) (J4.1.imp (fun _ h=>h.elim)) ⟨A,n,c,es,H3.1.take 3,HD.1.trans G3.1,HF.1.1,fun e he=>(B0.1 e he).dig G3.1,HF.1.2.1,HF.1.2.2.1,HF.1.2.2.2,Av B5.1 J4.1.size⟩ ⟨J0,O3,H3.1.blk (i:=3) rR,H3.1.blk (i:=4) rR,?_,Av B5.1 M3.1,Av B5.1 M2.1,rfl⟩;exact fun e=>H3.1.apart 3 4 _ _ (by rfl) (by rfl) (by decide) J0 (by rfl) (by rw[e];rfl)
 case body=>
  intro l pre x a' W hi O0 N7;obtain⟨A,n,c,es,hh,hd,A5,B3,B8,B4,C1,D4⟩:=hi;have B5:=zH D4;clear D4;obtain⟨Xa,Xb,I6,I5,L4,L6,L5,rfl⟩:=O0;obtain⟨⟨⟨ax,ay⟩,⟨bx,bY⟩⟩,C0⟩:=x;dsimp only at I6 I5⊢
  have A2:=zH C0;have HD:=zH hd;have A7:=zH A5;have B0:=zH B3;have F5:=zH B8;have D6:=zH B4;have E3:n<4096:=ω
  have K0:=zH C1;have H0:=zH (show Hp w W [.blk X3 58 (rc ry),.blk Bo 151 [.slice A n c],ro 154 5 A n c Gk.cells es,.blk Xa 44 [iV ax,iV ay],.blk Xb 44 [iV bx,iV bY]]from hh.addTyp2 I6 I5 L4 (Av H1.1 L6) (Av H1.1 L5) (by simp[Ar]) (by simp[Ar]) (by simp[Df.typ]));have G9:=zH (M6.1.dig hd);have E2: -1048576<=ay/\ay<=1048576/\ -1048576<=bY/\bY<=1048576:=by have h1:=C0.1;have h2:=C0.2;simp only[Dd,hZZ,decide_eq_true_eq]at h1 h2;omega
  have A3:=zH E2;clear hh hd A5 B3 B8 B4 I6 I5 L4 E2 C1 L6 L5;refine wpIn_block ?_;refine wpIn_seq ?_;refine Eh (S:=fun x=>Aa W x) kR kR (fun⟨_,_,h⟩=>h) zb (fun _=> ?_);have Q5:=zH (H0.1.step (Aa.refl W).drew);have B2:=zH (Ah.of_ext (w:=W) zb);have P2:=zH (show Fr (fun kz=>kz=Bo\/Value.ownBlock (.slice A n c)=some kz) W W.drew from(Fr.of_ext (G:=fun kz=>kz=Bo\/Value.ownBlock (.slice A n c)=some kz) (Aa.refl W)).trans (Fr.of_ext (Aa.refl W).drew));refine Mz Af zb (bs 12 1) 0 _ ?_;refine Ec (g:=Xa) (o:=1) (v:= iV ay) (i:=1) (listed':=(bs 12 3)) rR kR kR kR (by intro _ _ _ h;exact h) rR (fun x hx=>Aa.get hx (show World.cell? W ⟨Xa,1,none⟩=some (iV ay)from Aj (H0.1.range (i:=3) rR 1 1))) (by intro x hq;go_simp<;>with_reducible rfl) zb kR ?_;refine cR H0.1 zb (bs 12 43) 3 5 _ _ ?_;refine Ec (g:=Xb) (o:=1) (v:= iV bY) (i:=6) (listed':=(bs 12 107)) rR kR kR kR (by intro _ _ _ h;exact h) rR (fun x hx=>Aa.get hx (show World.cell? W ⟨Xb,1,none⟩=some (iV bY)from Aj (H0.1.range (i:=4) rR 1 1))) (by intro x hq;go_simp<;>with_reducible rfl) zb kR ?_;refine Mz H0.1 zb (bs 12 363) 8 _ ?_;refine mC 2 (bs 12 367) (Cz ay _ (by have A4:=A3.1;omega) (by have A4:=A3.1;omega)) ?_;rintro e N0 ⟨c_,rfl,C2,hx⟩;have Q4:=zH (Q5.1.step hx);have B1:=zH (show Ah W.drew N0 from Ah.of_ext hx);have P1:=zH (P2.1.trans (Fr.of_ext hx));have M1:=zH (zb.trans hx);obtain⟨S5,rfl,A8⟩:=C2;have O8:=zH A8;have R6:=zH (Bu ay (by have A4:=A3.1;omega) (by have A4:=A3.1;omega));clear A8 hx;apply zm M1.1;have L0:=tD B2 B1;refine mC 4 (bs 12 383) (Ga (L:=60000) (RV.Is.nin O8.1 (Av R6.1 ω)) (RV.In.nin (RV.In.mono (G9.1.dig L0.1) ω)) ω) ?_;rintro e S0 ⟨rfl,hx⟩;have Q3:=zH (Q4.1.step hx);have B7:=zH (Ah.of_ext hx);have P0:=zH (P1.1.trans (Fr.of_ext hx));have M0:=zH (M1.1.trans hx);clear hx;apply zm M0.1;refine mC 7 (bs 12 511) (Cz bY _ (by have A4:=A3.1;omega) (by have A4:=A3.1;omega)) ?_;rintro e R9 ⟨c_,rfl,C2,hx⟩;have Q2:=zH (Q3.1.step hx);have B6:=zH (Ah.of_ext hx);have O9:=zH (P0.1.trans (Fr.of_ext hx));have L9:=zH (M0.1.trans hx);obtain⟨S4,rfl,A8⟩:=C2;have O7:=zH A8;have R5:=zH (Bu bY (by have A4:=A3.1;omega) (by have A4:=A3.1;omega));clear A8 hx;apply zm L9.1;have K9:=tD (tD (tD B2 B1) B7) B6;refine mC 9 (bs 12 1023) (Ga (L:=60000) (RV.Is.nin O7.1 (Av R5.1 ω)) (RV.In.nin (RV.In.mono (G9.1.dig K9.1) ω)) ω) ?_;rintro e R8 ⟨rfl,hx⟩;have F8:=zH (Q2.1.step hx);have B9:=zH (Ah.of_ext hx);have F0:=zH (O9.1.trans (Fr.of_ext hx));have L8:=zH (L9.1.trans hx);clear hx;apply zm L8.1;refine cR Af L8.1 (bs 12 4095) 10 11 (iV (Dh (((ay):Int):Rat) y)) (iV (Dh (((bY):Int):Rat) y)) ?_;refine wpAnyH_done kR ?_ _;rcases Cx ((((ay):Int):Rat)<y/\y<(((bY):Int):Rat))with CU|CU
  ·have F7:=zH (vU (a:=(ax,ay)) (b:=(bx,bY)) CU.1)
   have A6:=zH (kS (a:=ay) (b:=bY) (.inl CU.1));have E0:Dh (((ay):Int):Rat) y= -1:=Tj CU.1.1;have D9:Dh (((bY):Int):Rat) y=1:=Ti CU.1.2;rw[E0,D9];clear E0 D9;change Code.wpIn _ _ _ _ _ _ _;refine wpIn_seq ?_;refine wpIn_seq ?_;refine Ab kR (fun⟨_,_,h⟩=>h) ?_;refine Cc Af (iV (-1)) _ ?_;apply zp (iV (-1)) (by exact gZ (by have A4:=A3.1;omega));apply zp φ (by exact Od (e:=(Al (by have A4:=A3.1;omega))));change Code.wpIn _ _ _ _ _ _ _;refine wpIn_cond_false rR ?_;refine wpIn_skip ?_;change Code.wpIn _ _ _ _ _ _ _;refine wpIn_seq ?_;refine Ab kR (fun⟨_,_,h⟩=>h) ?_;refine Dt F8.1 _ _ _ ?_;have K8:=tD (tD (tD (tD B2 B1) B7) B6) B9;refine zc (Tc L ax ay bx bY _ y _ (RV.In.nin (G9.1.dig K8.1)) h1L ω A2.1.1 A2.1.2 A6.1.1 A6.1.2.1 A6.1.2.2) ?_;rintro e R7 ⟨c_,rfl,C2,hx⟩;have Q1:=zH (F8.1.step hx);have M9:=zH (Ah.of_ext hx);have F4:=zH (F0.1.trans (Fr.of_ext hx));obtain⟨A1,rfl,A8⟩:=C2;have O6:=zH A8;have R3:=zH (Md A2.1.1 A2.1.2 M5.1);clear A8 hx;refine zn ?_;refine Dt Af _ _ τ ?_;refine aA 58 rz Q1.1 ?_;intro O5 N4 K7 hx A9;have J3:=zH (Av F4.1.size A9);have D3:=zH (Ah.of_ext hx);have J8:=zH (F4.1.trans (Fr.of_ext hx));clear hx A9;apply aS 5 (rc A1) K7.1;intro D8 G0 hd ho;have D2:=zH (hd);have F3:=zH (J8.1.trans_new ho (fun j hj=> .inr (by injection hj with hj;rw[<-hj];exact J3.1)));clear hd ho;apply zq τ;change Code.wpIn _ _ _ _ _ _ _;refine wpIn_seq ?_;refine Ab kR (fun⟨_,_,h⟩=>h) ?_;apply zq τ;change Code.wpIn _ _ _ _ _ _ _;refine wpIn_cond_true rR ?_;have F6:=zH E3;refine Ab kR (fun⟨_,_,h⟩=>h) ?_;refine Fk G0.1 _ _ _ _ ?_;refine zp (w':=(D8.alloc (.cells ([.bool A1.n,.slice A1.p A1.l A1.c,.bool A1.m,.slice A1.p2 A1.l2 A1.c2,iV 1]:List Value).toArray 154))) (.slice (π D8.heap.size) 1 1) (by go_simp) ?_;refine Mm rR _ _ _ rR vH rR G0.1 (ix:=2) rR 1 1 [.bool A1.n,.slice A1.p A1.l A1.c,.bool A1.m,.slice A1.p2 A1.l2 A1.c2,iV 1] rR rfl (by simp[Value.oneCell']) (by simp[Ar]) dC (by unfold maxLen;exact(by have A4:=A3.1;have H8:=F6.1;omega)) (by have A4:=A3.1;have H8:=F6.1;omega) ?_;intro E7 E9 H7 hf hh hd hg;have G2:=zH hf;clear hf;rw[show List.flatMap Gk.cells es++[.bool A1.n,.slice A1.p A1.l A1.c,.bool A1.m,.slice A1.p2 A1.l2 A1.c2,iV 1]=_ from Fs Gk.cells _ (⟨A1,(Di ax ay bx bY y),1⟩:Gk)]at hh;have K6:=hN hh;have D1:=zH (hd);have J7:=zH (show Fr (fun kz=>kz=Bo\/Value.ownBlock (.slice A n c)=some kz) W H7 from(F3.1.trans (Fr.of_ext (Aq.alloc _))).trans_new hg (fun j hj=> .inl (.inr hj)));clear hh hd hg;try simp only[ζ]
   apply aU 1 (.slice (π E7) (n+1) E9) K6.1;intro H6 K5 hd ho;have D0:=zH (hd);have C4:=zH (J7.1.trans_new ho (fun j hj=> .inl (.inl (by injection hj with hj;exact hj.symm))));clear hd ho;have G6:=tD (tD (tD D3 D2) D1) D0;have C5:=zH (show Gk.Ok (L+8) H6 (⟨A1,(Di ax ay bx bY y),1⟩:Gk)from⟨(O6.1.dig G6.1),R3.1,(show(-1:Int)<=1 by decide),(show(1:Int)<=1 by decide)⟩);exact⟨(KeepsFrom.of_fr C4.1 (fun k hk o ho=>hk.elim (fun e=>H0.1.cells (i:=1) (by rfl) (by rw[e];rfl) o ho) (fun e=>H0.1.cells (i:=2) (by rfl) (by exact e) o ho))),(C4.1.imp (fun k hk=>hk.imp id (fun e=>A7.1 k e))),_,_,_,_,K5.1.take 3,HD.1.trans (((((((((B2.1.trans B1.1).trans B7.1).trans B6.1).trans B9.1).trans M9.1).trans D3.1).trans D2.1).trans D1.1).trans D0.1),(fun k hk=>by (have I1:E7=k:=by simpa[Value.ownBlock]using hk);(subst I1);exact G2.1.elim (fun q=>A7.1 _ q) (fun q=>Av B5.1 (Av F3.1.size q))),(fun e he=>(List.mem_append.1 he).elim (fun he=>(B0.1 e he).dig (((((((((B2.1.trans B1.1).trans B7.1).trans B6.1).trans B9.1).trans M9.1).trans D3.1).trans D2.1).trans D1.1).trans D0.1)) (fun he=>by rw[List.mem_singleton.1 he];exact C5.1)),(by rw[jXX,F5.1,jXX,List.filterMap_append];simp[F7.1,Gk.vl]),(by rw[bQQ,<-D6.1];rfl),(by have h:=K0.1;simp;omega),Av B5.1 C4.1.size⟩
  rcases Cx ((((bY):Int):Rat)<y/\y<(((ay):Int):Rat))with CD|CD
  ·have F7:=zH (kF (a:=(ax,ay)) (b:=(bx,bY)) CD.1)
   have A6:=zH (kS (a:=ay) (b:=bY) (.inr CD.1));have E0:Dh (((ay):Int):Rat) y=1:=Ti CD.1.2;have D9:Dh (((bY):Int):Rat) y= -1:=Tj CD.1.1;rw[E0,D9];clear E0 D9;change Code.wpIn _ _ _ _ _ _ _;refine wpIn_seq ?_;refine wpIn_seq ?_;refine Ab kR (fun⟨_,_,h⟩=>h) ?_;refine Cc Af _ (iV (-1)) ?_;apply zp (iV (-1)) (by exact gZ (by have A4:=A3.1;omega));apply zp φ (by exact Od (e:=(Al (by have A4:=A3.1;omega))));change Code.wpIn _ _ _ _ _ _ _;refine wpIn_cond_false rR ?_;refine wpIn_skip ?_;change Code.wpIn _ _ _ _ _ _ _;refine wpIn_seq ?_;refine Ab kR (fun⟨_,_,h⟩=>h) ?_;refine Dt F8.1 _ _ _ ?_;have G5:=tD (tD (tD (tD B2 B1) B7) B6) B9;refine zc (Tc L ax ay bx bY _ y _ (RV.In.nin (G9.1.dig G5.1)) h1L ω A2.1.1 A2.1.2 A6.1.1 A6.1.2.1 A6.1.2.2) ?_;rintro e N3 ⟨c_,rfl,C2,hx⟩;have K4:=zH (F8.1.step hx);have G7:=zH (Ah.of_ext hx);have F2:=zH (F0.1.trans (Fr.of_ext hx));obtain⟨A0,rfl,A8⟩:=C2;have J1:=zH A8;have L1:=zH (Md A2.1.1 A2.1.2 M5.1);clear A8 hx;refine zn ?_;refine Dt Af _ _ τ ?_;refine aA 58 rz K4.1 ?_;intro O4 N2 K3 hx A9;have J2:=zH (Av F2.1.size A9);have C9:=zH (Ah.of_ext hx);have J6:=zH (F2.1.trans (Fr.of_ext hx));clear hx A9;apply aS 5 (rc A0) K3.1;intro D7 F9 hd ho;have C8:=zH (hd);have F1:=zH (J6.1.trans_new ho (fun j hj=> .inr (by injection hj with hj;rw[<-hj];exact J2.1)));clear hd ho;apply zq τ;change Code.wpIn _ _ _ _ _ _ _;refine wpIn_seq ?_;refine Ab kR (fun⟨_,_,h⟩=>h) ?_;apply zq τ;change Code.wpIn _ _ _ _ _ _ _;refine wpIn_cond_true rR ?_;have F6:=zH E3;refine Ab kR (fun⟨_,_,h⟩=>h) ?_;refine Fk F9.1 _ _ (iV (-1)) _ ?_;refine zp (w':=(D7.alloc (.cells ([.bool A0.n,.slice A0.p A0.l A0.c,.bool A0.m,.slice A0.p2 A0.l2 A0.c2,iV (-1)]:List Value).toArray 154))) (.slice (π D7.heap.size) 1 1) (by go_simp) ?_;refine Mm rR _ _ _ rR vH rR F9.1 (ix:=2) rR 1 1 [.bool A0.n,.slice A0.p A0.l A0.c,.bool A0.m,.slice A0.p2 A0.l2 A0.c2,iV (-1)] rR rfl (by simp[Value.oneCell']) (by simp[Ar]) dC (by unfold maxLen;exact(by have A4:=A3.1;have H8:=F6.1;omega)) (by have A4:=A3.1;have H8:=F6.1;omega) ?_;intro E6 E8 H5 hf hh hd hg;have G1:=zH hf;clear hf;rw[show List.flatMap Gk.cells es++[.bool A0.n,.slice A0.p A0.l A0.c,.bool A0.m,.slice A0.p2 A0.l2 A0.c2,iV (-1)]=_ from Fs Gk.cells _ (⟨A0,(Di ax ay bx bY y),-1⟩:Gk)]at hh;have K2:=hN hh;have C7:=zH (hd);have J5:=zH (show Fr (fun kz=>kz=Bo\/Value.ownBlock (.slice A n c)=some kz) W H5 from(F1.1.trans (Fr.of_ext (Aq.alloc _))).trans_new hg (fun j hj=> .inl (.inr hj)));clear hh hd hg;try simp only[ζ]
   apply aU 1 (.slice (π E6) (n+1) E8) K2.1;intro H4 K1 hd ho;have C6:=zH (hd);have C3:=zH (J5.1.trans_new ho (fun j hj=> .inl (.inl (by injection hj with hj;exact hj.symm))));clear hd ho;have G4:=tD (tD (tD C9 C8) C7) C6;have C5:=zH (show Gk.Ok (L+8) H4 (⟨A0,(Di ax ay bx bY y),-1⟩:Gk)from⟨(J1.1.dig G4.1),L1.1,(show(-1:Int)<= -1 by decide),(show(-1:Int)<=1 by decide)⟩);exact⟨(KeepsFrom.of_fr C3.1 (fun k hk o ho=>hk.elim (fun e=>H0.1.cells (i:=1) (by rfl) (by rw[e];rfl) o ho) (fun e=>H0.1.cells (i:=2) (by rfl) (by exact e) o ho))),(C3.1.imp (fun k hk=>hk.imp id (fun e=>A7.1 k e))),_,_,_,_,K1.1.take 3,HD.1.trans (((((((((B2.1.trans B1.1).trans B7.1).trans B6.1).trans B9.1).trans G7.1).trans C9.1).trans C8.1).trans C7.1).trans C6.1),(fun k hk=>by (have I1:E6=k:=by simpa[Value.ownBlock]using hk);(subst I1);exact G1.1.elim (fun q=>A7.1 _ q) (fun q=>Av B5.1 (Av F1.1.size q))),(fun e he=>(List.mem_append.1 he).elim (fun he=>(B0.1 e he).dig (((((((((B2.1.trans B1.1).trans B7.1).trans B6.1).trans B9.1).trans G7.1).trans C9.1).trans C8.1).trans C7.1).trans C6.1)) (fun he=>by rw[List.mem_singleton.1 he];exact C5.1)),(by rw[jXX,F5.1,jXX,List.filterMap_append];simp[F7.1,Gk.vl]),(by rw[bQQ,<-D6.1];rfl),(by have h:=K0.1;simp;omega),Av B5.1 C3.1.size⟩
  have F7:=zH (vV (a:=(ax,ay)) (b:=(bx,bY)) CU.1 CD.1);have J9:=zH (kE CU.1 CD.1);change Code.wpIn _ _ _ _ _ _ _;refine wpIn_seq ?_;refine wpIn_seq ?_;refine Ab kR (fun⟨_,_,h⟩=>h) ?_;refine Cc Af (iV (Dh (((ay):Int):Rat) y)) (iV (Dh (((bY):Int):Rat) y)) ?_;apply zp (iV (Dh (((ay):Int):Rat) y*Dh (((bY):Int):Rat) y)) (by exact vE rR rR rR rfl (by have:=J9.1.1;omega) (by have:=J9.1.2;omega));apply zp τ (by exact Od (e:=(An J9.1.1)));change Code.wpIn _ _ _ _ _ _ _;refine wpIn_cond_true rR ?_;refine wpIn_exit ?_;exact⟨(KeepsFrom.of_fr F0.1 (fun k hk o ho=>hk.elim (fun e=>H0.1.cells (i:=1) (by rfl) (by rw[e];rfl) o ho) (fun e=>H0.1.cells (i:=2) (by rfl) (by exact e) o ho))),(F0.1.imp (fun k hk=>hk.imp id (fun e=>A7.1 k e))),A,n,c,es,F8.1.take 3,HD.1.trans ((((B2.1.trans B1.1).trans B7.1).trans B6.1).trans B9.1),A7.1,(fun e he=>(B0.1 e he).dig ((((B2.1.trans B1.1).trans B7.1).trans B6.1).trans B9.1)),(by rw[F5.1,jXX,List.filterMap_append];simp[F7.1]),D6.1,(by have h:=K0.1;simp;omega),Av B5.1 F0.1.size⟩
 rintro D xs W hD H9 ⟨A,n,c,es,hh,hd,A5,B3,B8,B4,C1,D4⟩ hK;have cB:W.cell? ⟨Bo,0,none⟩=some (.slice A n c):=hh.cell (i:=1) (by rfl) 0 (by rfl);have E1:=hh.row (i:=2) (by rfl);have N6:es.length<20:=by
  have h4:=P8.1;have h1:xs.length=(Bk qs).length:=by rw[<-H9,fXX]
  have h2:=Fh qs;have h3:=Hf I0;omega
 have P6:=zH (iH (L+8) (.slice A n c) es w.heap.size W (by rw[<-B4];exact E1) B3 (fun w e f he hf=>bI (L+8) ω w e f he hf) N6);have HH:=zH hh;have F5:=zH B8;have D6:=zH B4;have P9:=zH B3;have P5:=zH H9;have HD:=zH hK;clear E1 hh B8 B4 B3 H9 hK A5 C1 hd;gi_wp2
 refine⟨trivial,?_⟩;gi_at_call 164
 refine(callsIn_wide.2 P6.1).mono ?_;rintro e Ws ⟨rfl,L2,I3⟩;have HS:=zH (HH.1.turn (i:=2) (e:= .row 154 5 (.slice A n c) n (List.flatMap Gk.cells es)) (e':= .row 154 5 (.slice A n c) n (List.flatMap Gk.cells (Stb.stab pT es))) (by rfl) (fun k h=>h) I3 (by rw[<-D6.1]at L2;exact L2) (fun k hk=> .inl hk));have S7:Ws.cell? ⟨Bo,0,none⟩=some (.slice A n c):=HS.1.cell (i:=1) (by rfl) 0 (by rfl);gi_wp2
 have I8:Ws.heap[D]?=some (.deferred (some [])):=(I3.block D (Array.getElem?_eq_some_iff.1 HD.1).1 (fun e=>by
  have h1:=HH.1.cells (i:=2) (by rfl) (by exact e.symm) _ HD.1;cases h1)).trans HD.1
 refine⟨by simp,.inl ⟨_,_,rfl,run_takeDeferred I8,?_⟩⟩;have E4:=HS.1.kept (grownBy_putObj' Ws D (.deferred none)) (fun k hk=>by injection hk with hk;subst hk;exact⟨Av H1.1 hD,_,I8,rfl⟩);have N8:Ah W _:=((HH.1.growDig (i:=2) (by rfl) I3).trans (Ah.kept (grownBy_putObj' Ws D (.deferred none)) (fun k hk=>by injection hk with hk;subst hk;exact⟨_,I8,rfl⟩)));refine⟨_,results_tmp rfl _ _ _,A,n,c,Stb.stab pT es,rfl,by rw[Stb.stab_len];exact D6.1,E4.row (i:=2) rR,fun e he=>(P9.1 e ((Stb.mem_stab).1 he)).dig N8,?_,E4.ext⟩;rw[Q0.1,Pc Gk.vl (lt:=pT) (lt':=pS) (fun _ _=>rfl),F5.1,P5.1];rfl
end
section
attribute [local go_sem ↓] Go.wp_at_zero Go.wp_at_succ Ae Ad
theorem jM (y:Rat)(rs:List Ai):(El y rs).length<=Gx rs:=by
  unfold El;rw[Stb.stab_len];unfold We;refine Av (List.length_filterMap_le _ _) (Av (Fh _) ?_);split
  · exact Cl _
  exact eXX _
theorem Xn {α:Type}{l:List α}{k:Nat}{e:α}(h:l[k]?=some e):l.take (k+1)=l.take k++[e]:=by rw[List.take_add_one,h];rfl
end
section
def Uz (ms:List QI)(k:Nat):Int:=((ms.take k).map fun a=>a.2).sum
theorem oT {ms:List QI}{k:Nat}{a:QI}(h:ms[k]?=some a):Uz ms (k+1)=Uz ms k+a.2:=by
  unfold Uz;rw[Xn h,jXX,List.sum_append];simp
theorem dR:∀(ms:List QI) (s:Int) (k:Nat) (a b:QI),ms[k]?=some a->ms[k+1]?=some b->(Gy s ms)[k]?=some ((a.1,b.1),s+Uz ms (k+1))
 | [],s,k,a,b,h,_=>by simp at h
 | [x],s,0,a,b,_,h=>by simp at h
 | [x],s,k+1,a,b,h,_=>by simp at h
 |x::y::t,s,0,a,b,h1,h2=>by
  simp at h1 h2;subst h1 h2;simp[Gy,Uz]
 |x::y::t,s,k+1,a,b,h1,h2=>by
  have ih:=dR (y::t) (s+x.2) k a b (by simpa using h1) (by simpa using h2);show(Gy (s+x.2) (y::t))[k]?=_;rw[ih];have e:Uz (x::y::t) (k+1+1)=x.2+Uz (y::t) (k+1):=by unfold Uz;rw[List.take_succ_cons];simp
  rw[e];congr 2;omega
theorem Mc:∀(ms:List QI) (s:Int),(Gy s ms).length=ms.length-1
  | [],s=>rfl
  | [x],s=>rfl
  | x::y::t,s=>by
    have:=Mc (y::t) (s+x.2);simp[Gy,this]
theorem dO {rule:Int}{l:List (QQ×Int)}{k:Nat}{r:QQ×Int}(h:l[k]?=some r):Xx rule (l.take (k+1))=Xx rule (l.take k)++(if Jm r.2 rule=true then[r.1]else[]):=by rw[Xn h,xU,xS]
theorem xT (rule:Int)(l:List (QQ×Int)):(Xx rule l).length<=l.length:=by
  unfold Xx;rw[fXX];exact List.length_filter_le _ _
theorem Dk.Ok.dig {L:Nat}{w w':World}{e:Dk}(h:e.Ok L w)(d:Ah w w'):e.Ok L w':=⟨h.1.dig d,h.2.1.dig d,h.2.2⟩
theorem Ba.base {w:World}{b b':Nat}{t:TypeId}{size:Nat}{v:Value}{n:Nat}{xs:List Value}(h:Ba w b t size v n xs)(hb:b'<=b):Ba w b' t size v n xs:=by
  obtain⟨h1,h2|⟨g,A0,rest,a,c,d⟩⟩:=h
  · exact⟨h1,.inl h2⟩
  exact⟨h1,.inr ⟨g,A0,rest,a,Av hb c,d⟩⟩
theorem Ly.base {L:Nat}{w:World}{b b':Nat}{v:Value}{es:List Dk}(h:Ly L w b v es)(hb:b'<=b):Ly L w b' v es:=⟨h.1.base hb,h.2⟩
end
section
theorem lD:∀{ms:List QI} {s:Int} {m:Rat},(∀a,a∈ms->m<=a.1)->∀r,r∈Gy s ms->m<=r.1.1
  | [],s,_,_,r,hr=>by rw[Gy]at hr;simp at hr
  | [a],s,_,_,r,hr=>by rw[Gy]at hr;simp at hr
  | a::b::t,s,m,h,r,hr=>by
    rw[Gy]at hr;rcases List.mem_cons.1 hr with rfl|hr
    · exact h a (eQQ ..)
    exact lD (fun c hc=>h c (cQQ _ hc)) r hr
theorem Ur:∀{ms:List QI} {s:Int},ms.Pairwise (fun a b=>a.1<=b.1)->((Gy s ms).map fun r=>r.1).Pairwise Qt
  | [],_,_=>by simp[Gy]
  | [_],_,_=>by simp[Gy]
  | a::b::t,s,h=>by
    obtain⟨h1,h2⟩:=List.pairwise_cons.1 h;have ih:=Ur (ms:=b::t) (s:=s+a.2) h2;show(((a.1,b.1):QQ)::(Gy (s+a.2) (b::t)).map fun r=>r.1).Pairwise Qt;refine List.pairwise_cons.2 ⟨fun r hr _ _=> ?_,ih⟩;obtain⟨x,hx,rfl⟩:=List.mem_map.1 hr;exact .inl (lD (m:=b.1) (fun z hz=>by
      rcases List.mem_cons.1 hz with e|e
      · rw[e];exact Rat.le_refl
      exact(List.pairwise_cons.1 h2).1 z e) x hx)
theorem oA {ms:List QI}(rule:Int)(h:ms.Pairwise (fun a b=>a.1<=b.1)):(Xx rule (Gy 0 ms)).Pairwise Qt:=by
  unfold Xx;have h1:=Ur (s:=0) h;rw[List.pairwise_map]at h1⊢;exact h1.filter _
theorem Th {a b:Int×Int}{rs:List Ai}{z:Rat}(h:z∈Dn a b rs):(a.2:Rat)<=z/\z<=(b.2:Rat):=by
  unfold Dn at h;split at h
  · rename_i k
    have A0:(a.2:Rat)<(b.2:Rat):=by exact_mod_cast k.2.2.2
    rcases Ko.1 h with e|⟨_,e1,e2⟩
    · simp at e
      rcases e with rfl|rfl
      · exact⟨Rat.le_refl,Rat.le_of_lt A0⟩
      exact⟨Rat.le_of_lt A0,Rat.le_refl⟩
    exact⟨Rat.le_of_lt e1,Rat.le_of_lt e2⟩
  simp at h
theorem Uv (a b:Int×Int)(rs:List Ai):(Dn a b rs).Pairwise (· < ·):=by
  unfold Dn;split
  · rename_i k
    have A0:(a.2:Rat)<(b.2:Rat):=by exact_mod_cast k.2.2.2
    exact Vd (by simp[A0])
  simp
theorem xY {a b:Int×Int}{rs:List Ai}{z:Rat}(k:Lk a b rs)(h:z∈Mf a b rs)(h1:(a.2:Rat)<z)(h2:z<(b.2:Rat)):z∈Dn a b rs:=by
  unfold Dn;rw[if_pos k];exact Ko.2 (.inr ⟨h,h1,h2⟩)
theorem pU {a b:Int×Int}{rs:List Ai}{y p q:Rat}{i:Nat}(k:Lk a b rs)(hy:y∈Mf a b rs)(hp:(Dn a b rs)[i]?=some p)(hq:(Dn a b rs)[i+1]?=some q):¬(p<y/\y<q):=by
 rintro⟨h1,h2⟩;have bp:=Th (bZZ hp);have bq:=Th (bZZ hq);have hm:=xY k hy (by grind) (by grind);obtain⟨j,hj⟩:=List.mem_iff_getElem?.1 hm;have hs:=List.pairwise_iff_getElem.1 (Uv a b rs);obtain⟨li,ei⟩:=List.getElem?_eq_some_iff.1 hp;obtain⟨lq,eq⟩:=List.getElem?_eq_some_iff.1 hq;obtain⟨lj,ej⟩:=List.getElem?_eq_some_iff.1 hj;rcases Nat.lt_trichotomy j i with h|h|h
 ·have:=hs j i lj li h;rw[ej,ei]at this;grind
 ·subst h;rw[ej]at ei;rw[ei]at h1;exact absurd h1 (Rat.lt_irrefl)
 rcases Nat.lt_trichotomy j (i+1)with h'|h'|h'
 ·omega
 ·subst h';rw[ej]at eq;rw[eq]at h2;exact absurd h2 (Rat.lt_irrefl)
 have:=hs (i+1) j lq lj h';rw[ej,eq]at this;grind
theorem Uu {rs:List Ai}{r:Ai}{p:Int×Int}(h1:r∈rs)(h2:p∈r)(a b:Int×Int):(p.2:Rat)∈Mf a b rs:=
  List.mem_append_left _ (List.mem_flatMap.2 ⟨r,h1,List.mem_map.2 ⟨p,h2,rfl⟩⟩)
end
section
theorem Jk (y:Rat)(rs:List Ai):El y rs=Stb.stab pS ((Dc rs).filterMap (Do y)):=rfl
def cC (e:Cg)(y:Rat):Rat:=Di e.1.1 e.1.2 e.2.1 e.2.2 y
theorem Iy (e:Cg)(y:Rat):cC e y=Tg e.1 e.2*y+((e.1.1:Rat)-(e.1.2:Rat)*Tg e.1 e.2):=rQ e.1 e.2 y
theorem Nl {rs:List Ai}{e:Cg}(h:e∈Bk rs):∃r,r∈rs/\e.1∈r/\e.2∈r:=by
  unfold Bk at h;obtain⟨r,hr,h⟩:=List.mem_flatMap.1 h;unfold Eb at h;obtain⟨i,_,h⟩:=List.mem_filterMap.1 h;unfold Fi at h;split at h
  · rename_i a b ha hb
    split at h
    · cases h
    injection h with h;subst h;exact⟨r,hr,bZZ ha,bZZ hb⟩
  cases h
theorem kQ {a b:Int×Int}{z:Rat}:∀{l p:List Cg} {x:Cg},x∈l->(z∈Lz x a.1\/z∈Lz x b.1)->z∈Xc a b p l
  | y::l,p,x,h,hz=>by
    unfold Xc;rcases List.mem_cons.1 h with e|e
    · subst e
      refine List.mem_append_left _ ?_;unfold Nc;rcases hz with hz|hz
      · exact List.mem_append_left _ (List.mem_append_right _ hz)
      exact List.mem_append_right _ hz
    exact List.mem_append_right _ (kQ e hz)
section
variable {a b:Int×Int} {rs:List Ai} {p q:Rat} {i:Nat}
theorem gap (k:Lk a b rs)(hp:(Dn a b rs)[i]?=some p)(hq:(Dn a b rs)[i+1]?=some q){r:Rat}(h1:p<r)(h2:r<q):r∉Mf a b rs:=fun h=>pU k h hp hq ⟨h1,h2⟩
theorem aAB (k:Lk a b rs)(hp:(Dn a b rs)[i]?=some p)(hq:(Dn a b rs)[i+1]?=some q){e:Cg}(he:e∈Dc rs):(∀r,p<r->r<q->r≠(e.1.2:Rat))/\∀r,p<r->r<q->r≠(e.2.2:Rat):=by
  rw[Hu k.1]at he;obtain⟨r,hr,m1,m2⟩:=Nl he;exact⟨fun z h1 h2 e=>gap k hp hq h1 h2 (e▸Uu hr m1 a b),fun z h1 h2 e=>gap k hp hq h1 h2 (e▸Uu hr m2 a b)⟩
theorem wY (k:Lk a b rs)(hp:(Dn a b rs)[i]?=some p)(hq:(Dn a b rs)[i+1]?=some q){e:Cg}(he:e∈Dc rs){r:Rat}(h1:p<r)(h2:r<q)(hr:e.1.2≠e.2.2/\((min e.1.2 e.2.2:Int):Rat)<r/\r<((max e.1.2 e.2.2:Int):Rat))(hs:Tg e.1 e.2≠0){x:Int}(hx:x=a.1\/x=b.1):cC e r≠(x:Rat):=by
 intro h;have f:=mE hr.1 hr.2.1 hr.2.2;have hv:=Qo hr.1;have ev:=Rat.mul_inv_cancel _ hv;have A2:e.1.1≠e.2.1:=by
  intro c;apply hs;unfold Tg;rw[c,show e.2.1-e.2.1=0 by omega];show _*(0:Rat)=0;grind
 have hu:=Qo A2;have eu:=Rat.mul_inv_cancel _ hu;have A0:(x:Rat)=(e.1.1:Rat)+(r-(e.1.2:Rat))*((e.2.2:Rat)-(e.1.2:Rat))⁻¹*((e.2.1-e.1.1:Int):Rat):=by
  rw[<-h];unfold cC Di;rw[Rat.div_def,Rat.intCast_sub e.2.2,show((1:Int):Rat)=1 from rfl,Rat.one_mul]
 have hU:qD ((r-(e.1.2:Rat))*((e.2.2:Rat)-(e.1.2:Rat))⁻¹):=by
  refine⟨fun c=> ?_,fun c=> ?_⟩
  ·rw[show(((0):Int):Rat)=0 from rfl]at c;exact absurd f.1 (Rat.not_le.2 c)
  rw[show(((1):Int):Rat)=1 from rfl]at c;exact absurd f.2 (Rat.not_le.2 c)
 have hb:=lR (p:=e.1.1) (q:=e.2.1) hU;rw[<-A0]at hb;have A1:aFD e:=by rw[Hu k.1]at he;exact fS k.1 e he
 have hC:cZ e.1 e.2 x:=⟨A1.1,A1.2,A2,by exact_mod_cast hb.1,by exact_mod_cast hb.2⟩;have hQ:Im e.1 e.2 x=r:=by
  unfold Im;rw[Rat.div_def,Rat.intCast_sub,Rat.intCast_sub,Rat.intCast_sub,A0,Rat.intCast_sub];generalize ((e.2.2:Rat)-(e.1.2:Rat))⁻¹=i at*;generalize ((e.2.1:Rat)-(e.1.1:Rat))⁻¹=j at*;grind
 have A3:=he;rw[Hu k.1]at A3;refine gap k hp hq h1 h2 (List.mem_append_right _ (kQ A3 ?_));have hm:r∈Lz e x:=by unfold Lz;rw[if_pos hC,hQ];simp
 rcases hx with rfl|rfl
 ·exact .inl hm
 exact .inr hm
def Iv (rule:Int)(a b:Int×Int)(rs:List Ai)(y:Rat):Rat:=Dw (a.1:Rat) (b.1:Rat) (La rule (El y rs))
end
end
section
def Il (rule:Int)(a b:Int×Int)(rs:List Ai):Rat:=if b.1<=a.1\/b.2<=a.2 then 0 else Be (Iv rule a b rs) (Dn a b rs)
theorem Me {a b:Int×Int}{rs:List Ai}(k:Lk a b rs):aHC (a.2:Rat) (b.2:Rat) (Dn a b rs):=by
  refine⟨Uv a b rs,fun z hz=>Th hz,?_,?_⟩
  · unfold Dn;rw[if_pos k];exact Ko.2 (.inl (by simp))
  unfold Dn;rw[if_pos k];exact Ko.2 (.inl (by simp))
theorem Ky {W:Rat->Rat}(h:∀y,W y=0):∀l:List Rat,Be W l=0
  | x::y::l=>by
    show W _*_+Be W (y::l)=0;rw[h,Ky h (y::l)];grind
  | [x]=>rfl
  | []=>rfl
theorem Wn {rule:Int}{a b:Int×Int}{rs:List Ai}(h:a.2<b.2)(_:a.1<=b.1):Il rule a b rs=Be (Iv rule a b rs) (Dn a b rs):=by
  unfold Il;by_cases c:b.1<=a.1
  · rw[if_pos (.inl c)]
    exact(Ky (W:=Iv rule a b rs) (fun y=>pZ (by exact_mod_cast c) _) _).symm
  rw[if_neg ω]
theorem Ui {l:List Rat}{c:Rat}(hs:l.Pairwise (· < ·))(hb:∀z,z∈l->z<=c)(hc:c∈l):∃m,l=m++[c]:=by
  have A0:l≠ []:=fun e=>by rw[e]at hc;cases hc
  obtain⟨m,z,rfl⟩:∃m z,l=m++[z]:=⟨l.dropLast,l.getLast A0,(List.dropLast_concat_getLast A0).symm⟩;have h1:=List.pairwise_append.1 hs;rcases List.mem_append.1 hc with h|h
  · have h2:=h1.2.2 c h z (by simp)
    have h3:=hb z (by simp);grind
  have:c=z:=by simpa using h
  exact⟨m,by rw[this]⟩
theorem Sa {l:List Rat}{c:Rat}(hs:l.Pairwise (· < ·))(hb:∀z,z∈l->c<=z)(hc:c∈l):∃m,l=c::m:=by
  cases l with
  |nil=>cases hc
  | cons z m=>
    rcases List.mem_cons.1 hc with h|h
    · exact⟨m,by rw[h]⟩
    have h2:=(List.pairwise_cons.1 hs).1 c h;have h3:=hb z (by simp);grind
theorem mW {W:Rat->Rat}(h:∀y,0<=W y):∀{l:List Rat},l.Pairwise (· < ·)->0<=Be W l
  | x::y::l,hs=>by
    obtain⟨h1,h2⟩:=List.pairwise_cons.1 hs;have ih:=mW h h2;have h3:=h1 y (by simp);show 0<=W _*_+Be W (y::l);have:=Rat.mul_nonneg (h ((x+y)/2)) (show 0<=y-x by grind);grind
  | [_],_=>Rat.le_refl
  | [],_=>Rat.le_refl
theorem kU {rule:Int}{a b:Int×Int}{rs:List Ai}(h:a.1<=b.1)(y:Rat):Iv rule a b rs y<=(b.1:Rat)-(a.1:Rat):=bJ _ (Li _).1 (by exact_mod_cast h)
theorem Zv {rule:Int}{a b:Int×Int}{rs:List Ai}(y:Rat):0<=Iv rule a b rs y:=yY _ _ _
theorem oK {a b:Int×Int}{rs:List Ai}(k:Lk a b rs):∃x l,Dn a b rs=x::l/\x=(a.2:Rat)/\(x::l).getLast?=some (b.2:Rat):=by
  have h:=Me k;obtain⟨m,hm⟩:=Sa h.srt (fun z hz=>(h.bd z hz).1) h.lo;obtain⟨n,hn⟩:=Ui h.srt (fun z hz=>(h.bd z hz).2) h.hi;refine⟨_,m,hm,rfl,?_⟩;rw[<-hm,hn];simp
theorem nC {W:Rat->Rat}{c:Rat}:∀{l:List Rat},l.Pairwise (· < ·)->(∀y,(∀z,l.head?=some z->z<y)->(∀z,l.getLast?=some z->y<z)->W y=c)->Be W l=Be (fun _=>c) l
 | [],_,_=>rfl
 | [_],_,_=>rfl
 |x::y::l,hs,h=>by
  obtain⟨h1,h2⟩:=List.pairwise_cons.1 hs;have A0:=h1 y (by simp);have hl:∀z,(x::y::l).getLast?=some z->y<=z:=fun z hz=>by
   rw[List.getLast?_cons_cons]at hz;have hm:=List.mem_of_getLast? hz;rcases List.mem_cons.1 hm with e|e
   ·rw[e];exact Rat.le_refl
   exact Rat.le_of_lt ((List.pairwise_cons.1 h2).1 z e)
  have ih:=nC (W:=W) (c:=c) h2 (fun w a1 a2=>h w (fun z hz=>by
   have:x=z:=by simpa using hz
   subst this;have:=a1 y rfl;grind) (fun z hz=>a2 z (by rwa[List.getLast?_cons_cons]at hz)))
  have m:=jG A0;have hm:=h ((x+y)/2) (fun z hz=>by
   have:x=z:=by simpa using hz
   subst this;exact m.1) (fun z hz=>by have:=hl z hz;grind)
  show W _*_+Be W (y::l)=c*_+Be (fun _=>c) (y::l);rw[ih,hm]
theorem Nh {rs:List Ai}{r:Ai}{p:Int×Int}(h:Fm rs=true)(hr:r∈rs)(hp:p∈r):Du p:=by
  obtain⟨i,hi⟩:=List.mem_iff_getElem?.1 hr;obtain⟨k,hk⟩:=List.mem_iff_getElem?.1 hp;exact lH h hi hk
def Kd (D:Nat)(q:Rat):Prop:=∃z:Int,q*((D:Int):Rat)=(z:Rat)
theorem Kd.add {D:Nat}{q r:Rat}(h:Kd D q)(k:Kd D r):Kd D (q+r):=by
  obtain⟨a,ha⟩:=h;obtain⟨b,hb⟩:=k;exact⟨a+b,by rw[Rat.intCast_add,<-ha,<-hb];grind⟩
theorem Kd.sub {D:Nat}{q r:Rat}(h:Kd D q)(k:Kd D r):Kd D (q-r):=by
  obtain⟨a,ha⟩:=h;obtain⟨b,hb⟩:=k;exact⟨a-b,by rw[Rat.intCast_sub,<-ha,<-hb];grind⟩
theorem Kd.mul {D E:Nat}{q r:Rat}(h:Kd D q)(k:Kd E r):Kd (D*E) (q*r):=by
  obtain⟨a,ha⟩:=h;obtain⟨b,hb⟩:=k;exact⟨a*b,by rw[fZZ,Rat.intCast_mul,Rat.intCast_mul,<-ha,<-hb];grind⟩
theorem Kd.int (D:Nat)(z:Int):Kd D (z:Rat):=⟨z*D,by rw[Rat.intCast_mul]⟩
theorem Kd.up {D E:Nat}{q:Rat}(h:Kd D q)(k:D∣E):Kd E q:=by
  obtain⟨m,rfl⟩:=k;obtain⟨a,ha⟩:=h;exact⟨a*m,by rw[fZZ,Rat.intCast_mul,Rat.intCast_mul,<-ha];grind⟩
theorem Kd.den (q:Rat):Kd q.den q:=⟨q.num,by
  have e:q=(q.num:Rat)/(((q.den:Nat):Int):Rat):=by rw[<-Rat.divInt_eq_div];exact(Rat.num_divInt_den q).symm
  have h:(((q.den:Nat):Int):Rat)≠0:=by exact_mod_cast q.den_nz
  have k:=Rat.inv_mul_cancel _ h;rw[Rat.div_def]at e;generalize (((q.den:Nat):Int):Rat)=u at*;generalize (q.num:Rat)=v at*;rw[e];grind⟩
theorem Kd.half {D:Nat}{q r:Rat}(h:Kd D q)(k:Kd D r):Kd (2*D) ((q+r)/2):=by
  obtain⟨a,ha⟩:=h;obtain⟨b,hb⟩:=k;refine⟨a+b,?_⟩;rw[fZZ,Rat.intCast_mul,Rat.intCast_add,<-ha,<-hb,Rat.div_def];have e:(2:Rat)⁻¹*(((2:Nat):Int):Rat)=1:=by decide+kernel
  generalize (2:Rat)⁻¹=i at*;generalize (((2:Nat):Int):Rat)=u at*;grind
theorem Kd.rl {D M:Nat}{q:Rat}(hD:0<D)(h:Kd D q)(h1: -((M:Int):Rat)<=q)(h2:q<=((M:Int):Rat)):Nm.rl q<=max (Nm.nl (M*D)) (max (Nm.nl D) 1):=by
 obtain⟨a,ha⟩:=h;have hd:(0:Rat)<((D:Int):Rat):=by exact_mod_cast hD
 have e:q=Rat.divInt a D:=by
  rw[Rat.divInt_eq_div,<-ha,Rat.div_def,Rat.mul_assoc,Rat.mul_inv_cancel _ (by grind),Rat.mul_one]
 rw[e];refine Av (Nm.rl_divInt _ _) ?_;have k:a.natAbs<=M*D:=by
  have k1:(a:Rat)<=(((M*D:Nat):Int):Rat):=by
   rw[<-ha,fZZ,Rat.intCast_mul];exact Rat.mul_le_mul_of_nonneg_right h2 (by grind)
  have k2:(((-(M*D:Nat):Int)):Rat)<=(a:Rat):=by
   rw[<-ha,fZZ,Rat.intCast_neg,Rat.intCast_mul];have:=Rat.mul_le_mul_of_nonneg_right h1 (c:=((D:Int):Rat)) (by grind);grind
  have k3:a<=((M*D:Nat):Int):=by exact_mod_cast k1
  have k4: -((M*D:Nat):Int)<=a:=by exact_mod_cast k2
  omega
 have:=Nm.nl_mono k;have:Nm.nl (D:Int).natAbs=Nm.nl D:=by rw[mQQ]
 omega
def dn:List Rat->Nat
  | []=>1
  |x::l=>x.den*dn l
theorem kB:∀l:List Rat,0<dn l
  | []=>Nat.one_pos
  |x::l=>Nat.mul_pos x.den_pos (kB l)
theorem aBJ {q:Rat}:∀{l:List Rat},q∈l->Kd (dn l) q
  | x::l,h=>by
    rcases List.mem_cons.1 h with e|e
    · subst e;exact(Kd.den q).up ⟨dn l,rfl⟩
    exact(aBJ e).up ⟨x.den,lXX _ _⟩
theorem aBI {c:Nat}:∀{l:List Rat},(∀x,x∈l->Nm.rl x<=c)->Nm.nl (dn l)<=c*l.length+1
  | [],_=>Av (Nm.nl_le (k:=1) (by decide)) (by simp)
  | x::l,h=>by
    have h1:=Nm.nl_mul x.den (dn l);have h2:=aBI (l:=l) fun z hz=>h z (cQQ _ hz)
    have h3:Nm.nl x.den<=c:=Av (Nat.le_max_right _ _) (h x eQQ);show Nm.nl (x.den*dn l)<=_;rw[hQQ,gZZ];omega
def qR (e:Cg):Nat:=if e.2.2-e.1.2=0 then 1 else(e.2.2-e.1.2).natAbs
def Ze:List Cg->Nat
  | []=>1
  |e::l=>qR e*Ze l
theorem aAD (e:Cg):0<qR e:=by unfold qR;split<;>omega
theorem cD:∀l:List Cg,0<Ze l
  | []=>Nat.one_pos
  |e::l=>Nat.mul_pos (aAD e) (cD l)
theorem mM {e:Cg}:∀{l:List Cg},e∈l->qR e∣Ze l
  | x::l,h=>by
    rcases List.mem_cons.1 h with e|e
    · subst e;exact⟨Ze l,rfl⟩
    obtain⟨m,hm⟩:=mM e;exact⟨qR x*m,by show qR x*Ze l=_;rw[hm,Nat.mul_left_comm]⟩
theorem jZ:∀{l:List Cg},(∀e,e∈l->Du e.1/\Du e.2)->Nm.nl (Ze l)<=l.length+1
  | [],_=>Nm.nl_le (by decide)
  | e::l,h=>by
    have h1:=Nm.nl_mul (qR e) (Ze l);have h2:=jZ (l:=l) fun z hz=>h z (cQQ _ hz)
    have h3:Nm.nl (qR e)<=1:=by
      obtain⟨a,b⟩:=h e eQQ;have a2:=Bd a;have b2:=Bd b;refine Nm.nl_le ?_;unfold qR;split<;>omega
    show Nm.nl (qR e*Ze l)<=_;rw[hQQ];omega
theorem sH (e:Cg):Kd (qR e) (Tg e.1 e.2):=by
 unfold Tg qR;split
 ·rename_i h;rw[h];exact⟨0,by rw[show((1:Int):Rat)/((0:Int):Rat)=0 from by decide+kernel];grind⟩
 rename_i h;have hz:(((e.2.2-e.1.2:Int)):Rat)≠0:=by exact_mod_cast h
 rcases Int.natAbs_eq (e.2.2-e.1.2)with k|k
 ·refine⟨e.2.1-e.1.1,?_⟩
  rw[<-k,Rat.div_def];have:=Rat.inv_mul_cancel _ hz;generalize (((e.2.2-e.1.2:Int)):Rat)=u at*
  grind
 refine⟨-(e.2.1-e.1.1),?_⟩;rw[show(((e.2.2-e.1.2).natAbs:Int))= -(e.2.2-e.1.2)from ω,Rat.div_def,Rat.intCast_neg,Rat.intCast_neg];have:=Rat.inv_mul_cancel _ hz;generalize (((e.2.2-e.1.2:Int)):Rat)=u at*
 grind
theorem aDO {e:Cg}{F:Nat}{y:Rat}(h:Kd F y):Kd (qR e*F) (cC e y):=by
  rw[Iy];refine((sH e).mul h).add (Kd.sub (Kd.int _ _) ?_);have:=(Kd.int 1 e.1.2).mul (sH e);exact this.up ⟨F,by rw[Nat.one_mul]⟩
theorem pR {y:Rat}{rs:List Ai}{m:QI}(h:m∈El y rs):∃e,e∈Dc rs/\m.1=cC e y:=by
  rw[Jk,Stb.mem_stab]at h;obtain⟨e,he,h⟩:=List.mem_filterMap.1 h;refine⟨e,he,?_⟩;unfold Do at h;split at h
  · injection h with h;rw[<-h];rfl
  split at h
  · injection h with h;rw[<-h];rfl
  cases h
theorem dQ {P:Rat->Prop}:∀{ms:List QI} {s:Int},(∀m,m∈ms->P m.1)->∀r,r∈Gy s ms->P r.1.1/\P r.1.2
  | [],_,_,_,h=>by simp[Gy]at h
  | [_],_,_,_,h=>by simp[Gy]at h
  | a::b::t,s,hp,r,h=>by
    rcases List.mem_cons.1 (show r∈((a.1,b.1),s+a.2)::Gy (s+a.2) (b::t)from h)with e|e
    · subst e;exact⟨hp a eQQ,hp b (cQQ _ eQQ)⟩
    exact dQ (fun m hm=>hp m (cQQ _ hm)) r e
theorem Km {P:Rat->Prop}{rule:Int}{ms:List QI}(h:∀m,m∈ms->P m.1):∀p,p∈La rule ms->P p.1/\P p.2:=by
  refine eW fun p hp=> ?_
  unfold Xx at hp;obtain⟨r,hr,rfl⟩:=List.mem_map.1 hp;exact dQ h r (List.mem_filter.1 hr).1
theorem zD {D:Nat}{f t:Rat}{p:QQ}(hf:Kd D f)(ht:Kd D t)(h1:Kd D p.1)(h2:Kd D p.2):Kd D (Fg f t p):=by
  unfold Fg;have k1:Kd D (if p.1<f then f else p.1):=by split<;>assumption
  have k2:Kd D (if t<p.2 then t else p.2):=by split<;>assumption
  generalize (if p.1<f then f else p.1)=u at*;generalize (if t<p.2 then t else p.2)=v at*;split
  · exact k2.sub k1
  exact Kd.int D 0
theorem lT {D:Nat}{f t:Rat}(hf:Kd D f)(ht:Kd D t):∀{l:List QQ},(∀p,p∈l->Kd D p.1/\Kd D p.2)->Kd D (Dw f t l)
  | [],_=>by rw[Eo];exact Kd.int D 0
  | p::l,h=>by
    rw[Ce];exact(zD hf ht (h p eQQ).1 (h p eQQ).2).add (lT hf ht fun z hz=>h z (cQQ _ hz))
theorem kV {rule:Int}{a b:Int×Int}{rs:List Ai}{F:Nat}{y:Rat}(h:Kd F y):Kd (Ze (Dc rs)*F) (Iv rule a b rs y):=by
  refine lT (Kd.int _ _) (Kd.int _ _) (Km (P:=Kd (Ze (Dc rs)*F)) fun m hm=> ?_);obtain⟨e,he,hx⟩:=pR hm;rw[hx];exact(aDO h).up (Nat.mul_dvd_mul_right (mM he) F)
theorem jJ (l:List QQ):(Ff l).length<=l.length:=by
  have h:=uW (Ea l) (Ea l).length;rw[mZZ]at h;refine Av h ?_;unfold Ea;rw[Stb.stab_len];exact List.length_filter_le _ _
theorem nS (rule:Int)(ms:List QI):(La rule ms).length<=ms.length:=by
  refine Av (jJ _) (Av (xT _ _) ?_);rw[Mc];omega
theorem pN (y:Rat)(rs:List Ai):(El y rs).length<=(Dc rs).length:=by
  rw[Jk,Stb.stab_len];exact List.length_filterMap_le _ _
theorem Rt (rs:List Ai):(Dc rs).length<=Gx rs:=by
  unfold Dc;split
  · exact Fh rs
  simp[Bk]
theorem eG {y:Rat}:∀{l:List Rat},(Nt l y).length<=l.length+1
  | []=>by simp[Nt]
  | x::l=>by
    have:=eG (y:=y) (l:=l);unfold Nt;split
    · simp;omega
    split<;>simp
theorem eP {lo hi:Rat}:∀{all l:List Rat},(aT lo hi l all).length<=l.length+all.length
  | [],l=>by simp[aT]
  | x::all,l=>by
    show(aT lo hi (if lo<x/\x<hi then Nt l x else l) all).length<=_;have h1:=eP (lo:=lo) (hi:=hi) (all:=all) (l:=if lo<x/\x<hi then Nt l x else l);have h2:(if lo<x/\x<hi then Nt l x else l).length<=l.length+1:=by
      split
      · exact eG
      omega
    rw[hQQ];omega
theorem fN {α β:Type}{f:α->List β}(h:∀x,(f x).length<=1):∀l:List α,(l.flatMap f).length<=l.length
  | []=>by simp
  | x::l=>by
    have:=h x;have:=fN h l;rw[List.flatMap_cons,bQQ,hQQ];omega
theorem cW (e:Cg)(x:Int):(Lz e x).length<=1:=by unfold Lz;split<;>simp
theorem sU (o e:Cg):(Up o e).length<=1:=by unfold Up;split<;>simp
theorem dZ (a b:Int×Int)(N:Nat):∀(l p:List Cg),p.length+l.length<=N->(Xc a b p l).length<=l.length*(N+2)
  | [],p,_=>by simp[Xc]
  | x::l,p,h=>by
    have h1:=dZ a b N l (p++[x]) (by simp at h⊢;omega);have h2:=fN (f:=fun o=>Up x o) (fun o=>sU x o) p;have h3:=cW x a.1;have h4:=cW x b.1;show(Nc a b p x++Xc a b (p++[x]) l).length<=_;unfold Nc;simp only[bQQ,hQQ,kQQ,Nat.one_mul]at h⊢;omega
theorem dX:∀rs:List Ai,(tM rs).length=Gx rs
  | []=>rfl
  | r::rs=>by
    have:=dX rs;have e:Gx (r::rs)=r.length+Gx rs:=by
      have:=kW [r] rs;simpa[Gx]using this
    rw[e,<-this];simp[tM]
theorem tN {a b:Int×Int}{rs:List Ai}{N:Nat}(h:Gx rs<=N):(Dn a b rs).length<=2+N+N*(N+2):=by
  unfold Dn;split
  · rename_i k
    have h1:=eP (lo:=(a.2:Rat)) (hi:=(b.2:Rat)) (all:=Mf a b rs) (l:=[(a.2:Rat),(b.2:Rat)]);have h2:=dZ a b N (Bk rs) [] (by have:=Fh rs;simp;omega);have h3:=dX rs;have h4:=hXX (N+2) (Av (Fh rs) h);unfold Mf at h1⊢;simp only[bQQ,hQQ,List.length_nil]at h1;omega
  simp
theorem mZ {W:Rat->Rat}{D F C M:Nat}(hW:∀y,Kd (2*D) y->Kd F (W y))(h0:∀y,0<=W y/\W y<=((C:Int):Rat)):∀{l:List Rat},(∀x,x∈l->Kd D x/\ -((M:Int):Rat)<=x/\x<=((M:Int):Rat))->l.Pairwise (· < ·)->Kd (F*D) (Be W l)/\0<=Be W l/\Be W l<=(((l.length*(C*(2*M)):Nat):Int):Rat)
 | [],_,_=>⟨Kd.int _ 0,by simp[Be],by simp[Be]⟩
 | [x],_,_=>⟨Kd.int _ 0,by simp[Be],by show(0:Rat)<=_;exact_mod_cast Int.natCast_nonneg _⟩
 |x::y::l,h,hs=>by
  obtain⟨k1,k2,k3⟩:=mZ hW h0 (l:=y::l) (fun z hz=>h z (cQQ _ hz)) (List.pairwise_cons.1 hs).2;obtain⟨x1,x2,x3⟩:=h x eQQ;obtain⟨y1,y2,y3⟩:=h y (cQQ _ eQQ);have A0:x<y:=(List.pairwise_cons.1 hs).1 y eQQ;obtain⟨w1,w2⟩:=h0 ((x+y)/2);have wk:=hW _ (x1.half y1);have hd:0<=y-x/\y-x<=(((2*M:Nat):Int):Rat):=by
   rw[fZZ,Rat.intCast_mul];have:(((2:Nat):Int):Rat)=2:=rfl;constructor<;>grind
  show Kd (F*D) (W ((x+y)/2)*(y-x)+Be W (y::l))/\0<=W ((x+y)/2)*(y-x)+Be W (y::l)/\W ((x+y)/2)*(y-x)+Be W (y::l)<=_;refine⟨(wk.mul (y1.sub x1)).add k1,?_,?_⟩
  ·have:=Rat.mul_nonneg w1 hd.1
   grind
  have e1:W ((x+y)/2)*(y-x)<=((C:Int):Rat)*(((2*M:Nat):Int):Rat):=by
   have a1:=Rat.mul_le_mul_of_nonneg_right w2 hd.1;have a2:=Rat.mul_le_mul_of_nonneg_left hd.2 (show(0:Rat)<=((C:Int):Rat)from by exact_mod_cast Int.natCast_nonneg C);grind
  have e2:((((x::y::l).length*(C*(2*M)):Nat):Int):Rat)=((C:Int):Rat)*(((2*M:Nat):Int):Rat)+((((y::l).length*(C*(2*M)):Nat):Int):Rat):=by
   rw[<-Rat.intCast_mul,<-fZZ,<-Rat.intCast_add,<-Int.natCast_add];congr 2;rw[hQQ (a:=x),Nat.succ_mul,Nat.add_comm]
  rw[e2];grind
def part (rule:Int)(a b:Int×Int)(rs:List Ai)(k:Nat):Rat:=Be (Iv rule a b rs) ((Dn a b rs).take (k+1))
theorem oV (rule:Int)(a b:Int×Int)(rs:List Ai):part rule a b rs 0=0:=by
  unfold part;cases Dn a b rs with
  |nil=>rfl
  |cons x l=>rfl
theorem Zn (W:Rat->Rat):∀(l:List Rat) (k:Nat) (x y:Rat),l[k]?=some x->l[k+1]?=some y->Be W (l.take (k+2))=Be W (l.take (k+1))+W ((x+y)/2)*(y-x)
  | [],k,x,y,h,_=>by simp at h
  | [z],0,x,y,_,h=>by simp at h
  | [z],k+1,x,y,h,_=>by simp at h
  | a::b::l,0,x,y,h,h2=>by
    simp at h h2;subst h h2;show W ((a+b)/2)*(b-a)+Be W [b]=Be W [a]+_;show W ((a+b)/2)*(b-a)+0=0+_;grind
  | a::b::l,k+1,x,y,h,h2=>by
    have ih:=Zn W (b::l) k x y (by simpa using h) (by simpa using h2);show W ((a+b)/2)*(b-a)+Be W (b::l.take (k+1))=W ((a+b)/2)*(b-a)+Be W (b::l.take k)+_;rw[List.take_succ_cons,List.take_succ_cons]at ih;rw[ih];grind
theorem oW {rule:Int}{a b:Int×Int}{rs:List Ai}{k:Nat}{x y:Rat}(h:(Dn a b rs)[k]?=some x)(h2:(Dn a b rs)[k+1]?=some y):part rule a b rs (k+1)=part rule a b rs k+Iv rule a b rs ((x+y)/2)*(y-x):=Zn _ _ _ _ _ h h2
theorem tU {rule:Int}{a b:Int×Int}{rs:List Ai}{k:Nat}(h:(Dn a b rs).length<=k+1)(h1:a.1<b.1):part rule a b rs k=Il rule a b rs:=by
  unfold part Il;rw[cXX h];split
  · rename_i c
    have:¬Lk a b rs:=fun k=>by have:=k.2.2.2;omega
    rw[show Dn a b rs=[]from if_neg this];rfl
  rfl
theorem yF {rule:Int}{a b:Int×Int}{rs:List Ai}(ha:Du a)(hb:Du b)(h1:a.1<=b.1)(ht:Gx rs<=24)(hh:∀x,x∈Dn a b rs->Nm.rl x<=24)(k:Nat):Nm.rl (part rule a b rs k)<=50000:=by
 have a2:=Bd ha;have b2:=Bd hb;by_cases c:Lk a b rs
 ·have hD:=aBI hh
  have hc:=tN (a:=a) (b:=b) ht;have hE:Nm.nl (Ze (Dc rs))<=25:=by
   refine Av (jZ fun e he=> ?_) (by have:=Rt rs;omega);rw[Hu c.1]at he;obtain⟨r,hr,h3,h4⟩:=Nl he;exact⟨Nh c.1 hr h3,Nh c.1 hr h4⟩
  have hp:=mZ (W:=Iv rule a b rs) (D:=dn (Dn a b rs)) (F:=Ze (Dc rs)*(2*dn (Dn a b rs))) (C:=2097152) (M:=1048576) (fun y hy=>kV hy)
   (fun y=>⟨Zv y,Rat.le_trans (kU h1 y) (by rw[<-Rat.intCast_sub];exact Rat.intCast_le_intCast.2 ω)⟩) (l:=(Dn a b rs).take (k+1))
   (fun x hx=>⟨aBJ (List.mem_of_mem_take hx),by
    have h5:=Th (List.mem_of_mem_take hx);have h6:(((-1048576:Int)):Rat)<=(a.2:Rat):=Rat.intCast_le_intCast.2 ω;have h7:(b.2:Rat)<=(((1048576:Nat):Int):Rat):=Rat.intCast_le_intCast.2 ω;exact⟨Rat.le_trans (by rw[<-Rat.intCast_neg];exact h6) h5.1,Rat.le_trans h5.2 h7⟩⟩)
   ((Uv a b rs).sublist (List.take_sublist _ _))
  have A0:0<Ze (Dc rs)*(2*dn (Dn a b rs))*dn (Dn a b rs):=Nat.mul_pos (Nat.mul_pos (cD _) (Nat.mul_pos (by decide) (kB _))) (kB _);have hr:=Kd.rl (M:=((Dn a b rs).take (k+1)).length*(2097152*(2*1048576))) A0 hp.1 (Rat.le_trans (by
   have:(0:Rat)<=(((((Dn a b rs).take (k+1)).length*(2097152*(2*1048576)):Nat):Int):Rat):=by exact_mod_cast Int.natCast_nonneg _
   grind) hp.2.1) hp.2.2
  refine Av hr ?_;have n1:=Nm.nl_mul (((Dn a b rs).take (k+1)).length*(2097152*(2*1048576))) (Ze (Dc rs)*(2*dn (Dn a b rs))*dn (Dn a b rs));have n2:=Nm.nl_mul (Ze (Dc rs)*(2*dn (Dn a b rs))) (dn (Dn a b rs));have n3:=Nm.nl_mul (Ze (Dc rs)) (2*dn (Dn a b rs));have n4:=Nm.nl_mul 2 (dn (Dn a b rs));have n5:Nm.nl 2<=1:=Nm.nl_le (by decide);have n6:Nm.nl (((Dn a b rs).take (k+1)).length*(2097152*(2*1048576)))<=2:=by
   refine Nm.nl_le ?_;have:((Dn a b rs).take (k+1)).length<=650:=by rw[dXX];omega
   have:=hXX (2097152*(2*1048576)) this;exact nZZ this (by decide)
  omega
 unfold part;rw[show Dn a b rs=[]from if_neg c];exact Av (show Nm.rl (0:Rat)<=1 from by decide+kernel) (by decide)
def vB (rule:Int)(rs:List Ai):Int:=if Fm rs=true then(if rule=1\/rule=2 then 0 else 2)else 12
def Gv (rule:Int)(a b:Int×Int)(rs:List Ai):Int:=if Fm rs=true then(if rule=1\/rule=2 then(if Dd a.1 a.2=true/\Dd b.1 b.2=true then 0 else 6)else 2)else 12
theorem Ro {rule:Int}{a b:Int×Int}{rs:List Ai}:Gv rule a b rs=0↔Fm rs=true/\(rule=1\/rule=2)/\Dd a.1 a.2=true/\Dd b.1 b.2=true:=by
  unfold Gv;by_cases h1:Fm rs=true<;>by_cases h2:rule=1\/rule=2<;>by_cases h3:Dd a.1 a.2=true/\Dd b.1 b.2=true<;>simp[h1,h2,h3]
def Nv (n:Int):Bool:=decide (n< -4096)||decide (4096<n)
def Bg (x y:Int):Int×Int:=if (Nv x||Nv y)=true then(1048577,0)else(x*256,y*256)
def Ix (x y:Int):Int×Int:=if Dd (Bg x y).1 (Bg x y).2=true then Bg (x+1) (y+1)else Bg x y
theorem aBP {rule:Int}{a b:Int×Int}{rs:List Ai}{y:Rat}{c:Nat}(hok:Fm rs=true)(ha:Du a)(hb:Du b)(h1:a.1<=b.1)(ht:Gx rs<=24)(hy:Nm.rl y<=c):Nm.rl (Iv rule a b rs y)<=c+30:=by
 have a2:=Bd ha;have b2:=Bd hb;have hE:Nm.nl (Ze (Dc rs))<=25:=by
  refine Av (jZ fun e he=> ?_) (by have:=Rt rs;omega);rw[Hu hok]at he;obtain⟨r,hr,h3,h4⟩:=Nl he;exact⟨Nh hok hr h3,Nh hok hr h4⟩
 have hd:Nm.nl y.den<=c:=Av (Nat.le_max_right _ _) hy;have k:=kV (rule:=rule) (a:=a) (b:=b) (rs:=rs) (Kd.den y);have A0:0<Ze (Dc rs)*y.den:=Nat.mul_pos (cD _) y.den_pos;have hr:=Kd.rl (M:=2097152) A0 k (Rat.le_trans (by decide+kernel) (Zv y)) (Rat.le_trans (kU h1 y) (by rw[<-Rat.intCast_sub];exact Rat.intCast_le_intCast.2 ω));refine Av hr ?_;have n1:=Nm.nl_mul 2097152 (Ze (Dc rs)*y.den);have n2:=Nm.nl_mul (Ze (Dc rs)) y.den;have n3:Nm.nl 2097152<=1:=Nm.nl_le (by decide);omega
theorem tF {p q:Rat}{c:Nat}(hp:Nm.rl p<=c)(hq:Nm.rl q<=c):Nm.rl ((p+q)/2)<=2*c+3:=by
  have h1:=Nm.rl_add p q;have h2:=Nm.rl_div (p+q) 2;have h3:Nm.rl (2:Rat)<=1:=by decide+kernel
  omega
theorem nR (rule:Int)(y:Rat){rs:List Ai}(h:Gx rs<=16):(La rule (El y rs)).length<=16:=by
  have h1:=nS rule (El y rs);have h2:=pN y rs;have h3:=Rt rs;omega
theorem yX (rule:Int)(a b:Int×Int)(rs:List Ai)(y:Rat):Dw (((a.1:Int)):Rat) (((b.1:Int)):Rat) (Ff (La rule (El y rs)))=Iv rule a b rs y:=by
  unfold Iv La;rw[eV]
end
section
attribute [local go_sem ↓] Go.wp_at_zero Go.wp_at_succ Ae Ad
theorem Wc (A:Option Addr)(cap:Nat)(rs:List Ai)(rule:Int)(k:Int)(w:World)(hu:Cv w (.slice A rs.length cap) rs)(hn:rs.length<=1048576)(hr:∀r,r∈rs->r.length<=1048576)(hk:vB rule rs=k):
  Calls prog 100 #[.slice A rs.length cap,iV rule] w fun e w'=>e= .returned (iV k)/\Aa w w':=by
 subst hk;have HU:=zH hu;have HN:=zH hn;have A0:=zH hr;clear hu hr;go_enter func100,ntmps100
 have H0:=zH (Hp.start w);go_upto_region 0 with fail;apply wl;apply zq (iV 0);rcases Cx (Fm rs=true)with HV|HV
 ·go_upto_region 1 with fail
  apply wl;refine Cn Af _ ?_;refine zc (Ci _ rs _ (HU.1.ext H0.1.ext) HN.1 A0.1) ?_;rintro e w4 ⟨rfl,hx⟩;have H5:=zH (H0.1.step hx);clear hx;refine⟨.bool true,by rw[HV.1],?_⟩;try simp only[ζ]
  refine Cc Af φ φ ?_;rcases Cx (rule=1)with H1|H1
  ·go_upto_region 3 with fail
   apply wl;apply zq (iV rule);apply zp φ (by exact Nw (e:=(Al (fun h_=>h_ H1.1))));refine Na Af φ _ _ φ φ ?_;go_upto_region 5 with fail;apply wl;apply zq (iV 0);go_wp2_with fail;go_ret;exact⟨by rw[show vB rule rs=0 from(if_pos HV.1).trans (if_pos (.inl H1.1))]<;>rfl,H5.1.ext⟩
  rcases Cx (rule=2)with H2|H2
  ·go_upto_region 3 with fail
   apply wl;apply zq (iV rule);apply zp τ (by exact Nw (e:=(An H1.1)));refine Cc Af τ (iV rule) ?_;apply zp φ (by exact Nw (e:=(Al (fun h_=>h_ H2.1))));refine Cc Af φ φ ?_;go_upto_region 5 with fail;apply wl;apply zq (iV 0);go_wp2_with fail;go_ret;exact⟨by rw[show vB rule rs=0 from(if_pos HV.1).trans (if_pos (.inr H2.1))]<;>rfl,H5.1.ext⟩
  go_upto_region 3 with fail;apply wl;apply zq (iV rule);apply zp τ (by exact Nw (e:=(An H1.1)));refine Cc Af τ (iV rule) ?_;apply zp τ (by exact Nw (e:=(An H2.1)));refine Cc Af τ τ ?_;go_upto_region 4 with fail;apply wl;apply zq (iV 2);go_wp2_with fail;go_ret;exact⟨by rw[show vB rule rs=2 from(if_pos HV.1).trans (if_neg (fun h_=>h_.elim H1.1 H2.1))]<;>rfl,H5.1.ext⟩
 go_upto_region 1 with fail;apply wl;refine Cn Af _ ?_;refine zc (Ci _ rs _ (HU.1.ext H0.1.ext) HN.1 A0.1) ?_;rintro e A2 ⟨rfl,hx⟩;have A1:=zH (H0.1.step hx);clear hx;refine⟨.bool false,by rw[Bool.eq_false_iff.2 HV.1],?_⟩;try simp only[ζ]
 apply qV τ;apply zq τ;go_upto_region 2 with fail;apply wl;apply zq (iV 12);go_wp2_with fail;go_ret;exact⟨by rw[show vB rule rs=12 from if_neg HV.1]<;>rfl,A1.1.ext⟩
end
section
open Go.RowKit Go.Maps
attribute [local go_sem ↓] Go.wp_at_zero Go.wp_at_succ
theorem aDV {n:Int}(h: -9223372036854775808<=n/\n<=9223372036854775807):bits .and .i64 n (-1)=n:=by
  show IntKind.i64.wrap (((BitVec.ofInt 64 n&&& BitVec.ofInt 64 (-1)).toNat:Nat):Int)=n;rw[show BitVec.ofInt 64 (-1)=BitVec.allOnes 64 from by decide,BitVec.and_allOnes,IntKind.wrap_i64,BitVec.toNat_ofInt];omega
theorem aES (n:Int):bits .and .i64 n 1=n%2:=by
  show IntKind.i64.wrap (((BitVec.ofInt 64 n&&& BitVec.ofInt 64 1).toNat:Nat):Int)=n%2;rw[BitVec.toNat_and,show(BitVec.ofInt 64 1).toNat=1 from by decide,Nat.and_one_is_mod,IntKind.wrap_i64,BitVec.toNat_ofInt];omega
theorem aET (n:Int):bits .and .i64 n 0=0:=by
  show IntKind.i64.wrap (((BitVec.ofInt 64 n&&& BitVec.ofInt 64 0).toNat:Nat):Int)=0;rw[show BitVec.ofInt 64 0=0#64 from by decide,BitVec.and_zero,IntKind.wrap_i64];decide
section
variable {H:Type} {P:Program} {w:World} {ops:Array Oper} {rest:List Oper} {op:Oper} {a:Act} {Q:Exit->Act->World->Prop}
theorem Yo (hw:Region.wanted op (yielded ops a.tmps)=true)(m x v:Operand)(t:TypeId)(hop:op.op= .insert t m x v)
  (k e:TypeId)(K:Keyed P k)(ht:P.underlying t=some (.map k e))(R:Value->Option (DataW H×List MemPlace))(b n:Nat)(D:DataW H)
  (hm:a.eval m= .map (some b))(hown:w.ownsMap P k R b n D)(hn:n<maxLen)(key val:Value)(kl:Lit)(hx:a.eval x=key)(hv:a.eval v=val)(hkey:keyOf P k key=some kl)
  (d:DataW H)(ps:List MemPlace)(hval:R val=some (d,ps))
  (h:∀w',w'.ownsMap P k R b (n+1) (D.put kl d)->w.grownBy w' (some b)->wpList P ops Q rest (a.put op.dst undef) w'):wpList P ops Q (op::rest) a w:=by
 obtain⟨w',A0,r1,r2⟩:=hown.update K ht hn hkey hval;refine Ck hw ?_;unfold Oper.wp execOp;simp only[hop];simp[hm,hx,hv,A0,Result.andThen];exact h _ r1 r2
theorem pE (hw:Region.wanted op (yielded ops a.tmps)=true)(m x:Operand)(t:TypeId)(hop:op.op=Op.lookup t m x false)
  (k e:TypeId)(q:IntKind)(K:Keyed P k)(ht:P.underlying t=some (.map k e))(he:P.underlying e=some (.int q))(hz:(zeroValue e).run P w= .ok (.int q 0) w)(b n:Nat)(D:DataW H)
  (hm:a.eval m= .map (some b))(hown:w.ownsMap P k (plainElem P e) b n D)(key:Value)(kl:Lit)(hx:a.eval x=key)(hkey:keyOf P k key=some kl)
  (h:∀c:Int,D.atKey kl (.lit (.int q 0))= .lit (.int q c)->wpList P ops Q rest (a.put op.dst (.int q c)) w):wpList P ops Q (op::rest) a w:=by
 obtain⟨c,A0,A1,_⟩:=hown.lookup_int K ht he hz hkey;refine Ck hw ?_;unfold Oper.wp execOp;simp only[hop];simp[hm,hx,A0,Result.andThen];exact h c A1
end
def gP:DataW Unit:=((DataW.map []).put (.int .i64 1) (.lit (.int .i64 (-1)))).put (.int .i64 2) (.lit (.int .i64 1))
theorem wD:gP= .map [(.int .i64 1,.lit (.int .i64 (-1))),(.int .i64 2,.lit (.int .i64 1))]:=by
  unfold gP DataW.put;simp[DataW.insert,Lit.sameKey,Lit.before]
theorem wE (r c:Int)(h:gP.atKey (.int .i64 r) (.lit (.int .i64 0))= .lit (.int .i64 c)):c=if r=1 then-1 else if r=2 then 1 else 0:=by
 rw[wD]at h;unfold DataW.atKey at h;by_cases h1:r=1
 ·subst h1
  rw[if_pos rfl];have h2:(DataW.lit (.int .i64 (-1)):DataW Unit)= .lit (.int .i64 c):=h;injection h2 with h2
  injection h2 with _ h2
  exact h2.symm
 by_cases h2:r=2
 ·subst h2
  rw[if_neg h1,if_pos rfl];have h2:(DataW.lit (.int .i64 1):DataW Unit)= .lit (.int .i64 c):=h;injection h2 with h2
  injection h2 with _ h2
  exact h2.symm
 have h3:¬(1=r):=fun k=>h1 k.symm
 have h4:¬(2=r):=fun k=>h2 k.symm
 simp[Lit.sameKey,h3,h4]at h;simp[h1,h2,h]
theorem Zc (n rule:Int)(w:World)(hn: -9223372036854775808<=n/\n<=9223372036854775807)(hr: -9223372036854775808<=rule/\rule<=9223372036854775807):
  Calls prog 138 #[.int .i64 n,.int .i64 rule] w fun e w'=>e= .returned (.bool (Jm n rule))/\Aa w w':=by
 have K:Keyed prog 3:=int_keyed underlying3;have A1:∀z:Int,-9223372036854775808<=z/\z<=9223372036854775807->(Lit.int .i64 z).wf=true:=fun z h=>by
  have A2:IntKind.i64.min= -9223372036854775808:=rfl;have A3:IntKind.i64.max=9223372036854775807:=rfl;simp only[Lit.wf,hZZ,decide_eq_true_eq];omega
 have HK:=zH K;have HW:=zH A1;have HN:=zH hn;have A4:=zH hr;clear K A1 hn hr;go_enter func138,ntmps138
 go_upto_region 1 with fail;refine wp_region_lit ?_;refine zp (w':=w.alloc (.map #[] 0)) (.map (some w.heap.size)) (by have A5:= @run_makeMap prog;go_simp) ?_;refine Yo (H:=Unit) (by rfl) _ _ _ _ (by rfl) 3 3 HK.1 underlying183 (plainElem prog 3) w.heap.size 0 (.map []) (by rfl) (World.ownsMap_made w _ _ _) (by unfold maxLen;decide) (.int .i64 1) (.int .i64 (-1)) (.int .i64 1) (by rfl) (by rfl) (keyOf_int_mk underlying3 (HW.1 1 (by decide))) (.lit (.int .i64 (-1))) [] (plainElem_int underlying3 (HW.1 (-1) (by decide))) ?_;intro w1 o1 g1
 (try simp only[Act.put])
 refine Yo (H:=Unit) (by rfl) _ _ _ _ (by rfl) 3 3 HK.1 underlying183 (plainElem prog 3) w.heap.size 1 _ (by rfl) o1 (by unfold maxLen;decide) (.int .i64 2) (.int .i64 1) (.int .i64 2) (by rfl) (by rfl) (keyOf_int_mk underlying3 (HW.1 2 (by decide))) (.lit (.int .i64 1)) [] (plainElem_int underlying3 (HW.1 1 (by decide))) ?_;intro w2 o2 g2
 (try simp only[Act.put])
 have HX:=zH (show Aa w w2 from(((Aa.refl w).alloc (.map #[] 0)).grown g1 (fun k hk=>by injection hk with hk;omega)).grown g2 (fun k hk=>by injection hk with hk;omega));have HO:=zH (show w2.ownsMap prog 3 (plainElem prog 3) w.heap.size 2 gP from o2);clear o1 g1 o2 g2;refine zp (w':=w2) (.map (some w.heap.size)) (by go_simp) ?_;refine zp (w':=w2) (.map (some w.heap.size)) (by go_simp) ?_;go_upto_region 2 with fail
 refine wp_region_lit ?_;refine zp (w':=w2) (.int .i64 n) (by go_simp) ?_;refine zp (w':=w2) (.map (some w.heap.size)) (by go_simp) ?_;refine zp (w':=w2) (.int .i64 rule) (by go_simp) ?_;refine pE (H:=Unit) (by rfl) _ _ _ (by rfl) 3 3 .i64 HK.1 underlying183 underlying3 (Tryz.zeroValue3 _) w.heap.size 2 gP (by rfl) HO.1 (.int .i64 rule) (.int .i64 rule) (by rfl) (keyOf_int_mk underlying3 (HW.1 rule A4.1)) ?_;intro c hc;have A0:=wE rule c hc;have hb:(bits .and .i64 n c != 0)=Jm n rule:=by
  unfold Jm;by_cases h1:rule=1
  ·subst h1
   rw[A0,if_pos rfl,aDV HN.1];by_cases h0:n=0<;>simp[h0]
  by_cases h2:rule=2
  ·subst h2
   rw[A0,if_neg h1,if_pos rfl,aES];by_cases h0:n%2=0<;>simp[h0]
  rw[A0,if_neg h1,if_neg h2,aET];simp[h1,h2]
 have HB:=zH hb;clear hc A0 hb;try simp only[ζ]
 go_wp2_with fail;go_ret;exact⟨by rw[<-HB.1];rfl,HX.1⟩
end
end Go.Proofs.YtlipfipniibpoabGreat
