/- Contracts that the claim stands on: XDrawn to XArB. -/
import Derived.Test.YtngikkggjidenabGreatProg
import Derived.Calls
import Derived.Shelf.SlSortCmp.NoneTotal
import Derived.Sort.CutIn
import Derived.Sort.LoopGhostIn
import Derived.Test.YtngikkggjidenabGreatM5
set_option maxRecDepth 100000
set_option maxHeartbeats 4000000
namespace Go.Proofs.YtngikkggjidenabGreat
def worldOf {α:Type}:Result α->World
  | .ok _ w=>w
  | .halt _ w=>w
theorem ask_drawn {α:Type}(x:Ask α):∀w:World,w.drawn<=(w.ask x).2.drawn:=by
  induction x with
  |done a=>intro w;exact Nat.le_refl _
  | ask what range k ih=>
    intro w;simp only[World.ask];split
    · exact ih _ w
    exact Nat.le_trans (Nat.le_succ _) (ih _ {w with drawn:=w.drawn+1})
theorem sys_drawn (w:World)(c:Sys):w.drawn<=(w.sys c).2.drawn:=by
  have h:=ask_drawn (Kernel.perform c w.os) w;unfold World.sys;split
  · exact Nat.le_refl _
  rename_i h1;rw[h1]at h;exact h
theorem viewStore_drawn {p:Program}{w:World}{a:Addr}{u:TypeId}{k:Addr}{v:Value}{b:Bool}{r:World×List Addr}(h:w.viewStore p a u k v b= .ok r):r.1.drawn=w.drawn:=by
  unfold World.viewStore at h;simp only[bind,Except.bind,pure,Except.pure]at h;repeat' split at h
  all_goals first|(cases h;rfl)|(cases h)
theorem farStore_drawn {p:Program}{w:World}{a:Addr}{v:Value}{b:Bool}{r:World×List Addr}(h:w.farStore p a v b= .ok r):r.1.drawn=w.drawn:=by
  unfold World.farStore at h;split at h
  · split at h
    · rename_i h2
      cases h;exact viewStore_drawn h2
    cases h
  cases h
theorem run_drawn {α:Type}(p:Program)(s:Sem α):∀w:World,w.drawn<=(worldOf (s.run p w)).drawn:=by
  induction s with
  |pure a=>intro w;exact Nat.le_refl _
  | load m a k ih=>
    intro w;unfold Sem.run;split
    · exact ih _ w
    split
    · exact ih _ w
    exact Nat.le_refl _
  | store m a v k ih=>
    intro w;cases v<;>simp only[Sem.run]<;>first
      |exact Nat.le_refl _
      | (split
         · split
           · exact Nat.le_refl _
           exact ih (w.setCell a _)
         split
         · rename_i h;have e:=farStore_drawn h;rw[<-e];exact ih _
         exact Nat.le_refl _)
  |new o k ih=>intro w;exact ih _ {w with heap:=w.heap.push o}
  |shape r k ih=>intro w;exact ih _ w
  | freeze a n k ih=>
    intro w;have h:=ih (w.freeze a n);have e:(w.freeze a n).drawn=w.drawn:=by unfold World.freeze;split<;>rfl
    rw[e]at h;exact h
  |frozen a k ih=>intro w;exact ih _ w
  | getObj r k ih=>
    intro w;unfold Sem.run;split
    · exact Nat.le_refl _
    · exact ih _ w
    exact Nat.le_refl _
  | setObj r o k ih=>
    intro w;unfold Sem.run;split
    · exact Nat.le_refl _
    · exact ih {w with heap:=w.heap.setIfInBounds r o}
    exact Nat.le_refl _
  | choose q k ih=>
    intro w;unfold Sem.run;split
    · exact ih _ w
    exact Nat.le_trans (Nat.le_succ _) (ih _ {w with drawn:=w.drawn+1})
  |sys c k ih=>intro w;exact Nat.le_trans (sys_drawn w c) (ih _ _)
  |program k ih=>intro w;exact ih _ w
  |mark m k ih=>intro w;exact ih w
  |halt h=>intro w;exact Nat.le_refl _
theorem runT_drawn {α:Type}(p:Program)(s:Sem α):∀(w:World) (es:Array Event),w.drawn<=(worldOf (s.runT p w es).1).drawn:=by
  induction s with
  |pure a=>intro w es;exact Nat.le_refl _
  | load m a k ih=>
    intro w es;unfold Sem.runT;split
    · exact ih _ w _
    split
    · exact ih _ w _
    exact Nat.le_refl _
  | store m a v k ih=>
    intro w es;cases v<;>simp only[Sem.runT]<;>first
      |exact Nat.le_refl _
      | (split
         · split
           · exact Nat.le_refl _
           exact ih (w.setCell a _) _
         split
         · rename_i h;have e:=farStore_drawn h;rw[<-e];exact ih _ _
         exact Nat.le_refl _)
  |new o k ih=>intro w es;exact ih _ {w with heap:=w.heap.push o} _
  |shape r k ih=>intro w es;exact ih _ w _
  | freeze a n k ih=>
    intro w es;have h:=ih (w.freeze a n) es;have e:(w.freeze a n).drawn=w.drawn:=by unfold World.freeze;split<;>rfl
    rw[e]at h;exact h
  |frozen a k ih=>intro w es;exact ih _ w _
  | getObj r k ih=>
    intro w es;unfold Sem.runT;split
    · exact Nat.le_refl _
    · exact ih _ w _
    exact Nat.le_refl _
  | setObj r o k ih=>
    intro w es;unfold Sem.runT;split
    · exact Nat.le_refl _
    · exact ih {w with heap:=w.heap.setIfInBounds r o} _
    exact Nat.le_refl _
  | choose q k ih=>
    intro w es;unfold Sem.runT;split
    · exact ih _ w _
    exact Nat.le_trans (Nat.le_succ _) (ih _ {w with drawn:=w.drawn+1} _)
  |sys c k ih=>intro w es;exact Nat.le_trans (sys_drawn w c) (ih _ _ _)
  |program k ih=>intro w es;exact ih _ w _
  |mark m k ih=>intro w es;exact ih w _
  |halt h=>intro w es;exact Nat.le_refl _
theorem run_ok {α:Type}{p:Program}{s:Sem α}{w w':World}{a:α}(h:s.run p w= .ok a w'):w.drawn<=w'.drawn:=by
  have h2:=run_drawn p s w;rw[h]at h2;exact h2
theorem run_halt {α:Type}{p:Program}{s:Sem α}{w w':World}{a:Halt}(h:s.run p w= .halt a w'):w.drawn<=w'.drawn:=by
  have h2:=run_drawn p s w;rw[h]at h2;exact h2
theorem runT_ok {α:Type}{p:Program}{s:Sem α}{w w':World}{a:α}{es es':Array Event}(h:s.runT p w es=(.ok a w',es')):w.drawn<=w'.drawn:=by
  have h2:=runT_drawn p s w es;rw[h]at h2;exact h2
theorem runT_halt {α:Type}{p:Program}{s:Sem α}{w w':World}{a:Halt}{es es':Array Event}(h:s.runT p w es=(.halt a w',es')):w.drawn<=w'.drawn:=by
  have h2:=runT_drawn p s w es;rw[h]at h2;exact h2
def gGe (d:Nat):GStep->Prop
  | .go _ w _=>d<=w.drawn
  | .comm _ _ _ _ w _=>d<=w.drawn
  | .spawn _ _ w _=>d<=w.drawn
  | .count _ w _=>d<=w.drawn
  | .timer _ _ w _=>d<=w.drawn
  | .alone _ _ w _=>d<=w.drawn
  | .newcoro _ _ _ w _=>d<=w.drawn
  | .coroswitch _ _ _ w _=>d<=w.drawn
  | .collect _ w _=>d<=w.drawn
  | .watch _ w _=>d<=w.drawn
  | .ended .. =>True
theorem after_ge {d:Nat}{es:Array Event}{g:GStep}:gGe d (GStep.after es g)=gGe d g:=by cases g<;>rfl
theorem ite_ge {c:Prop}[Decidable c]{a b:GStep}{d:Nat}(h1:gGe d a)(h2:gGe d b):gGe d (if c then a else b):=by
  split
  · exact h1
  exact h2
theorem endWith_ge (d:Nat)(w:World)(n:Nat)(t:ByteArray)(o:Outcome):gGe d (endWith w n t o):=by
  unfold endWith;dsimp only
  repeat' split
  all_goals exact True.intro
theorem endPrinting_ge {d:Nat}{p:Program}{fr:Frame}{v:Value}{w:World}(h:d<=w.drawn):gGe d (endPrinting p fr v w):=by
  unfold endPrinting;dsimp only
  split
  · exact h
  exact True.intro
theorem endFatal_ge {d:Nat}{p:Program}{fr:Frame}{cs:List Frame}{dy:Option Dying}{m:String}{w:World}(h:d<=w.drawn):gGe d (endFatal p fr cs dy m w):=by
  unfold endFatal;dsimp only
  split
  · rename_i h1
    exact Nat.le_trans h (run_ok h1)
  · exact True.intro
  exact True.intro
theorem doReturn_ge {d:Nat}{p:Program}{b:Bool}{fr:Frame}{cs:List Frame}{dy:Option Dying}{v:Value}{w:World}(h:d<=w.drawn):gGe d (doReturn p b fr cs dy v w):=by
  unfold doReturn;repeat' split
  all_goals first|exact h|exact True.intro
theorem callDeferred_ge {p:Program}{fr:Frame}{cs:List Frame}{dy:Option Dying}{d:Deferred}{w:World}:gGe w.drawn (callDeferred p fr cs dy d w):=by
  unfold callDeferred;refine ite_ge True.intro ?_
  · have h:=runT_drawn p (invoke d.target d.args) w #[]
    generalize (invoke d.target d.args).runT p w #[]=q at h
    obtain⟨r,es⟩:=q;dsimp only
    rw[after_ge];repeat' split
    all_goals first|exact h|exact True.intro|exact endFatal_ge h
theorem unwind_ge {p:Program}{b:Bool}{fr:Frame}{cs:List Frame}{dy:Option Dying}{w:World}:gGe w.drawn (unwind p b fr cs dy w):=by
  unfold unwind;split
  · rename_i block _ _ _
    have h:=runT_drawn p (Instr.takeDeferred block) w #[];generalize (Instr.takeDeferred block).runT p w #[]=q at h
    obtain⟨r,es⟩:=q;dsimp only
    rw[after_ge];split
    · exact h
    exact True.intro
  · exact callDeferred_ge
  split
  · exact True.intro
  · split
    · exact True.intro
    split
    · exact Nat.le_refl _
    split
    · split
      · exact Nat.le_refl _
      split
      · rename_i h1
        exact run_ok h1
      · exact True.intro
      exact True.intro
    split
    · exact endPrinting_ge (Nat.le_refl _)
    exact True.intro
  split
  · exact doReturn_ge (Nat.le_refl _)
  rename_i fn _;have h:=runT_drawn p (results fn fr.tmps) w #[];generalize (results fn fr.tmps).runT p w #[]=q at h
  obtain⟨r,es⟩:=q;dsimp only
  rw[after_ge];split
  · exact doReturn_ge h
  · exact True.intro
  exact True.intro
theorem writeOn_ge {p:Program}{fr:Frame}{d:Dying}{f:Fatal}{w:World}:gGe w.drawn (writeOn p fr d f w):=by
  unfold writeOn;dsimp only
  split
  · exact True.intro
  split<;>rename_i h1<;>first|exact True.intro|exact runT_ok h1|exact runT_halt h1
theorem die_ge {p:Program}{fr:Frame}{d:Dying}{w:World}:gGe w.drawn (die p fr d w):=by
  unfold die;split
  · exact writeOn_ge
  split
  · split
    · exact Nat.le_refl _
    exact endWith_ge _ _ _ _ _
  dsimp only
  split
  · exact Nat.le_refl _
  · split
    · rename_i h1
      exact run_ok h1
    exact True.intro
  · rename_i t recv name _
    have h:=runT_drawn p (invoke (.fn (.method name) #[]) #[.iface t recv]) w #[];generalize (invoke (.fn (.method name) #[]) #[.iface t recv]).runT p w #[]=q at h
    obtain⟨r,es⟩:=q;dsimp only
    rw[after_ge];split;all_goals first|exact h|exact True.intro|exact endPrinting_ge h
  exact True.intro
theorem early_ge {p:Program}{fr:Frame}{cs:List Frame}{dy:Option Dying}{g d:Nat}{w:World}(h:d<=w.drawn):gGe d (early p fr cs dy g w):=by
  have hn:∀w:World,d<=w.drawn->gGe d (match w.heap[g]?with
    |some (.pending c elem)=>GStep.go {frame:=fr,callers:=cs,status:= .running,dying:=dy} {w with heap:=w.heap.setIfInBounds g (.cells c elem)}
    |_=> .ended (.stuck "early: the variable does not wait" (fr.pos p)) w):=by
    intro w hw;split
    · exact hw
    exact True.intro
  unfold early;dsimp only
  refine ite_ge (hn w h) ?_;split
  · exact True.intro
  refine ite_ge (hn w h) (ite_ge (hn w h) ?_);split
  · exact True.intro
  · exact h
  · exact True.intro
  · exact hn w h
  refine ite_ge h (ite_ge (hn w h) ?_);split
  · rename_i h1;exact hn _ (Nat.le_trans h (run_ok h1))
  · rename_i h1;exact Nat.le_trans h (run_ok h1)
  exact True.intro
theorem apply_ge {p:Program}{l:Bool}{fr:Frame}{cs:List Frame}{dy:Option Dying}{s:Sem Next}{w:World}:gGe w.drawn (stepG.apply p l fr cs dy s w):=by
  unfold stepG.apply;dsimp only
  generalize hq:(if l=true then s.runT p w #[]else(s.run p w,#[]))=q
  have h:w.drawn<=(worldOf q.1).drawn:=by
    subst hq;split
    · exact runT_drawn p s w #[]
    exact run_drawn p s w
  obtain⟨r,es⟩:=q;dsimp only
  rw[after_ge];cases r with
  | ok v w1=>
    have h:w.drawn<=w1.drawn:=h;cases v;all_goals (try dsimp only)
    all_goals (repeat' split)
    all_goals first|exact h|exact True.intro
  | halt v w1=>
    have h:w.drawn<=w1.drawn:=h;cases v with
    | unsupported u=>
      cases u with
      |initOrder g=>exact early_ge h
      |_=>exact True.intro
    |fatal m=>exact endFatal_ge h
    |_=>first|exact h|exact True.intro
theorem oper_ge {p:Program}{l:Bool}{fr:Frame}{cs:List Frame}{dy:Option Dying}{w:World}:gGe w.drawn (stepG.oper p l fr cs dy w):=by
  unfold stepG.oper;split
  · exact True.intro
  split
  · exact apply_ge
  exact apply_ge
theorem elim_ge {α:Type}{o:Option α}{a:GStep}{f:α->GStep}{d:Nat}(h1:gGe d a)(h2:∀x,gGe d (f x)):gGe d (o.elim a f):=by
  cases o with
  |none=>exact h1
  |some x=>exact h2 x
theorem Ge_mono {d e:Nat}{g:GStep}(h:d<=e)(hg:gGe e g):gGe d g:=by
  cases g<;>first|exact Nat.le_trans h hg|exact True.intro
theorem runT_okF {α:Type}{p:Program}{s:Sem α}{w w':World}{a:α}{es:Array Event}(h:(s.runT p w es).1= .ok a w'):w.drawn<=w'.drawn:=by
  have h2:=runT_drawn p s w es;rw[h]at h2;exact h2
theorem runT_haltF {α:Type}{p:Program}{s:Sem α}{w w':World}{a:Halt}{es:Array Event}(h:(s.runT p w es).1= .halt a w'):w.drawn<=w'.drawn:=by
  have h2:=runT_drawn p s w es;rw[h]at h2;exact h2
theorem exec_ge {p:Program}{b l:Bool}{fr:Frame}{cs:List Frame}{dy:Option Dying}{w:World}:gGe w.drawn (stepG.exec p b l fr cs dy w):=by
  have hl:∀(jump:Option Code) (ok:Bool),gGe w.drawn (match fr.roundOf with
      |none=>if ok=true then GStep.go {frame:={fr with mode:= .returning},callers:=cs,status:= .running,dying:=dy} w else .ended (.stuck "exit, goto: no such block or label" (fr.pos p)) w
      | some l=>
        let (r,es):=(Instr.endRound l jump).runT p w #[]
        GStep.after (seen p fr.fn es)<|match r with
        | .ok v w=>doReturn p b fr cs dy v w
        | .halt _ w=> .ended (.stuck "range over a function: no such loop" (fr.pos p)) w):=by
    intro jump ok;split
    · refine ite_ge (Nat.le_refl _) True.intro
    split;rename_i h1;rw[after_ge];split
    · exact doReturn_ge (runT_ok h1)
    exact True.intro
  unfold stepG.exec;dsimp only
  split;all_goals first|exact hl _ _|exact Nat.le_refl _|exact True.intro|exact apply_ge|exact elim_ge (hl _ _) (fun _=>Nat.le_refl _)|exact elim_ge True.intro (fun _=>apply_ge)|skip
  all_goals (try rw[after_ge])
  all_goals (repeat' split)
  all_goals first|exact Nat.le_refl _|exact True.intro|exact oper_ge|(rename_i h1;first|exact runT_okF h1|exact runT_haltF h1|exact run_ok h1|exact Ge_mono (runT_okF h1) apply_ge)
theorem stepG_ge {p:Program}{b l:Bool}{g:Goroutine}{w:World}:gGe w.drawn (stepG p b g w l):=by
  unfold stepG;dsimp only
  split
  · exact die_ge
  · exact exec_ge
  exact unwind_ge
def sGe (d:Nat):Stepped->Prop
  | .next m=>d<=m.world.drawn
  | .ended .. =>True
theorem ite_sg {β:Type}{c:Prop}[Decidable c]{a b:Stepped×β}{d:Nat}(h1:sGe d (a.1))(h2:sGe d (b.1)):sGe d ((if c then a else b).1):=by
  split
  · exact h1
  exact h2
theorem communicate_ge {p:Program}{rest:Rest}{gs:Array Goroutine}{i:Nat}{g:Goroutine}{cases:Array CommCase}{b:Bool}{sh:CommShape}{w:World}:sGe w.drawn ((communicate p rest gs i g cases b sh w).1):=by
  unfold communicate;dsimp only
  refine ite_sg True.intro (ite_sg (ite_sg ?_ ?_) ?_)
  · split
    · rename_i h1
      unfold waitingAt at h1;split at h1
      · split at h1
        · cases h1;exact Nat.le_refl _
        cases h1
      cases h1;exact Nat.le_refl _
    exact True.intro
  · exact Nat.le_refl _
  split
  · exact True.intro
  rename_i h1;have h:=run_ok h1;repeat' split
  all_goals first|exact h|exact True.intro|exact Nat.le_trans h (run_halt (by assumption))|(rename Sem.run p (choose _) _=Result.ok _ _=>h9;have h10:=run_ok h9;exact Nat.le_trans h h10)
theorem look_ge {p:Program}{rest:Rest}{gs:Array Goroutine}{w:World}:sGe w.drawn (look p gs rest w):=by
  unfold look;dsimp only
  repeat' split
  all_goals first|exact True.intro|(rename Sem.run p _ w=Result.ok _ _=>h9;have h10:=run_ok h9;exact h10)
theorem drain_drawn (w:World)(c:Nat):(drain w c).2.drawn=w.drawn:=by
  unfold drain;split<;>rfl
theorem retime_drawn (m:Machine)(k:Nat)(t:Timer)(a b:Nat):(retime m k t a b).2.world.drawn=m.world.drawn:=by
  unfold retime;dsimp only
  split
  · exact drain_drawn _ _
  rfl
theorem named_drawn {m m':Machine}{var:Addr}{f:Nat->Timer->Value×Machine}{v:Value}{d:Nat}(hf:∀k t,(f k t).2.world.drawn=d)(h:timerOp.named m var f= .ok (v,m')):m'.world.drawn=d:=by
  unfold timerOp.named at h;split at h
  · rename_i k _
    have e:=hf k (m.rest.timers.getD k default);injection h with h
    rw[h]at e;exact e
  cases h
theorem timerOp_ge {m m':Machine}{op:TimerOp}{v:Value}(h:timerOp m op= .ok (v,m')):m'.world.drawn=m.world.drawn:=by
  cases op with
  | new t=>
    simp only[timerOp]at h;split at h
    · cases h;rfl
    split at h
    · split at h
      · cases h
      cases h;rfl
    cases h
  |stop var=>exact named_drawn (fun k t=>retime_drawn m k t 0 t.period) h
  | reset var a b=>
    simp only[timerOp]at h;split at h
    · rename_i m2 h2
      have e:m2.world.drawn=m.world.drawn:=by
        unfold timerOp.opened at h2;split at h2
        · split at h2
          · cases h2;rfl
          cases h2
        cases h2;rfl
      exact named_drawn (fun k t=>(retime_drawn m2 k t a b).trans e) h
    cases h
  | deadline ctx r w t=>
    simp only[timerOp]at h;cases h;rfl
theorem serve_ge {p:Program}{m:Machine}{k:Nat}:sGe m.world.drawn (serve p m k):=by
  unfold serve;split
  · exact True.intro
  · exact Nat.le_refl _
  dsimp only
  split
  · exact True.intro
  exact Nat.le_refl _
theorem runT_m {p:Program}{m:Machine}{i:Nat}{l:Bool}:sGe m.world.drawn ((Go.runT p m i l).1):=by
  unfold Go.runT;dsimp only
  generalize hs:stepG p (i==0) _ m.world l=s
  have h:gGe m.world.drawn s:=by rw[<-hs];exact stepG_ge
  cases s with
  | comm g c b sh w es=>
    have h:m.world.drawn<=w.drawn:=h;have hc:=communicate_ge (p:=p) (rest:=m.rest) (gs:=(m.gs.swapAt! i {(default:Goroutine)with status:= .finished}).2) (i:=i) (g:=g) (cases:=c) (b:=b) (sh:=sh) (w:=w);dsimp only
    revert hc
    generalize communicate p m.rest _ i g c b sh w=q
    intro hc;obtain⟨r,more⟩:=q;cases r with
    |next m2=>exact Nat.le_trans h hc
    |ended=>exact True.intro
  | collect g w es=>
    have h:m.world.drawn<=w.drawn:=h;have hc:=look_ge (p:=p) (gs:=(m.gs.swapAt! i {(default:Goroutine)with status:= .finished}).2.setIfInBounds i g) (rest:=m.rest) (w:=w);dsimp only
    revert hc
    generalize look p _ m.rest w=q
    intro hc;cases q with
    |next m2=>exact Nat.le_trans h hc
    |ended=>exact True.intro
  | timer g op w es=>
    have h:m.world.drawn<=w.drawn:=h;dsimp only
    split
    · rename_i h2
      have e:=timerOp_ge h2;exact Nat.le_trans h (Nat.le_of_eq e.symm)
    all_goals first|exact True.intro|exact h
  | coroswitch g c ex w es=>
    have h:m.world.drawn<=w.drawn:=h;dsimp only
    repeat' split
    all_goals first|exact h|exact True.intro|(rename endThrow _ _ _=GStep.go _ _ _=>h9;unfold endThrow dieOf at h9;cases h9;exact h)
  | count g w es=>
    have h:m.world.drawn<=w.drawn:=h;dsimp only
    split
    · exact True.intro
    exact h
  |_=>first|exact h|exact True.intro
def mGe (d:Nat):Move->Prop
  | .goroutine m _=>d<=m.world.drawn
  | .machine s _=>sGe d s
theorem ite_mg {c:Prop}[Decidable c]{a b:Move}{d:Nat}(h1:mGe d a)(h2:mGe d b):mGe d (if c then a else b):=by
  split
  · exact h1
  exact h2
theorem pick_ge {p:Program}{rs:List Nat}{d:Nat}(m:Machine)(h:d<=m.world.drawn):mGe d (match (choose (.sched rs.length)).run p m.world with
      | .halt _ w=>Move.machine (.ended (.stuck "sched" "") w)
      | .ok k world=>
        if rs.length<=1 then .goroutine {m with world} (rs.getD k 0)else
        match (choose (.extern "sched.slice" 65536)).run p world with
        | .halt _ w=> .machine (.ended (.stuck "sched.slice" "") w)
        | .ok n world=> .goroutine {m with world,rest:={m.rest with slice:=if n=0 then none else some (rs.getD k 0,n)}} (rs.getD k 0)):=by
  split
  · exact True.intro
  rename_i h1;have h2:=run_ok h1;refine ite_mg (Nat.le_trans h h2) ?_;split
  · exact True.intro
  rename_i h3;have h4:=run_ok h3;exact Nat.le_trans h (Nat.le_trans h2 h4)
theorem serve_mono {p:Program}{m:Machine}{k d:Nat}(h:d<=m.world.drawn):sGe d (serve p m k):=by
  have hs:=serve_ge (p:=p) (m:=m) (k:=k);generalize serve p m k=q at hs
  cases q with
  |next m2=>exact Nat.le_trans h hs
  |ended=>exact True.intro
theorem askOn_ge {p:Program}{m:Machine}:mGe m.world.drawn (askOn p m):=by
  unfold askOn;dsimp only
  split
  · exact True.intro
  rename_i w1 h1;have h2:=run_ok h1;refine ite_mg (serve_mono h2) ?_;split
  · split
    · exact h2
    refine ite_mg h2 ?_;split
    · exact True.intro
    exact True.intro
  split
  · exact pick_ge {m with world:=w1} h2
  split
  · exact True.intro
  · rename_i w3 h3
    have h4:=run_ok h3;exact pick_ge {m with world:=w3} (Nat.le_trans h2 h4)
  · rename_i h3
    have h4:=run_ok h3;exact Nat.le_trans h2 h4
  rename_i h3;have h4:=run_ok h3;exact pick_ge _ (Nat.le_trans h2 h4)
theorem askOn_mono {p:Program}{m:Machine}{d:Nat}(h:d<=m.world.drawn):mGe d (askOn p m):=by
  have hs:=askOn_ge (p:=p) (m:=m);generalize askOn p m=q at hs
  cases q with
  |goroutine m2 i=>exact Nat.le_trans h hs
  | machine s ops=>
    cases s with
    |next m2=>exact Nat.le_trans h hs
    |ended=>exact True.intro
theorem ask_ge {p:Program}{m:Machine}:mGe m.world.drawn (ask p m):=by
  unfold ask;refine ite_mg ?_ askOn_ge;split
  · exact True.intro
  · rename_i w1 h1
    have h2:=run_ok h1;have hl:=look_ge (p:=p) (gs:=m.gs) (rest:=m.rest) (w:=w1);generalize look p m.gs m.rest w1=q at hl
    cases q with
    |next m2=>exact askOn_mono (Nat.le_trans h2 hl)
    |ended=>exact True.intro
  rename_i w1 _ h1;have h2:=run_ok h1;exact askOn_mono (m:={m with world:=w1}) h2
theorem move_ge {p:Program}{m:Machine}:mGe m.world.drawn (move p m):=by
  unfold move;split
  · refine ite_mg (Nat.le_refl _) True.intro
  split
  · refine ite_mg (Nat.le_refl _) ask_ge
  exact ask_ge
theorem step_ge {p:Program}{m:Machine}:sGe m.world.drawn (step p m):=by
  unfold step stepT;have h:=move_ge (p:=p) (m:=m);generalize move p m=q at h
  cases q with
  | goroutine m2 i=>
    have h2:=runT_m (p:=p) (m:=m2) (i:=i) (l:=true);dsimp only
    generalize (Go.runT p m2 i true).1=r at h2
    cases r with
    |next m3=>exact Nat.le_trans h h2
    |ended=>exact True.intro
  |machine s ops=>exact h
theorem steps_drawn {p:Program}{m m':Machine}(h:Steps p m m'):m.world.drawn<=m'.world.drawn:=by
  obtain⟨n,h⟩:=h;induction n generalizing m with
  | zero=>
    simp only[runN]at h;injection h with h
    rw[h];exact Nat.le_refl _
  | succ n ih=>
    simp only[runN]at h;have hs:=step_ge (p:=p) (m:=m);generalize step p m=q at h hs
    cases q with
    |next m2=>exact Nat.le_trans hs (ih h)
    |ended=>cases h
theorem Calls.drawn {P:Program}{f:FuncId}{args:Array Value}{w:World}{R:Ending->World->Prop}(h:Calls P f args w R)(hr:∀e w',R e w'->∃v,e= .returned v):
    Calls P f args w fun e w'=>R e w'/\w.drawn<=w'.drawn:=by
  intro cs;obtain⟨e,w',fr,h1,h2,h3⟩:=h cs;refine⟨e,w',fr,⟨h1,?_⟩,h2,h3⟩;obtain⟨v,rfl⟩:=hr e w' h1;exact steps_drawn h2
end Go.Proofs.YtngikkggjidenabGreat
namespace Go.Proofs.YtngikkggjidenabGreat
open Go.RowKit Go.Shelf Go.Lib Go.Sort
theorem ext_grow {W W':World}(h:Ext W W')(hd:W.drawn<=W'.drawn):∃q os',W'=grow (W.drewN q) os':=by
 refine⟨W'.drawn-W.drawn,W'.heap.extract W.heap.size W'.heap.size,?_⟩;have e:W'.heap=W.heap++W'.heap.extract W.heap.size W'.heap.size:=by
  have hs:=h.size;apply Array.ext_getElem?;intro i;rw[Array.getElem?_append];by_cases hi:i<W.heap.size
  ·rw[if_pos hi]
   exact h.block i hi
  rw[if_neg hi,Array.getElem?_extract];have hmin:min W'.heap.size W'.heap.size-W.heap.size=W'.heap.size-W.heap.size:=by omega
  by_cases h2:i<W'.heap.size
  ·rw[if_pos (by omega)]
   congr 1;omega
  rw[if_neg (by omega),Array.getElem?_eq_none (by omega)]
 have h1:=h.os;have h2:=h.tape;have h3:=h.output;cases W' with
 |mk hp tp dr o ou=>
  simp only at e h1 h2 h3 hd;subst h1;subst h2;subst h3;simp only[grow,World.drewN];rw[<-e];congr 1;omega
section
variable {α:Type} {enc:α->List Value} {k:Nat}
theorem flat_get! [Inhabited α](hk:∀x,(enc x).length=k)(h0:0<k)(xs:List α)(j:Nat)(hj:j<xs.length*k):(xs.flatMap enc)[j]?=some ((enc xs.toArray[j/k]!)[j%k]!):=by
 have h1:j/k<xs.length:=Nat.div_lt_of_lt_mul (by rw[Nat.mul_comm];exact hj);have e1:xs[j/k]?=some xs.toArray[j/k]! :=by
  rw[getElem!_pos xs.toArray (j/k) (by simpa using h1),List.getElem?_eq_getElem h1];simp
 have h2:j%k<(enc xs.toArray[j/k]!).length:=by rw[hk];exact Nat.mod_lt _ h0
 have h3:=flat_get hk xs (j/k) _ e1 (j%k) _ (List.getElem?_eq_getElem h2);rw[Nat.mul_comm,Nat.div_add_mod]at h3;rw[h3,getElem!_pos (enc xs.toArray[j/k]!) (j%k) h2]
theorem holdsK_row [Inhabited α](hk:∀x,(enc x).length=k)(h0:0<k){w:World}{g:Nat}{T:TypeId}{xs:List α}{rest:List Value}(hb:Blk w g T (xs.flatMap enc++rest).toArray):HoldsK enc k w g 0 xs.toArray:=by
  intro j hj;have hj2:j<xs.length*k:=by simpa using hj
  refine⟨?_,hb.frozen _⟩;have hj3:j<xs.toArray.size*k:=by simpa using hj2
  rw[Nat.zero_add,hb.cell,List.getElem?_toArray,List.getElem?_append_left (by rw[flat_length hk];exact hj2),flat_get! hk h0 xs j hj2,get_flatK enc k _ j hj3];rfl
theorem own_sortWorldK [Inhabited α](w:World)(g off m:Nat)(dk:Array α)(os:Array Obj)(_hg:g<w.heap.size):Own g w (sortWorldK enc k w g off m dk os):=by
  have hs:(putRowK enc k (Sort.ahead w m) g off dk).heap.size=w.heap.size:=size_putRowK enc k _ _ _ _;refine⟨rfl,rfl,rfl,?_,fun i hi hne=> ?_⟩
  · unfold sortWorldK
    rw[size_grow,hs];exact Nat.le_add_right _ _
  unfold sortWorldK;rw[heap_grow_old _ _ (by rw[hs];exact hi)];show(w.heap.modify g _)[i]?=_;rw[Array.getElem?_modify,if_neg (fun e=>hne (by rw[e]))]
theorem blk_sortWorldK [Inhabited α](hk:∀x,(enc x).length=k)(h0:0<k){w:World}{g:Nat}{T:TypeId}{xs ys:List α}{rest:List Value}(hb:Blk w g T (xs.flatMap enc++rest).toArray)(hl:ys.length=xs.length)(m:Nat)(os:Array Obj):
  Blk (sortWorldK enc k w g 0 m ys.toArray os) g T (ys.flatMap enc++rest).toArray:=by
 have hg:=hb.lt;have hs:(putRowK enc k (Sort.ahead w m) g 0 ys.toArray).heap.size=w.heap.size:=size_putRowK enc k _ _ _ _;unfold sortWorldK Blk;rw[heap_grow_old _ _ (by rw[hs];exact hg)];show(w.heap.modify g (onCells (putCells id 0 (flatK enc k ys.toArray))))[g]?=_;have hb2:w.heap[g]?=some (.cells (xs.flatMap enc++rest).toArray T (0,0)):=hb;rw[Array.getElem?_modify,if_pos rfl,hb2];simp only[Option.map_some,onCells];congr 2;apply Array.ext_getElem?;intro j;unfold putCells;rw[Array.getElem?_mapIdx,List.getElem?_toArray,List.getElem?_toArray];have hsz:(flatK enc k ys.toArray).size=ys.length*k:=by simp
 have hfx:(xs.flatMap enc).length=xs.length*k:=flat_length hk xs;have hfy:(ys.flatMap enc).length=ys.length*k:=flat_length hk ys;by_cases hj:j<ys.length*k
 ·have hjx:j<(xs.flatMap enc).length:=by rw[hfx,<-hl];exact hj
  rw[List.getElem?_append_left hjx,List.getElem?_eq_getElem hjx,List.getElem?_append_left (by rw[hfy];exact hj),flat_get! hk h0 ys j hj];simp only[Option.map_some];rw[if_pos (by rw[hsz];omega),Nat.sub_zero,get_flatK enc k _ j (by simpa using hj)];rfl
 have hneg:¬(0<=j/\j<0+(flatK enc k ys.toArray).size):=by rw[hsz];omega
 have hjx:(xs.flatMap enc).length<=j:=by rw[hfx,<-hl];omega
 rw[List.getElem?_append_right hjx,List.getElem?_append_right (by rw[hfy];omega),hfx,hfy,hl];cases (rest[j-xs.length*k]?)with
 |none=>rfl
 |some v=>simp only[Option.map_some];rw[if_neg hneg]
end
/-- The row is sorted: a permutation of what it held, none of whose elements is less than one before it. -/
theorem sortN_any {ρ:Ren}(LL:SlLaysF0.n6 Tryz.prog ρ)(k:Nat)(h0:0<k)(aE:∀w,(isAgg (ρ.t 24)).run Tryz.prog w= .ok true w)(zE:∀w,(Go.sizeOf (ρ.t 24)).run Tryz.prog w= .ok k w){α:Type}(enc:α->List Value)(hk:∀x,(enc x).length=k)
  (h1:∀x,∀v∈enc x,v.oneCell'=true)(hu:∀x,NoUL (enc x))(Ok:World->α->Prop)(hOk:∀{w w' x},Ok w x->Dig w w'->Ok w' x)(cf:α->α->Int)
  (hO1:∀x,¬cf x x<0)(hO2:∀x y z,cf x y<0->cf y z<0->cf x z<0)(hO3:∀x y z,¬cf x y<0->¬cf y z<0->¬cf x z<0)(f:Nat)(eg:∀args w,(callFunc f args).run Tryz.prog w= .ok (.enter f args) w)
  (hcmp:∀w x y,Ok w x->Ok w y->Calls Tryz.prog f #[.agg (enc x).toArray,.agg (enc y).toArray] w fun e w'=>e= .returned (.int .i64 (cf x y))/\Ext w w')
  (v:Value)(es:List α)(base:Nat)(T:TypeId)(w:World)(h:RowN w base T k v es.length (es.flatMap enc))(hok:∀e,e∈es->Ok w e)(hn:es.length<4611686018427387904):
  Calls Tryz.prog (ρ.f 6) #[v,.func (.func f) #[] #[]] w fun e w'=>e= .returned (.tuple #[])/\
   ∃es':List α,es'.Perm es/\es'.Pairwise (fun x y=>¬cf y x<0)/\RowN w' base T k v es'.length (es'.flatMap enc)/\w.grownBy w' v.ownBlock/\Dig w w':=by
 cases es with
 |nil=>
  obtain⟨A,c,rfl,_⟩:=RowN.form h;refine(AnyF.slices_SortFunc_none LL A c _ w).mono ?_;rintro e w' ⟨rfl,rfl⟩;exact⟨rfl,[],.refl _,.nil,h,World.grownBy.refl _ _,Dig.refl _⟩
 |cons e0 es0=>
  rcases h.2 with⟨_,hn0⟩|⟨g,cap,rest,rfl,hb,hg,hc1,hc2,hc3,hc4⟩
  ·simp at hn0
  have hxs:∃xs:List {e:α//Ok w e},xs.map Subtype.val=e0::es0:=by
   clear h hg hc1 hc3 hn hc4;generalize e0::es0=es at hok
   induction es with
   |nil=>exact⟨[],rfl⟩
   |cons e es ih=>
    obtain⟨xs,hx⟩:=ih (fun f hf=>hok f (by simp[hf]));exact⟨⟨e,hok e (by simp)⟩::xs,by rw[List.map_cons,hx]⟩
  obtain⟨xs,hxs⟩:=hxs;haveI:Inhabited {e:α//Ok w e}:=⟨⟨e0,hok e0 (by simp)⟩⟩
  have hfm:∀ys:List {e:α//Ok w e},ys.flatMap (fun x=>enc x.1)=(ys.map Subtype.val).flatMap enc:=fun ys=>by rw[List.flatMap_map]
  have hlen:xs.length=(e0::es0).length:=by rw[<-hxs,List.length_map]
  rw[<-hxs,<-hfm]at hg hc3 hc4;rw[<-hlen]at hn h hc1⊢;have hk':∀x: {e:α//Ok w e},(enc x.1).length=k:=fun x=>hk x.1
  have hswo:SWO (ltOf (fun x y: {e:α//Ok w e}=>cf x.1 y.1)):=
   ⟨fun x=>decide_eq_false (hO1 x.1),fun x y z a b=>decide_eq_true (hO2 x.1 y.1 z.1 (of_decide_eq_true a) (of_decide_eq_true b)),fun x y z a b=>decide_eq_false (hO3 x.1 y.1 z.1 (of_decide_eq_false a) (of_decide_eq_false b))⟩
  have hdig:∀(m:Nat) (os:Array Obj) (dk:Array {e:α//Ok w e}),Dig w (sortWorldK (fun x=>enc x.1) k w g 0 m dk os):=fun m os dk=>
   Dig.of_own hg hc4.arr (own_sortWorldK w g 0 m dk os hg.lt)
  have hlays:CmpLays Tryz.prog f #[] (fun x: {e:α//Ok w e}=>enc x.1) k (fun x y=>cf x.1 y.1) g 0 xs.toArray.size w:=by
   intro m os dk _ x y;have hd:=hdig m os dk;revert hd
   generalize sortWorldK (fun x: {e:α//Ok w e}=>enc x.1) k w g 0 m dk os=W
   intro hd;have hx:Ok W x.1:=hOk (w:=w) (w':=W) (x:=x.1) x.2 hd;have hy:Ok W y.1:=hOk (w:=w) (w':=W) (x:=y.1) y.2 hd;have hc:=Calls.drawn (hcmp W x.1 y.1 hx hy) (fun e w' he=>⟨_,he.1⟩);rw[Array.append_empty];exact hc.mono fun e w' he=>⟨he.1.1,ext_grow he.1.2 he.2⟩
  have hH:HoldsK (fun x: {e:α//Ok w e}=>enc x.1) k w g 0 xs.toArray:=holdsK_row (enc:=fun x: {e:α//Ok w e}=>enc x.1) hk' h0 (xs:=xs) (T:=T) (rest:=rest) hg;have hsz:xs.toArray.size<4611686018427387904:=by simpa using hn
  have hS:=AnyQ.slices_SortFunc LL k aE zE (fun x: {e:α//Ok w e}=>enc x.1) hk' (fun x=>h1 x.1) (fun x y=>cf x.1 y.1) hswo f #[] g 0 cap xs.toArray w eg hlays hH hg.lt hsz;rw[List.size_toArray]at hS;refine hS.mono ?_;rintro e w' ⟨rfl,d',n,os,hp,hs,rfl⟩;obtain⟨hp1,_,hp3⟩:=hp;have hl:d'.toList.length=xs.length:=by simpa using hp1
  have hperm:d'.toList.Perm xs:=by
   have e1:d'.extract 0 xs.length=d':=by
    have hsz:d'.size=xs.length:=by simpa using hp1
    rw[<-hsz];simp
   have e2:xs.toArray.extract 0 xs.length=xs.toArray:=by simp
   rw[e1,e2]at hp3;simpa using hp3
  have hb2:=blk_sortWorldK (k:=k) (enc:=fun x: {e:α//Ok w e}=>enc x.1) hk' h0 hg hl n os;rw[Array.toArray_toList]at hb2;have hml:(d'.toList.map Subtype.val).length=xs.length:=by rw[List.length_map,hl]
  have hfl:∀ys:List {e:α//Ok w e},(ys.flatMap (fun x=>enc x.1)).length=ys.length*k:=fun ys=>flat_length hk' ys
  refine⟨rfl,d'.toList.map Subtype.val,by rw[<-hxs];exact hperm.map _,?_,?_,?_,?_⟩
  ·rw[List.pairwise_map,List.pairwise_iff_getElem]
   intro i j hi hj hij;have h3:=hs i j (Nat.zero_le _) hij (by rw[hl]at hj;simpa using hj);have hi':i<d'.size:=by simpa using hi
   have hj':j<d'.size:=by simpa using hj
   rw[getElem!_pos d' i hi',getElem!_pos d' j hj']at h3;have h4:=of_decide_eq_false h3;simpa using h4
  ·rw[hml,<-hfm]
   refine⟨by rw[hfl,hl],.inr ⟨g,cap,rest,rfl,hb,hb2,hc1,hc2,?_,?_⟩⟩
   ·rw[hfl,hl,<-hfl];exact hc3
   refine NoUL.app ?_ hc4.right;intro z hz;obtain⟨x,_,hx⟩:=List.mem_flatMap.1 hz;exact hu x.1 z hx
  ·have ho:=own_sortWorldK (k:=k) (enc:=fun x: {e:α//Ok w e}=>enc x.1) w g 0 n d' os hg.lt
   simpa[Value.ownBlock,Own]using ho
  exact hdig n os d'
end Go.Proofs.YtngikkggjidenabGreat
namespace Go.Proofs.YtngikkggjidenabGreat
open Go.RowKit
structure R1E where
  a:RV
  q:Rat
def R1E.cells (e:R1E):List Value:=[.bool e.a.n,.slice e.a.p e.a.l e.a.c,.bool e.a.m,.slice e.a.p2 e.a.l2 e.a.c2]
theorem R1E.len (e:R1E):e.cells.length=4:=rfl
theorem R1E.one (e:R1E):∀v,v∈e.cells->v.oneCell'=true:=by simp[R1E.cells,Value.oneCell']
theorem R1E.nou (e:R1E):NoUL e.cells:=by simp[R1E.cells,NoUL]
def R1E.Ok (L:Nat)(w:World)(e:R1E):Prop:=e.a.Is w e.q/\Nm.rl e.q<=L
theorem R1E.Ok.dig {L:Nat}{w w':World}{e:R1E}(h:e.Ok L w)(d:Dig w w'):e.Ok L w':=⟨h.1.dig d,h.2⟩
structure R2E where
  a:RV
  b:RV
  p:Rat
  q:Rat
def R2E.cells (e:R2E):List Value:=[.bool e.a.n,.slice e.a.p e.a.l e.a.c,.bool e.a.m,.slice e.a.p2 e.a.l2 e.a.c2,.bool e.b.n,.slice e.b.p e.b.l e.b.c,.bool e.b.m,.slice e.b.p2 e.b.l2 e.b.c2]
theorem R2E.len (e:R2E):e.cells.length=8:=rfl
theorem R2E.one (e:R2E):∀v,v∈e.cells->v.oneCell'=true:=by simp[R2E.cells,Value.oneCell']
theorem R2E.nou (e:R2E):NoUL e.cells:=by simp[R2E.cells,NoUL]
def R2E.Ok (L:Nat)(w:World)(e:R2E):Prop:=e.a.Is w e.p/\e.b.Is w e.q/\Nm.rl e.p<=L/\Nm.rl e.q<=L
theorem R2E.Ok.dig {L:Nat}{w w':World}{e:R2E}(h:e.Ok L w)(d:Dig w w'):e.Ok L w':=⟨h.1.dig d,h.2.1.dig d,h.2.2⟩
def R2E.vl (e:R2E):Rat×Rat:=(e.p,e.q)
theorem range_oneC {w:World}{g o:Nat}{v:Value}(h:w.cell? ⟨g,o,none⟩=some v):w.rangeAt g o [v]:=by
  intro j u hj;match j,hj with
  |0,hj=>simp at hj;subst hj;exact h
  |j+1,hj=>simp at hj
section
variable {α:Type} (eqv:α->α->Bool)
def compG (p:α):List α->List α
  | []=>[]
  |x::l=>if eqv x p then compG x l else x::compG x l
def compactV:List α->List α
  | []=>[]
  |x::l=>x::compG eqv x l
theorem compG_snoc (l:List α):∀(p:α) (q x:α),(p::l).getLast?=some q->compG eqv p (l++[x])=compG eqv p l++(if eqv x q then[]else[x]):=by
  induction l with
  | nil=>
    intro p q x h;simp at h;subst h;simp[compG]
  | cons y l ih=>
    intro p q x h;have h2:(y::l).getLast?=some q:=by simpa using h
    have h3:=ih y q x h2;simp only[List.cons_append,compG];split
    · exact h3
    rw[h3,List.cons_append]
theorem compactV_snoc {l:List α}{q x:α}(h:l.getLast?=some q):compactV eqv (l++[x])=compactV eqv l++(if eqv x q then[]else[x]):=by
  cases l with
  |nil=>simp at h
  | cons p l=>
    simp only[List.cons_append,compactV];rw[compG_snoc eqv l p q x h]
theorem compG_sub (l:List α):∀(p z:α),z∈compG eqv p l->z∈l:=by
  induction l with
  |nil=>intro p z h;simp[compG]at h
  | cons y l ih=>
    intro p z h;unfold compG at h;split at h
    · exact List.mem_cons_of_mem _ (ih y z h)
    rcases List.mem_cons.1 h with h|h
    · rw[h];simp
    exact List.mem_cons_of_mem _ (ih y z h)
theorem compactV_sub {l:List α}{z:α}(h:z∈compactV eqv l):z∈l:=by
  cases l with
  |nil=>simp[compactV]at h
  | cons p l=>
    rcases List.mem_cons.1 h with h|h
    · rw[h];simp
    exact List.mem_cons_of_mem _ (compG_sub eqv l p z h)
variable {eqv}
theorem compG_mem {β:Type}{key:α->β}(hk:∀x y,eqv x y=true->key x=key y)(l:List α):∀(p z:α),z∈p::l->∃y∈p::compG eqv p l,key y=key z:=by
 induction l with
 |nil=>intro p z h;exact⟨z,by simpa[compG]using h,rfl⟩
 |cons x l ih=>
  intro p z h;rcases List.mem_cons.1 h with rfl|h
  ·exact⟨z,by simp,rfl⟩
  obtain⟨y,h1,h2⟩:=ih x z h;unfold compG;split
  ·rename_i he
   rcases List.mem_cons.1 h1 with rfl|h1
   ·exact⟨p,by simp,by rw[<-h2,hk _ _ he]⟩
   exact⟨y,List.mem_cons_of_mem _ h1,h2⟩
  exact⟨y,List.mem_cons_of_mem _ h1,h2⟩
theorem compactV_mem {β:Type}{key:α->β}(hk:∀x y,eqv x y=true->key x=key y){l:List α}{z:α}(h:z∈l):∃y∈compactV eqv l,key y=key z:=by
  cases l with
  |nil=>simp at h
  |cons p l=>exact compG_mem hk l p z h
theorem compG_sorted {lt le:α->α->Prop}(ht:∀a b c,le a b->lt b c->lt a c)(h1:∀x y,le y x->eqv x y=false->lt y x)(h2:∀x y,eqv x y=true->∀z,lt x z->lt y z)(l:List α):∀p:α,(p::l).Pairwise le->(p::compG eqv p l).Pairwise lt/\∀z,z∈compG eqv p l->lt p z:=by
 induction l with
 |nil=>intro p _;simp[compG]
 |cons x l ih=>
  intro p hp;have hp1:=List.pairwise_cons.1 hp;obtain⟨h3,h4⟩:=ih x hp1.2;have hpx:=hp1.1 x (by simp);unfold compG;split
  ·rename_i he
   have h5:∀z,z∈compG eqv x l->lt p z:=fun z hz=>h2 _ _ he z (h4 z hz)
   exact⟨List.pairwise_cons.2 ⟨h5,(List.pairwise_cons.1 h3).2⟩,h5⟩
  rename_i he;have hlt:=h1 x p hpx (by simpa using he);have h5:∀z,z∈x::compG eqv x l->lt p z:=fun z hz=>by
   rcases List.mem_cons.1 hz with rfl|hz
   ·exact hlt
   exact ht p x z hpx (h4 z hz)
  exact⟨List.pairwise_cons.2 ⟨h5,h3⟩,h5⟩
theorem compactV_sorted {lt le:α->α->Prop}(ht:∀a b c,le a b->lt b c->lt a c)(h1:∀x y,le y x->eqv x y=false->lt y x)(h2:∀x y,eqv x y=true->∀z,lt x z->lt y z){l:List α}(hl:l.Pairwise le):(compactV eqv l).Pairwise lt:=by
  cases l with
  |nil=>exact .nil
  |cons p l=>exact(compG_sorted ht h1 h2 l p hl).1
end
theorem strict_unique {α:Type}{lt:α->α->Prop}(hi:∀a,¬lt a a)(ht:∀a b c,lt a b->lt b c->lt a c):∀{l m:List α},l.Pairwise lt->m.Pairwise lt->(∀z,z∈l↔z∈m)->l=m
 | [],[],_,_,_=>rfl
 | [],y::m,_,_,h=>by have:=(h y).2 (by simp);simp at this
 |x::l,[],_,_,h=>by have:=(h x).1 (by simp);simp at this
 |x::l,y::m,hl,hm,h=>by
  have hl1:=List.pairwise_cons.1 hl;have hm1:=List.pairwise_cons.1 hm;have e:x=y:=by
   rcases List.mem_cons.1 ((h x).1 (by simp))with e|hx
   ·exact e
   rcases List.mem_cons.1 ((h y).2 (by simp))with e|hy
   ·exact e.symm
   exact absurd (ht _ _ _ (hl1.1 y hy) (hm1.1 x hx)) (hi x)
  subst e;rw[strict_unique hi ht hl1.2 hm1.2 (fun z=>by
   constructor
   ·intro hz
    rcases List.mem_cons.1 ((h z).1 (List.mem_cons_of_mem _ hz))with e|h2
    ·subst e;exact absurd (hl1.1 z hz) (hi z)
    exact h2
   intro hz;rcases List.mem_cons.1 ((h z).2 (List.mem_cons_of_mem _ hz))with e|h2
   ·subst e;exact absurd (hm1.1 z hz) (hi z)
   exact h2)]
theorem ev_drop {P:Program}{ρ:Operand->Value}{o:Oper}{w:World}{g n c size k d c2:Nat}{z:Int}{t e:TypeId}{x y:Operand}(ho:o.op= .slice t x (some y) none none)(ht:P.underlying t=some (.slice e))(hs:(P.info? e).map (·.size)=some size)
  (hx:ρ x= .slice (some ⟨g,0,none⟩) n c)(hy:ρ y= .int .i64 z)(hz:z=(k:Int))(hn:n=k+d)(hd:0<d)(hc:c=k+c2)(hc2:d<=c2):(execOp ρ o).run P w= .ok (.value (.slice (some ⟨g,k*size,none⟩) d c2)) w:=by
 subst hz;subst hn;subst hc;have hel:P.elem t=e:=by simp[Program.elem,ht]
 have h1:P.underlying t=some (.slice (P.elem t)):=by rw[hel];exact ht
 unfold execOp;simp only[ho,hx,hy,Option.map_some,Option.map_none,Sem.run_bind,run_sliceAt_slice _ _ _ _ _ _ h1,run_slice_l w t _ _ _ h1 .i64 (k:Int) (by omega) (by omega:(k:Int)<=((k+d:Nat):Int)),hel];cases hq:P.info? e with
 |none=>simp[hq]at hs
 |some i=>
  have h2:i.size=size:=by simpa[hq]using hs
  have h3:k+d-k=d:=by omega
  have h4:k+c2-k=c2:=by omega
  simp[sizeOf,typeInfo,hq,sliced,h2,h3,h4,Int.toNat_natCast,show¬c2=0 by omega,Addr.add_lit]
theorem elem_off {w:World}{g a b c:Nat}{cs:List Value}(h:w.rangeAt g ((a+b)*c) cs):w.rangeAt g (a*c+b*c) cs:=by rw[Nat.add_mul]at h;exact h
theorem get_of_drop {α:Type}{l m:List α}{i x:Nat}(h:l.drop i=m.drop i)(hx:i<=x):l[x]?=m[x]?:=by
  have e1:(l.drop i)[x-i]?=(m.drop i)[x-i]?:=by rw[h]
  rw[List.getElem?_drop,List.getElem?_drop]at e1;rwa[show i+(x-i)=x by omega]at e1
theorem Fr.grownBy {r:Option Nat}{w w':World}(h:Fr (fun k=>r=some k) w w'):w.grownBy w' r:=⟨h.os,h.tape,h.output,h.size,fun k hk hne=>h.block k hk (fun e=>hne e.symm)⟩
theorem trunc (w:World)(b:Nat)(h:b<=w.heap.size):∃w0,Ext w0 w/\w0.heap.size=b:=
  ⟨{w with heap:=w.heap.extract 0 b},⟨rfl,rfl,rfl,by rw[show({w with heap:=w.heap.extract 0 b}:World).heap.size=min b w.heap.size-0 from Array.size_extract];omega,fun k hk=>by
    have hk2:k<b:=by simp at hk;omega
    simp[show k<min b w.heap.size by omega]⟩,by simp;omega⟩
theorem Hp.one {w0 w:World}{t:TypeId}{size n:Nat}{v:Value}{xs:List Value}(x:Ext w0 w)(h:RowN w w0.heap.size t size v n xs):Hp w0 w [.row t size v n xs]:=
  ((Hp.start w0).step x).add h (fun i f hf=>by simp at hf)
theorem take_set_snoc {α:Type}{l:List α}{k:Nat}{e:α}(h:k<l.length):(l.set k e).take (k+1)=l.take k++[e]:=by
  rw[List.take_add_one,List.take_set_of_le (Nat.le_refl k)];simp[h]
theorem compact_step {α:Type}{eqv:α->α->Bool}{es:List α}{j:Nat}{e f:α}(he:es[j+1]?=some e)(hf:es[j]?=some f):compactV eqv (es.take (j+1+1))=compactV eqv (es.take (j+1))++(if eqv e f then[]else[e]):=by
  have h1:es.take (j+1+1)=es.take (j+1)++[e]:=by rw[List.take_add_one,he];rfl
  rw[h1];refine compactV_snoc eqv ?_;rw[List.take_add_one,hf];simp
theorem ev_head {P:Program}{ρ:Operand->Value}{o:Oper}{w:World}{g n c size k:Nat}{z:Int}{t e:TypeId}{x y:Operand}(ho:o.op= .slice t x none (some y) none)(ht:P.underlying t=some (.slice e))(hs:(P.info? e).map (·.size)=some size)
  (hx:ρ x= .slice (some ⟨g,0,none⟩) n c)(hy:ρ y= .int .i64 z)(hz:z=(k:Int))(hk:k<=n)(hn:n<=c)(hc:0<c):(execOp ρ o).run P w= .ok (.value (.slice (some ⟨g,0,none⟩) k c)) w:=by
 subst hz;have hel:P.elem t=e:=by simp[Program.elem,ht]
 have h1:P.underlying t=some (.slice (P.elem t)):=by rw[hel];exact ht
 unfold execOp;simp only[ho,hx,hy,Option.map_some,Option.map_none,Sem.run_bind,run_sliceAt_slice _ _ _ _ _ _ h1,run_slice_h w t _ _ _ h1 .i64 (k:Int) (by omega) (by omega:(k:Int)<=(c:Int)),hel];cases hq:P.info? e with
 |none=>simp[hq]at hs
 |some i=>
  have h2:i.size=size:=by simpa[hq]using hs
  simp[sizeOf,typeInfo,hq,sliced,h2,Int.toNat_natCast,show¬c=0 by omega,Addr.add_lit]
theorem RowN.cut {w:World}{base:Nat}{t:TypeId}{size g n cap k:Nat}{xs:List Value}(h:RowN w base t size (.slice (some ⟨g,0,none⟩) n cap) n xs)(hk:k<=n):RowN w base t size (.slice (some ⟨g,0,none⟩) k cap) k (xs.take (k*size)):=by
 obtain⟨h1,⟨hv,_⟩|⟨g',cap',rest,hv,a,hb,h3,h4,h5,h6⟩⟩:=h
 ·cases hv
 injection hv with e1 e2 e3
 injection e1 with e1
 injection e1 with e1
 subst e1;subst e3;have hl:k*size<=xs.length:=by rw[h1];exact Nat.mul_le_mul_right _ hk
 have e:xs.take (k*size)++(xs.drop (k*size)++rest)=xs++rest:=by rw[<-List.append_assoc,List.take_append_drop]
 refine⟨by rw[List.length_take];omega,.inr ⟨g,cap,xs.drop (k*size)++rest,rfl,a,by rw[e];exact hb,by omega,h4,?_,by rw[e];exact h6⟩⟩;rw[List.length_take,List.length_append,List.length_drop];omega
theorem mv_clear {α:Type}{f:α->List Value}{P:Program}{w0 w:World}{m:List Ent}{ix:Nat}{a:Act}{Q:Exit->Act->World->Prop}{rest:List Oper}{op:Oper}{ops:Array Oper}(hw:Region.wanted op (yielded ops a.tmps)=true)(x:Operand)(ty:TypeId)(ho:op.op= .call {callee:= .builtin .clear,args:=#[x],argTypes:=#[ty]})
  {g n cap size:Nat}{t:TypeId}{es:List α}(hH:Hp w0 w m)(hi:m[ix]?=some (.row t size (.slice (some ⟨g,0,none⟩) n cap) n (es.flatMap f)))(hc:∀x,(f x).length=size)(hl:es.length=n)(k c:Nat)(hk:k<n)(hx:a.eval x= .slice (some ⟨g,k*size,none⟩) (n-k) c)
  (ht:P.underlying ty=some (.slice t))(z:Value)(hz:∀w,(zeroValue t).run P w= .ok z w)(hzs:z.cells.size=size)(h1:∀v,v∈z.cells.toList->v.oneCell'=true)(hn:NoUL z.cells.toList)(h0:0<size)
  (h:∀w',Hp w0 w' (m.set ix (.row t size (.slice (some ⟨g,0,none⟩) k cap) k ((es.take k).flatMap f)))->Dig w w'->Own g w w'->wpList P ops Q rest (a.put op.dst (.tuple #[])) w'):wpList P ops Q (op::rest) a w:=by
 have hzl:(Builtin.zeroCells z.cells (n-k)).size=(n-k)*size:=by rw[size_zeroCells,hzs]
 have hfl:(es.flatMap f).length=n*size:=by rw[flat_length hc,hl]
 have hks:k*size+(n-k)*size=n*size:=by rw[<-Nat.add_mul];congr 1;omega
 have hth:w.there g (k*size) ((n-k)*size):=(hH.row hi).there (k*size) ((n-k)*size) (by rw[hfl];omega);have hnz:NoUL (Builtin.zeroCells z.cells (n-k)).toList:=noUL_zero _ _ (by omega) hn;have hone:∀v,v∈(Builtin.zeroCells z.cells (n-k)).toList->v.oneCell'=true:=by
  intro v hv;unfold Builtin.zeroCells at hv;simp only[Array.toList_map,List.mem_map]at hv;obtain⟨i,_,rfl⟩:=hv;have hlt:i%z.cells.size<z.cells.size:=Nat.mod_lt _ (by omega);rw[getElem!_pos z.cells _ hlt];exact h1 _ (by simp)
 have hst:=run_storeCells_cells (P:=P) g (k*size) (Builtin.zeroCells z.cells (n-k)).toList 0 w (fun j hj=>by simpa using(hth j (by simpa[hzl]using hj)).1) (fun j hj=>by simpa using(hth j (by simpa[hzl]using hj)).2) hone;have hrun:(Builtin.clear_ #[ty] op.type #[.slice (some ⟨g,k*size,none⟩) (n-k) c]).run P w= .ok (.tuple #[]) (w.setCells g (k*size) (Builtin.zeroCells z.cells (n-k)).toList):=by
  obtain⟨d,hd⟩:∃d,n-k=d+1:=⟨n-k-1,by omega⟩;rw[hd]at hst⊢;simp[Builtin.clear_,run_underlying ht,hz,hst]
 have hset:=(hH.row hi).setPart (k*size) (Builtin.zeroCells z.cells (n-k)).toList (by rw[hfl,Array.length_toList,hzl];omega) hnz;have hcut:=hset.cut (Nat.le_of_lt hk);have e:((es.flatMap f).take (k*size)++(Builtin.zeroCells z.cells (n-k)).toList++(es.flatMap f).drop (k*size+(Builtin.zeroCells z.cells (n-k)).toList.length)).take (k*size)=(es.take k).flatMap f:=by
  have hkl:((es.flatMap f).take (k*size)).length=k*size:=by rw[List.length_take,hfl];exact Nat.min_eq_left (Nat.mul_le_mul_right _ (by omega))
  rw[List.append_assoc,List.take_append_of_le_length (by omega),List.take_of_length_le (by omega),flat_take hc]
 rw[e]at hcut;have hgr:w.grownBy (w.setCells g (k*size) (Builtin.zeroCells z.cells (n-k)).toList) (some g):=own_setCells _ _ _ _;have hnew:=hH.turn (r:=some g) (e':= .row t size (.slice (some ⟨g,0,none⟩) k cap) k ((es.take k).flatMap f)) hi (fun k hk=>by simpa[Ent.own,Value.ownBlock]using hk) hgr hcut (fun k hk=> .inl hk);have hdig:Dig w (w.setCells g (k*size) (Builtin.zeroCells z.cells (n-k)).toList):=by
  refine Dig.grown (hH.row hi) ?_;exact hgr
 have h2:=h _ hnew hdig hgr;refine wpList_if hw ?_;unfold Oper.wp;simp[execOp,ho,resolve,invoke,builtin,hx,hrun,Result.andThen];exact h2
end Go.Proofs.YtngikkggjidenabGreat
namespace Go.Proofs.YtngikkggjidenabGreat
def putQ:List Rat->Rat->List Rat
  | [],y=>[y]
  |x::l,y=>if x<y then x::putQ l y else if x=y then x::l else y::x::l
theorem putQ_mem {y z:Rat}:∀{l:List Rat},z∈putQ l y↔z=y\/z∈l
  | []=>by simp[putQ]
  | x::l=>by
    unfold putQ;split
    · rw[List.mem_cons,putQ_mem,List.mem_cons]
      constructor
      · rintro(h|h|h)
        · exact .inr (.inl h)
        · exact .inl h
        exact .inr (.inr h)
      rintro(h|h|h)
      · exact .inr (.inl h)
      · exact .inl h
      exact .inr (.inr h)
    split
    · rename_i h;subst h;simp
    simp
theorem putQ_srt {y:Rat}:∀{l:List Rat},l.Pairwise (· < ·)->(putQ l y).Pairwise (· < ·)
 | [],_=>by simp[putQ]
 |x::l,h=>by
  obtain⟨h1,h2⟩:=List.pairwise_cons.1 h;unfold putQ;split
  ·rename_i hx
   refine List.pairwise_cons.2 ⟨fun z hz=> ?_,putQ_srt h2⟩;rcases putQ_mem.1 hz with e|e
   ·rw[e];exact hx
   exact h1 z e
  split
  ·exact h
  rename_i hx hy;have hlt:y<x:=by
   have:=Rat.not_lt.1 hx;grind
  refine List.pairwise_cons.2 ⟨fun z hz=> ?_,h⟩;rcases List.mem_cons.1 hz with e|e
  ·rw[e];exact hlt
  have:=h1 z e;grind
def outQ (lo hi:Rat)(l all:List Rat):List Rat:=all.foldl (fun o x=>if lo<x/\x<hi then putQ o x else o) l
theorem outQ_mem {lo hi z:Rat}:∀{all l:List Rat},z∈outQ lo hi l all↔z∈l\/(z∈all/\lo<z/\z<hi)
  | [],l=>by simp[outQ]
  | x::all,l=>by
    show z∈outQ lo hi (if lo<x/\x<hi then putQ l x else l) all↔_;rw[outQ_mem];by_cases h:lo<x/\x<hi
    · rw[if_pos h,putQ_mem,List.mem_cons]
      constructor
      · rintro((e|e)|e)
        · subst e;exact .inr ⟨.inl rfl,h⟩
        · exact .inl e
        exact .inr ⟨.inr e.1,e.2⟩
      rintro(e|⟨e|e,f⟩)
      · exact .inl (.inr e)
      · exact .inl (.inl e)
      exact .inr ⟨e,f⟩
    rw[if_neg h,List.mem_cons];constructor
    · rintro(e|e)
      · exact .inl e
      exact .inr ⟨.inr e.1,e.2⟩
    rintro(e|⟨e|e,f⟩)
    · exact .inl e
    · subst e;exact absurd f h
    exact .inr ⟨e,f⟩
theorem outQ_srt {lo hi:Rat}:∀{all l:List Rat},l.Pairwise (· < ·)->(outQ lo hi l all).Pairwise (· < ·)
  | [],l,h=>h
  | x::all,l,h=>by
    show(outQ lo hi (if lo<x/\x<hi then putQ l x else l) all).Pairwise (· < ·);refine outQ_srt ?_;split
    · exact putQ_srt h
    exact h
def refStep (a b:Int×Int)(pre:List Edge)(x:Edge):List Rat:=pre.flatMap (fun o=>segL x o)++yatL x a.1++yatL x b.1
def refC (a b:Int×Int):List Edge->List Edge->List Rat
  |_,[]=>[]
  |pre,x::l=>refStep a b pre x++refC a b (pre++[x]) l
def refP (rs:List Ring):List Rat:=rs.flatMap fun r=>r.map fun p=>(p.2:Rat)
def refAll (a b:Int×Int)(rs:List Ring):List Rat:=refP rs++refC a b [] (edgesV rs)
theorem segL_swap (x o:Edge):segL o x=segL x o:=by unfold segL;rw[segN_swap,segY_swap]
theorem btw_mem {lo hi q z:Rat}:z∈btw lo hi q↔z=q/\lo<z/\z<hi:=by
  unfold btw;split
  · rename_i h;simp;intro e;rw[e];exact h
  rename_i h;simp;intro e h1 h2;rw[e]at h1 h2;exact h ⟨h1,h2⟩
theorem bind_btw {lo hi z:Rat}{l:List Rat}:z∈l.flatMap (btw lo hi)↔z∈l/\lo<z/\z<hi:=by
  rw[List.mem_flatMap];constructor
  · rintro⟨q,h1,h2⟩;obtain⟨e,h3⟩:=btw_mem.1 h2;rw[e]at h3⊢;exact⟨h1,h3⟩
  rintro⟨h1,h2⟩;exact⟨z,h1,btw_mem.2 ⟨rfl,h2⟩⟩
theorem step_mem {a b:Int×Int}{pre:List Edge}{x:Edge}{z:Rat}:z∈evStep a b pre x↔z∈refStep a b pre x/\(a.2:Rat)<z/\z<(b.2:Rat):=by
 unfold evStep refStep;rw[List.mem_append,List.mem_append,List.mem_append,List.mem_append,bind_btw,bind_btw,List.mem_flatMap,List.mem_flatMap];constructor
 ·rintro((⟨h1,h2⟩|⟨h1,h2⟩)|⟨o,h1,h2⟩)
  ·exact⟨.inl (.inr h1),h2⟩
  ·exact⟨.inr h1,h2⟩
  rw[bind_btw,segL_swap]at h2;exact⟨.inl (.inl ⟨o,h1,h2.1⟩),h2.2⟩
 rintro⟨(⟨o,h1,h2⟩|h1)|h1,h3⟩
 ·exact .inr ⟨o,h1,by rw[bind_btw,segL_swap];exact⟨h2,h3⟩⟩
 ·exact .inl (.inl ⟨h1,h3⟩)
 exact .inl (.inr ⟨h1,h3⟩)
theorem evC_mem {a b:Int×Int}{z:Rat}:∀{l p:List Edge},z∈evC a b p l↔z∈refC a b p l/\(a.2:Rat)<z/\z<(b.2:Rat)
  | [],p=>by simp[evC,refC]
  | x::l,p=>by
    unfold evC refC;rw[List.mem_append,List.mem_append,step_mem,evC_mem];constructor
    · rintro(h|h)
      · exact⟨.inl h.1,h.2⟩
      exact⟨.inr h.1,h.2⟩
    rintro⟨h|h,k⟩
    · exact .inl ⟨h,k⟩
    exact .inr ⟨h,k⟩
theorem evP_mem {a b:Int×Int}{rs:List Ring}{z:Rat}:z∈evP a b rs↔z∈refP rs/\(a.2:Rat)<z/\z<(b.2:Rat):=by
  unfold evP refP;simp only[List.mem_flatMap,List.mem_map,btw_mem];constructor
  · rintro⟨r,h1,p,h2,h3,h4⟩;exact⟨⟨r,h1,p,h2,h3.symm⟩,h4⟩
  rintro⟨⟨r,h1,p,h2,h3⟩,h4⟩;exact⟨r,h1,p,h2,h3.symm,h4⟩
def refL (a b:Int×Int)(rs:List Ring):List Rat:=if evOk a b rs then outQ (a.2:Rat) (b.2:Rat) [(a.2:Rat),(b.2:Rat)] (refAll a b rs)else[]
theorem ev_same {a b:Int×Int}{rs:List Ring}{l:List Rat}(h:l.Pairwise (· < ·))(hm:∀x,x∈l↔x∈evL a b rs):l=refL a b rs:=by
 unfold refL;unfold evL at hm;by_cases k:evOk a b rs
 ·rw[if_pos k]at hm⊢
  have hlt:(a.2:Rat)<(b.2:Rat):=by exact_mod_cast k.2.2.2
  refine strict_unique (lt:=(· < ·)) (fun x=>Rat.lt_irrefl) (fun x y z h1 h2=>by grind) h (outQ_srt (by simp[hlt])) (fun z=> ?_);rw[hm,outQ_mem];unfold refAll;rw[List.mem_append,List.mem_append,List.mem_append,evP_mem,evC_mem];constructor
  ·rintro((e|e)|e)
   ·exact .inl e
   ·exact .inr ⟨.inl e.1,e.2⟩
   exact .inr ⟨.inr e.1,e.2⟩
  rintro(e|⟨e|e,f⟩)
  ·exact .inl (.inl e)
  ·exact .inl (.inr ⟨e,f⟩)
  exact .inr ⟨e,f⟩
 rw[if_neg k]at hm⊢;cases l with
 |nil=>rfl
 |cons x l=>have:=(hm x).1 (by simp);simp at this
def bandSum (W:Rat->Rat):List Rat->Rat
  |x::y::l=>W ((x+y)/2)*(y-x)+bandSum W (y::l)
  |_=>0
def Aff (W:Rat->Rat)(p q:Rat):Prop:=∃m k:Rat,∀y,p<y->y<q->W y=m*y+k
def AffAll (W:Rat->Rat):List Rat->Prop
  |x::y::l=>Aff W x y/\AffAll W (y::l)
  |_=>True
theorem mid_in {p q:Rat}(h:p<q):p<(p+q)/2/\(p+q)/2<q:=by
  rw[Rat.div_def];have e:(2:Rat)*(2:Rat)⁻¹=1:=Rat.mul_inv_cancel 2 (by decide);have k:(0:Rat)<(2:Rat)⁻¹:=by decide+kernel
  have e2:(2:Rat)⁻¹+(2:Rat)⁻¹=1:=by decide+kernel
  generalize (2:Rat)⁻¹=i at*
  have h1:=Rat.mul_lt_mul_of_pos_left h k;have e3:p=i*p+i*p:=by grind
  have e4:q=i*q+i*q:=by grind
  have e5:(p+q)*i=i*p+i*q:=by grind
  rw[e5];generalize i*p=a at*
  generalize i*q=b at*
  constructor<;>grind
theorem Aff.sub {W:Rat->Rat}{p q r s:Rat}(h:Aff W p q)(h1:p<=r)(h2:s<=q):Aff W r s:=by
  obtain⟨m,k,hw⟩:=h;exact⟨m,k,fun y a b=>hw y (by grind) (by grind)⟩
theorem band_split {W:Rat->Rat}{p q r:Rat}(h:Aff W p q)(h1:p<r)(h2:r<q):W ((p+q)/2)*(q-p)=W ((p+r)/2)*(r-p)+W ((r+q)/2)*(q-r):=by
  obtain⟨m,k,hw⟩:=h;have a:=mid_in h1;have b:=mid_in h2;have c:=mid_in (p:=p) (q:=q) (by grind);rw[hw _ c.1 c.2,hw _ a.1 (by grind),hw _ (by grind) b.2];rw[Rat.div_def,Rat.div_def,Rat.div_def];have e2:(2:Rat)⁻¹+(2:Rat)⁻¹=1:=by decide+kernel
  generalize (2:Rat)⁻¹=i at*
  grind
theorem band_put {W:Rat->Rat}{r:Rat}:∀{l:List Rat} {x:Rat},(x::l).Pairwise (· < ·)->AffAll W (x::l)->x<r->(∃z,z∈l/\r<=z)->bandSum W (x::putQ l r)=bandSum W (x::l)/\AffAll W (x::putQ l r)
 | [],x,_,_,_,hz=>by obtain⟨z,hz,_⟩:=hz;cases hz
 |y::l,x,hs,ha,hx,hz=>by
  obtain⟨h1,h2⟩:=List.pairwise_cons.1 hs;obtain⟨a1,a2⟩:=ha;by_cases c1:y<r
  ·have e:putQ (y::l) r=y::putQ l r:=by rw[putQ,if_pos c1]
   have hz':∃z,z∈l/\r<=z:=by
    obtain⟨z,hz,hr⟩:=hz;rcases List.mem_cons.1 hz with e|e
    ·subst e;exact absurd c1 (Rat.not_lt.2 hr)
    exact⟨z,e,hr⟩
   have ih:=band_put (l:=l) (x:=y) h2 a2 c1 hz';rw[e];refine⟨?_,a1,ih.2⟩;show W ((x+y)/2)*(y-x)+bandSum W (y::putQ l r)=W ((x+y)/2)*(y-x)+bandSum W (y::l);rw[ih.1]
  by_cases c2:y=r
  ·have e:putQ (y::l) r=y::l:=by rw[putQ,if_neg c1,if_pos c2]
   rw[e];exact⟨rfl,a1,a2⟩
  have e:putQ (y::l) r=r::y::l:=by rw[putQ,if_neg c1,if_neg c2]
  have hr:r<y:=by have:=Rat.not_lt.1 c1;grind
  rw[e];refine⟨?_,a1.sub (Rat.le_refl) (Rat.le_of_lt hr),a1.sub (Rat.le_of_lt hx) (Rat.le_refl),a2⟩;show W ((x+r)/2)*(r-x)+(W ((r+y)/2)*(y-r)+bandSum W (y::l))=W ((x+y)/2)*(y-x)+bandSum W (y::l);rw[band_split a1 hx hr,Rat.add_assoc]
theorem band_putA {W:Rat->Rat}{l:List Rat}{x r:Rat}(hs:(x::l).Pairwise (· < ·))(ha:AffAll W (x::l))(h1:x<=r)(h2:∃z,z∈x::l/\r<=z):bandSum W (putQ (x::l) r)=bandSum W (x::l)/\AffAll W (putQ (x::l) r):=by
 by_cases c:x<r
 ·have e:putQ (x::l) r=x::putQ l r:=by rw[putQ,if_pos c]
  rw[e];refine band_put hs ha c ?_;obtain⟨z,hz,hr⟩:=h2;rcases List.mem_cons.1 hz with e|e
  ·subst e;exact absurd c (Rat.not_lt.2 hr)
  exact⟨z,e,hr⟩
 have e2:x=r:=by have:=Rat.not_lt.1 c;grind
 have e:putQ (x::l) r=x::l:=by rw[putQ,if_neg c,if_pos e2]
 rw[e];exact⟨rfl,ha⟩
theorem band_all {W:Rat->Rat}{lo hi:Rat}:∀{rs l:List Rat},l.Pairwise (· < ·)->AffAll W l->(∀z,z∈l->lo<=z)->lo∈l->hi∈l->(∀r,r∈rs->lo<=r/\r<=hi)->bandSum W (rs.foldl putQ l)=bandSum W l/\AffAll W (rs.foldl putQ l)
 | [],_,_,ha,_,_,_,_=>⟨rfl,ha⟩
 |r::rs,l,hs,ha,hm,hl,hh,hr=>by
  have h1:bandSum W (putQ l r)=bandSum W l/\AffAll W (putQ l r):=by
   cases l with
   |nil=>cases hl
   |cons x l=>
    have hx:x=lo:=by
     rcases List.mem_cons.1 hl with e|e
     ·exact e.symm
     have h2:=(List.pairwise_cons.1 hs).1 lo e;have h3:=hm x (by simp);grind
    exact band_putA hs ha (by rw[hx];exact(hr r (by simp)).1) ⟨hi,hh,(hr r (by simp)).2⟩
  have h2:=band_all (W:=W) (lo:=lo) (hi:=hi) (rs:=rs) (l:=putQ l r) (putQ_srt hs) h1.2 (fun z hz=>by
   rcases putQ_mem.1 hz with e|e
   ·rw[e];exact(hr r (by simp)).1
   exact hm z e) (putQ_mem.2 (.inr hl)) (putQ_mem.2 (.inr hh)) (fun q hq=>hr q (by simp[hq]))
  rw[List.foldl_cons];exact⟨h2.1.trans h1.1,h2.2⟩
theorem fold_putQ_mem {z:Rat}:∀{rs l:List Rat},z∈rs.foldl putQ l↔z∈l\/z∈rs
  | [],l=>by simp
  | r::rs,l=>by
    rw[List.foldl_cons,fold_putQ_mem,putQ_mem,List.mem_cons];constructor
    · rintro((h|h)|h)
      · exact .inr (.inl h)
      · exact .inl h
      exact .inr (.inr h)
    rintro(h|h|h)
    · exact .inl (.inr h)
    · exact .inl (.inl h)
    exact .inr h
theorem fold_putQ_srt:∀{rs l:List Rat},l.Pairwise (· < ·)->(rs.foldl putQ l).Pairwise (· < ·)
  | [],_,h=>h
  |r::rs,l,h=>by rw[List.foldl_cons];exact fold_putQ_srt (putQ_srt h)
structure Hts (lo hi:Rat) (l:List Rat):Prop where
  srt:l.Pairwise (· < ·)
  bd:∀z,z∈l->lo<=z/\z<=hi
  lo:lo∈l
  hi:hi∈l
theorem band_same {W:Rat->Rat}{lo hi:Rat}{l m:List Rat}(hl:Hts lo hi l)(hm:Hts lo hi m)(al:AffAll W l)(am:AffAll W m):bandSum W l=bandSum W m:=by
 have h1:=band_all (W:=W) (lo:=lo) (hi:=hi) (rs:=m) hl.srt al (fun z hz=>(hl.bd z hz).1) hl.lo hl.hi hm.bd;have h2:=band_all (W:=W) (lo:=lo) (hi:=hi) (rs:=l) hm.srt am (fun z hz=>(hm.bd z hz).1) hm.lo hm.hi hl.bd;have e:m.foldl putQ l=l.foldl putQ m:=strict_unique (lt:=(· < ·)) (fun x=>Rat.lt_irrefl) (fun x y z h1 h2=>by grind) (fold_putQ_srt hl.srt) (fold_putQ_srt hm.srt) (fun z=>by rw[fold_putQ_mem,fold_putQ_mem];exact Or.comm);rw[<-h1.1,<-h2.1,e]
def Cov (l:List QQ)(x:Rat):Prop:=∃p,p∈l/\p.1<=x/\x<=p.2
def Sep (l:List QQ):Prop:=l.Pairwise (fun a b=>a.2<b.1)/\∀p,p∈l->p.1<p.2
theorem sep_nil:Sep []:=⟨List.Pairwise.nil,by simp⟩
theorem Sep.tail {a:QQ}{l:List QQ}(h:Sep (a::l)):Sep l:=⟨(List.pairwise_cons.1 h.1).2,fun p hp=>h.2 p (List.mem_cons_of_mem _ hp)⟩
theorem Sep.far {a:QQ}{l:List QQ}(h:Sep (a::l)){p:QQ}(hp:p∈l):a.2<p.1:=(List.pairwise_cons.1 h.1).1 p hp
theorem Sep.head {a:QQ}{l:List QQ}(h:Sep (a::l)):a.1<a.2:=h.2 a (List.mem_cons_self ..)
theorem cov_cons {a:QQ}{l:List QQ}{x:Rat}:Cov (a::l) x↔(a.1<=x/\x<=a.2)\/Cov l x:=by
  constructor
  · rintro⟨p,hp,h⟩
    rcases List.mem_cons.1 hp with rfl|hp
    · exact Or.inl h
    exact Or.inr ⟨p,hp,h⟩
  rintro(h|⟨p,hp,h⟩)
  · exact⟨a,List.mem_cons_self ..,h⟩
  exact⟨p,List.mem_cons_of_mem _ hp,h⟩
theorem cov_snoc {a:QQ}{l:List QQ}{x:Rat}:Cov (l++[a]) x↔Cov l x\/(a.1<=x/\x<=a.2):=by
  constructor
  · rintro⟨p,hp,h⟩
    rcases List.mem_append.1 hp with hp|hp
    · exact Or.inl ⟨p,hp,h⟩
    rw[List.mem_singleton]at hp;subst hp;exact Or.inr h
  rintro(⟨p,hp,h⟩|h)
  · exact⟨p,List.mem_append.2 (Or.inl hp),h⟩
  exact⟨a,List.mem_append.2 (Or.inr (List.mem_singleton.2 rfl)),h⟩
theorem not_cov_nil {x:Rat}:¬Cov [] x:=by rintro⟨p,hp,_⟩;simp at hp
theorem Sep.tail_cov {a:QQ}{l:List QQ}(h:Sep (a::l)){x:Rat}:Cov l x↔Cov (a::l) x/\a.2<x:=by
  constructor
  · rintro⟨p,hp,h1,h2⟩
    refine⟨cov_cons.2 (Or.inr ⟨p,hp,h1,h2⟩),?_⟩;have:=h.far hp;grind
  rintro⟨hc,hx⟩;rcases cov_cons.1 hc with h1|h1
  · grind
  exact h1
theorem Sep.first_le {a:QQ}{l:List QQ}(h:Sep (a::l)){x:Rat}(hc:Cov (a::l) x):a.1<=x:=by
  rcases cov_cons.1 hc with h1|⟨p,hp,h1,_⟩
  · exact h1.1
  have:=h.far hp;have:=h.head;grind
theorem Sep.gap {a:QQ}{l:List QQ}(h:Sep (a::l)){y:Rat}(hy:a.2<y):∃x,a.2<x/\x<y/\¬Cov (a::l) x:=by
 have hm:∃z,a.2<z/\z<=y/\∀p,p∈l->z<=p.1:=by
  cases l with
  |nil=>exact⟨y,hy,by grind,by simp⟩
  |cons b l=>
   have hab:=h.far (List.mem_cons_self (a:=b) (l:=l));have ht:=h.tail;have hb:∀p,p∈b::l->b.1<=p.1:=by
    intro p hp;rcases List.mem_cons.1 hp with rfl|hp
    ·grind
    have:=ht.far hp;have:=ht.head;grind
   by_cases hyb:y<=b.1
   ·exact⟨y,hy,by grind,fun p hp=>by have:=hb p hp;grind⟩
   exact⟨b.1,hab,by grind,hb⟩
 obtain⟨z,hz1,hz2,hz3⟩:=hm;refine⟨(a.2+z)/2,by grind,by grind,?_⟩;intro hc;rcases cov_cons.1 hc with h1|⟨p,hp,h1,_⟩
 ·grind
 have:=hz3 p hp;grind
theorem sep_unique:∀{l m:List QQ},Sep l->Sep m->(∀x,Cov l x↔Cov m x)->l=m
 | [],[],_,_,_=>rfl
 | [],b::m,_,hm,h=>by
  have:=(h b.1).2 (cov_cons.2 (Or.inl ⟨by grind,by have:=hm.head;grind⟩));exact(not_cov_nil this).elim
 |a::l,[],hl,_,h=>by
  have:=(h a.1).1 (cov_cons.2 (Or.inl ⟨by grind,by have:=hl.head;grind⟩));exact(not_cov_nil this).elim
 |a::l,b::m,hl,hm,h=>by
  have ha:=hl.head;have hb:=hm.head;have e1:a.1=b.1:=by
   have h1:=hm.first_le ((h a.1).1 (cov_cons.2 (Or.inl ⟨by grind,by grind⟩)));have h2:=hl.first_le ((h b.1).2 (cov_cons.2 (Or.inl ⟨by grind,by grind⟩)));grind
  have e2:a.2=b.2:=by
   by_cases h1:a.2<b.2
   ·obtain⟨x,hx1,hx2,hx3⟩:=hl.gap h1
    exact(hx3 ((h x).2 (cov_cons.2 (Or.inl ⟨by grind,by grind⟩)))).elim
   by_cases h2:b.2<a.2
   ·obtain⟨x,hx1,hx2,hx3⟩:=hm.gap h2
    exact(hx3 ((h x).1 (cov_cons.2 (Or.inl ⟨by grind,by grind⟩)))).elim
   grind
  have e:a=b:=Prod.ext e1 e2;subst e;rw[sep_unique hl.tail hm.tail (fun x=>by rw[hl.tail_cov,hm.tail_cov,h])]
theorem cov_perm {l m:List QQ}(h:∀p,p∈l↔p∈m)(x:Rat):Cov l x↔Cov m x:=
  ⟨fun⟨p,hp,k⟩=>⟨p,(h p).1 hp,k⟩,fun⟨p,hp,k⟩=>⟨p,(h p).2 hp,k⟩⟩
theorem last_of {l:List QQ}{a:QQ}(h:l.getLast?=some a):l=l.dropLast++[a]:=by
  obtain⟨ys,rfl⟩:=List.getLast?_eq_some_iff.1 h;simp
theorem sep_snoc {l:List QQ}{a:QQ}:Sep (l++[a])↔Sep l/\a.1<a.2/\∀p,p∈l->p.2<a.1:=by
 constructor
 ·rintro⟨h1,h2⟩
  rw[List.pairwise_append]at h1;exact⟨⟨h1.1,fun p hp=>h2 p (List.mem_append.2 (Or.inl hp))⟩,h2 a (by simp),fun p hp=>h1.2.2 p hp a (by simp)⟩
 rintro⟨h1,h2,h3⟩;refine⟨List.pairwise_append.2 ⟨h1.1,List.pairwise_singleton ..,fun p hp q hq=> ?_⟩,fun p hp=> ?_⟩
 ·rw[List.mem_singleton]at hq
  subst hq;exact h3 p hp
 rcases List.mem_append.1 hp with hp|hp
 ·exact h1.2 p hp
 rw[List.mem_singleton]at hp;subst hp;exact h2
theorem mstep_law {out:List QQ}{s:QQ}(h:Sep out)(hs:s.1<s.2)(hl:∀p,p∈out->p.1<=s.1):
  Sep (mstep out s)/\(∀x,Cov (mstep out s) x↔Cov out x\/(s.1<=x/\x<=s.2))/\∀p,p∈mstep out s->p.1<=s.1:=by
 unfold mstep;split
 ·rename_i h0
  rw[List.getLast?_eq_none_iff]at h0;subst h0;refine⟨sep_snoc.2 ⟨sep_nil,hs,by simp⟩,fun x=>cov_snoc,?_⟩;intro p hp;simp at hp;subst hp;grind
 rename_i l h0;have e:=last_of h0;generalize out.dropLast=o at e
 subst e;obtain⟨k1,k2,k3⟩:=sep_snoc.1 h;have hls:=hl l (by simp);split
 ·rename_i h1
  refine⟨sep_snoc.2 ⟨h,hs,?_⟩,fun x=>cov_snoc,?_⟩
  ·intro p hp
   rcases List.mem_append.1 hp with hp|hp
   ·have:=k3 p hp
    grind
   rw[List.mem_singleton]at hp;subst hp;exact h1
  intro p hp;rcases List.mem_append.1 hp with hp|hp
  ·exact hl p hp
  rw[List.mem_singleton]at hp;subst hp;grind
 rename_i h1;split
 ·rename_i h2
  refine⟨sep_snoc.2 ⟨k1,by show l.1<s.2;grind,k3⟩,fun x=> ?_,?_⟩
  ·rw[cov_snoc,cov_snoc]
   show Cov o x\/(l.1<=x/\x<=s.2)↔(Cov o x\/(l.1<=x/\x<=l.2))\/(s.1<=x/\x<=s.2);grind
  intro p hp;rcases List.mem_append.1 hp with hp|hp
  ·exact hl p (List.mem_append.2 (Or.inl hp))
  rw[List.mem_singleton]at hp;subst hp;exact hls
 rename_i h2;refine⟨h,fun x=> ?_,hl⟩;rw[cov_snoc];grind
theorem fold_law (l:List QQ):∀(out:List QQ),Sep out->(∀p,p∈l->p.1<p.2)->l.Pairwise (fun a b=>a.1<=b.1)->(∀p,p∈out->∀q,q∈l->p.1<=q.1)->
  Sep (l.foldl mstep out)/\∀x,Cov (l.foldl mstep out) x↔Cov out x\/Cov l x:=by
 induction l with
 |nil=>intro out h _ _ _;exact⟨h,fun x=>⟨Or.inl,fun k=>k.elim id fun k=>(not_cov_nil k).elim⟩⟩
 |cons s l ih=>
  intro out h h1 h2 h3;obtain⟨a1,a2,a3⟩:=mstep_law h (h1 s (List.mem_cons_self ..)) (fun p hp=>h3 p hp s (List.mem_cons_self ..));obtain⟨p1,p2⟩:=List.pairwise_cons.1 h2;obtain⟨b1,b2⟩:=ih (mstep out s) a1 (fun p hp=>h1 p (List.mem_cons_of_mem _ hp)) p2 (fun p hp q hq=>by have:=a3 p hp;have:=p1 q hq;grind);refine⟨b1,fun x=> ?_⟩;rw[List.foldl_cons,b2,a2,cov_cons,or_assoc]
theorem mem_some2 {ps:List QQ}{p:QQ}:p∈some2 ps↔p∈ps/\p.1<p.2:=by unfold some2;simp
theorem mergeV_law (ps:List QQ):Sep (mergeV ps)/\∀x,Cov (mergeV ps) x↔Cov (some2 ps) x:=by
  have hs:Stb.Srt ltQ (sortedV ps):=Stb.stab_srt (wkQ fun p:QQ=>p.1) _;have hm:∀p,p∈sortedV ps↔p∈some2 ps:=fun p=>Stb.mem_stab
  obtain⟨a,b⟩:=fold_law (sortedV ps) [] sep_nil (fun p hp=>(mem_some2.1 ((hm p).1 hp)).2) (List.Pairwise.imp (fun {x y} h=>by unfold ltQ at h;rw[decide_eq_false_iff_not]at h;grind) hs) (by simp);refine⟨a,fun x=> ?_⟩;unfold mergeV;rw[b,cov_perm hm];exact⟨fun k=>k.elim (fun k=>(not_cov_nil k).elim) id,Or.inr⟩
theorem some2_sep {l:List QQ}(h:Sep l):some2 l=l:=by
  unfold some2;rw[List.filter_eq_self];intro p hp;rw[decide_eq_true_iff];exact h.2 p hp
theorem mergeV_sep {l:List QQ}(h:Sep l):mergeV l=l:=sep_unique (mergeV_law l).1 h (fun x=>by rw[(mergeV_law l).2,some2_sep h])
theorem mergeV_idem (ps:List QQ):mergeV (mergeV ps)=mergeV ps:=mergeV_sep (mergeV_law ps).1
def Apart (c d:QQ):Prop:=c.1<c.2->d.1<d.2->c.2<d.1\/d.2<c.1
theorem Apart.symm {c d:QQ}(h:Apart c d):Apart d c:=fun h1 h2=>(h h2 h1).symm
theorem ins_pair {α:Type}{lt:α->α->Bool}{R:α->α->Prop}(hs:∀x y,R x y->R y x){l:List α}{y:α}(h:l.Pairwise R)(hy:∀x,x∈l->R x y):(Stb.ins lt l y).Pairwise R:=by
 induction l with
 |nil=>exact List.pairwise_singleton ..
 |cons x l ih=>
  obtain⟨h1,h2⟩:=List.pairwise_cons.1 h;rw[Stb.ins];split
  ·exact List.pairwise_cons.2 ⟨fun z hz=>hs _ _ (hy z hz),h⟩
  refine List.pairwise_cons.2 ⟨fun z hz=> ?_,ih h2 fun z hz=>hy z (List.mem_cons_of_mem _ hz)⟩;rcases Stb.mem_ins.1 hz with rfl|hz
  ·exact hy x (List.mem_cons_self ..)
  exact h1 z hz
theorem stab_pair {α:Type}{lt:α->α->Bool}{R:α->α->Prop}(hs:∀x y,R x y->R y x)(l:List α)(h:l.Pairwise R):(Stb.stab lt l).Pairwise R:=by
  induction l using Stb.rev_rec with
  |nil=>exact List.Pairwise.nil
  | snoc l y ih=>
    rw[List.pairwise_append]at h;rw[Stb.stab_snoc];exact ins_pair hs (ih h.1) fun x hx=>h.2.2 x (Stb.mem_stab.1 hx) y (by simp)
theorem some2_cons (p:QQ)(l:List QQ):some2 (p::l)=if p.1<p.2 then p::some2 l else some2 l:=by
  unfold some2;by_cases h:p.1<p.2<;>simp[h]
theorem Sep.apart {l:List QQ}(h:Sep l):l.Pairwise Apart:=List.Pairwise.imp (fun h _ _=>Or.inl h) h.1
def len1 (f t:Rat)(p:QQ):Rat:=
  if (if p.1<f then f else p.1)<(if t<p.2 then t else p.2)then(if t<p.2 then t else p.2)-(if p.1<f then f else p.1)else 0
def lenV (f t:Rat)(l:List QQ):Rat:=(l.map (len1 f t)).sum
theorem lenV_nil (f t:Rat):lenV f t []=0:=rfl
theorem lenV_cons (f t:Rat)(p:QQ)(l:List QQ):lenV f t (p::l)=len1 f t p+lenV f t l:=by unfold lenV;rw[List.map_cons,List.sum_cons]
theorem lenV_app (f t:Rat)(l m:List QQ):lenV f t (l++m)=lenV f t l+lenV f t m:=by
  induction l with
  |nil=>rw[lenV_nil,List.nil_append];grind
  |cons p l ih=>rw[List.cons_append,lenV_cons,lenV_cons,ih];grind
theorem len1_empty {f t:Rat}{p:QQ}(h:¬p.1<p.2):len1 f t p=0:=by unfold len1;grind
theorem lenV_some2 (f t:Rat)(l:List QQ):lenV f t (some2 l)=lenV f t l:=by
  induction l with
  |nil=>rfl
  | cons p l ih=>
    rw[some2_cons];split
    · rw[lenV_cons,lenV_cons,ih]
    rename_i h;rw[lenV_cons,len1_empty h,ih];grind
theorem len1_nn (f t:Rat)(p:QQ):0<=len1 f t p:=by unfold len1;grind
theorem lenV_nn (f t:Rat)(l:List QQ):0<=lenV f t l:=by
  induction l with
  |nil=>rw[lenV_nil];grind
  |cons p l ih=>rw[lenV_cons];have:=len1_nn f t p;grind
theorem lenV_back {f t:Rat}(h:t<=f)(l:List QQ):lenV f t l=0:=by
  induction l with
  |nil=>rfl
  | cons p l ih=>
    rw[lenV_cons,ih];have:len1 f t p=0:=by unfold len1;grind
    grind
theorem lenV_le {f t:Rat}:∀(l:List QQ),Sep l->f<=t->lenV f t l<=t-f
 | [],_,h=>by rw[lenV_nil];grind
 |p::l,hs,h=>by
  rw[lenV_cons];have hp:=hs.head;by_cases h1:p.2<=f
  ·have:=lenV_le l hs.tail h
   have:len1 f t p=0:=by unfold len1;grind
   grind
  by_cases h2:t<=p.2
  ·have hz:lenV f t l=0:=by
    have hall:∀q,q∈l->len1 f t q=0:=fun q hq=>by have:=hs.far hq;unfold len1;grind
    clear hs;induction l with
    |nil=>rfl
    |cons q l ih=>rw[lenV_cons,hall q (List.mem_cons_self ..),ih fun r hr=>hall r (List.mem_cons_of_mem _ hr)];grind
   have:len1 f t p<=t-f:=by unfold len1;grind
   grind
  have hz:lenV f t l=lenV p.2 t l:=by
   have hall:∀q,q∈l->len1 f t q=len1 p.2 t q:=fun q hq=>by have:=hs.far hq;unfold len1;grind
   unfold lenV;rw[List.map_congr_left hall]
  have h3:=lenV_le (f:=p.2) (t:=t) l hs.tail (by grind);have:len1 f t p<=p.2-f:=by unfold len1;grind
  grind
theorem sgn_const {m k p q y z:Rat}(h:m=0\/∀r,p<r->r<q->m*r+k≠0)(hy:p<y/\y<q)(hz:p<z/\z<q)(c:m*y+k<0):m*z+k<0:=by
 rcases h with h|h
 ·subst h;grind
 apply Classical.byContradiction;intro n;have hz0:=h z hz.1 hz.2;have c2:0<m*z+k:=by grind
 have hm:m≠0:=by intro e;subst e;grind
 have e1:m*(-k/m)+k=0:=by
  rw[Rat.div_def];have:=Rat.mul_inv_cancel m hm;grind
 have e2:m*((-k/m)-y)= -(m*y+k):=by grind
 have e3:m*(z-(-k/m))=m*z+k:=by grind
 generalize-k/m=r at*
 rcases(show m<0\/0<m from by grind)with hn|hp
 ·have g1:r<y:=by
   apply Classical.byContradiction;intro hh;have:0<=r-y:=by grind
   have:=Rat.mul_nonneg (show(0:Rat)<= -m by grind) this;grind
  have g2:z<r:=by
   apply Classical.byContradiction;intro hh;have:0<=z-r:=by grind
   have:=Rat.mul_nonneg (show(0:Rat)<= -m by grind) this;grind
  exact h r (by grind) (by grind) e1
 have g1:y<r:=by
  apply Classical.byContradiction;intro hh;have:0<=y-r:=by grind
  have:=Rat.mul_nonneg (show(0:Rat)<=m by grind) this;grind
 have g2:r<z:=by
  apply Classical.byContradiction;intro hh;have:0<=r-z:=by grind
  have:=Rat.mul_nonneg (show(0:Rat)<=m by grind) this;grind
 exact h r (by grind) (by grind) e1
def Con (p q:Rat)(P:Rat->Prop):Prop:=∀y z,(p<y/\y<q)->(p<z/\z<q)->P y->P z
theorem Aff.const (p q c:Rat):Aff (fun _=>c) p q:=⟨0,c,fun y _ _=>by grind⟩
theorem Aff.add {p q:Rat}{u v:Rat->Rat}(hu:Aff u p q)(hv:Aff v p q):Aff (fun y=>u y+v y) p q:=by
  obtain⟨m,k,h1⟩:=hu;obtain⟨n,l,h2⟩:=hv;exact⟨m+n,k+l,fun y a b=>by show u y+v y=_;rw[h1 y a b,h2 y a b];grind⟩
theorem Aff.neg {p q:Rat}{u:Rat->Rat}(hu:Aff u p q):Aff (fun y=> -u y) p q:=by
  obtain⟨m,k,h1⟩:=hu;exact⟨-m,-k,fun y a b=>by show-u y=_;rw[h1 y a b];grind⟩
theorem Aff.congr {p q:Rat}{u v:Rat->Rat}(hu:Aff u p q)(h:∀y,p<y->y<q->v y=u y):Aff v p q:=by
  obtain⟨m,k,h1⟩:=hu;exact⟨m,k,fun y a b=>by rw[h y a b,h1 y a b]⟩
theorem Aff.ite {p q:Rat}{u v:Rat->Rat}{P:Rat->Prop}[∀y,Decidable (P y)](hu:Aff u p q)(hv:Aff v p q)(hP:Con p q P)(hpq:p<q):Aff (fun y=>if P y then u y else v y) p q:=by
  by_cases c:P ((p+q)/2)
  · exact hu.congr (fun y a b=>if_pos (hP _ y (mid_in hpq) ⟨a,b⟩ c))
  exact hv.congr (fun y a b=>if_neg (fun h=>c (hP y _ ⟨a,b⟩ (mid_in hpq) h)))
theorem Con.ite {p q:Rat}{P A B:Rat->Prop}[∀y,Decidable (P y)](hP:Con p q P)(hA:Con p q A)(hB:Con p q B):Con p q (fun y=>if P y then A y else B y):=by
  intro y z hy hz h;show if P z then A z else B z
  by_cases c:P y
  · rw[if_pos c]at h
    rw[if_pos (hP y z hy hz c)];exact hA y z hy hz h
  rw[if_neg c]at h;rw[if_neg (fun k=>c (hP z y hz hy k))];exact hB y z hy hz h
theorem Con.iff {p q:Rat}{P R:Rat->Prop}(h:Con p q P)(e:∀y,R y↔P y):Con p q R:=fun y z hy hz k=>(e z).2 (h y z hy hz ((e y).1 k))
theorem Con.true (p q:Rat)(c:Prop):Con p q (fun _=>c):=fun _ _ _ _ h=>h
theorem len1_aff {p q f t:Rat}{u v:Rat->Rat}(hpq:p<q)(hu:Aff u p q)(hv:Aff v p q)(c1:Con p q fun y=>u y<f)(c2:Con p q fun y=>t<v y)(c3:Con p q fun y=>u y<v y)(c4:Con p q fun y=>f<v y)(c5:Con p q fun y=>u y<t):Aff (fun y=>len1 f t (u y,v y)) p q:=by
 have hlo:Aff (fun y=>if u y<f then f else u y) p q:=Aff.ite (Aff.const p q f) hu c1 hpq;have hhi:Aff (fun y=>if t<v y then t else v y) p q:=Aff.ite (Aff.const p q t) hv c2 hpq;have hc:Con p q (fun y=>(if u y<f then f else u y)<(if t<v y then t else v y)):=by
  refine Con.iff (P:=fun y=>if u y<f then(if t<v y then f<t else f<v y)else(if t<v y then u y<t else u y<v y)) (Con.ite c1 (Con.ite c2 (Con.true p q _) c4) (Con.ite c2 c5 c3)) (fun y=> ?_);by_cases a:u y<f<;>by_cases b:t<v y<;>simp[a,b]
 exact(Aff.ite (hhi.add hlo.neg) (Aff.const p q 0) hc hpq).congr (fun y _ _=>by
  unfold len1;by_cases k:(if u y<f then f else u y)<(if t<v y then t else v y)
  ·rw[if_pos k,if_pos k];grind
  rw[if_neg k,if_neg k])
theorem Aff.sum {α:Type}{p q:Rat}{g:α->Rat->Rat}:∀{l:List α},(∀x,x∈l->Aff (g x) p q)->Aff (fun y=>(l.map fun x=>g x y).sum) p q
  | [],_=>(Aff.const p q 0).congr (fun _ _ _=>rfl)
  |x::l,h=>((h x (by simp)).add (Aff.sum (l:=l) (fun z hz=>h z (by simp[hz])))).congr (fun _ _ _=>by simp)
end Go.Proofs.YtngikkggjidenabGreat
namespace Go.Proofs.YtngikkggjidenabGreat
open Go.RowKit
attribute [local go_sem ↓] Go.wp_at_zero Go.wp_at_succ run_max_ii run_min_ii
theorem risEq_any (L:Nat)(hL:L<=60000)(Bc:Nat)(w:World)(e f:R1E)(he:e.Ok L w)(hf:f.Ok L w)(hc:w.cell? ⟨Bc,0,none⟩=some (.func (.func 19) #[] #[])):
  Calls Tryz.prog 129 #[.agg #[.bool e.a.n,.slice e.a.p e.a.l e.a.c,.bool e.a.m,.slice e.a.p2 e.a.l2 e.a.c2],.agg #[.bool f.a.n,.slice f.a.p f.a.l f.a.c,.bool f.a.m,.slice f.a.p2 f.a.l2 f.a.c2],.pointer (some ⟨Bc,0,none⟩)] w fun x w'=>x= .returned (.bool (decide (e.q=f.q)))/\Ext w w':=by
 have RE:=zH he.1;have BRE:=zH he.2;have RF:=zH hf.1;have BRF:=zH hf.2;have HC:=zH hc;clear he hf hc;go_enter Tryz.func129,Tryz.ntmps129
 have H0:=zH (Hp.start w);go_upto_region 0 with fail
 refine wl ?_;refine aA' 33 (rc e.a) H0.out ?_;intro X31 w32 H33 _;refine aA' 33 (rc f.a) H33.out ?_;intro X36 w37 H38 _;refine zq (.bool false) ?_;rcases emH (e.q=f.q)with CQ|CQ
 ·go_upto_region 1 with fail
  refine wl ?_;refine ze Bc 0 (.func (.func 19) #[] #[]) (range_oneC (H38.out.ext.get HC.out)) ?_;refine zI2 H38.out _ _ ?_;refine aC H38.out (pCmp (L:=60000) (RV.Is.nin (RE.out.dig H38.out.dig0) (Nat.le_trans BRE.out (by omega))) (RV.Is.nin (RF.out.dig H38.out.dig0) (Nat.le_trans BRF.out (by omega))) (by omega)) ?_;intro w43 H44 _;refine zp (.bool true) (by exact ezq (e:=(dec_t (rcmp_eq_i.2 CQ.out)))) ?_;refine zq (.bool true) ?_;go_wp2_with fail
  go_ret
  exact⟨by rw[decide_eq_true CQ.out];rfl,H44.out.ext⟩
 go_upto_region 1 with fail
 refine wl ?_;refine ze Bc 0 (.func (.func 19) #[] #[]) (range_oneC (H38.out.ext.get HC.out)) ?_;refine zI2 H38.out _ _ ?_;refine aC H38.out (pCmp (L:=60000) (RV.Is.nin (RE.out.dig H38.out.dig0) (Nat.le_trans BRE.out (by omega))) (RV.Is.nin (RF.out.dig H38.out.dig0) (Nat.le_trans BRF.out (by omega))) (by omega)) ?_;intro w48 H49 _;refine zp (.bool false) (by exact ezq (e:=(dec_f (fun hh=>CQ.out (rcmp_eq_i.1 hh))))) ?_;refine zq (.bool false) ?_;go_wp2_with fail
 go_ret
 exact⟨by rw[decide_eq_false CQ.out];rfl,H49.out.ext⟩
theorem cptR1_any (L:Nat)(hL:L<=60000)(Bc:Nat)(v:Value)(es:List R1E)(base:Nat)(w:World)(h:RowN w base 33 4 v es.length (es.flatMap R1E.cells))(hbase:base<=w.heap.size)(hok:∀e,e∈es->e.Ok L w)(hc:w.cell? ⟨Bc,0,none⟩=some (.func (.func 19) #[] #[]))(hB:¬v.ownBlock=some Bc)(hn:es.length<=100000000):
  Calls Tryz.prog 128 #[v,.func (.func 129) #[] #[.pointer (some ⟨Bc,0,none⟩)]] w fun x w'=>∃v',x= .returned v'/\RowN w' base 33 4 v' (compactV (fun x y:R1E=>decide (x.q=y.q)) es).length ((compactV (fun x y:R1E=>decide (x.q=y.q)) es).flatMap R1E.cells)/\w.grownBy w' v.ownBlock/\Dig w w'/\v'.ownBlock=v.ownBlock:=by
 obtain⟨w0,hx0,rfl⟩:=trunc w base hbase;have HOK:=zH hok;have HC:=zH hc;have HB:=zH hB;clear hc hB hok;rcases h.2 with⟨rfl,h0⟩|⟨g,cap,rest,rfl,hb,hg,hc1,hc2,hc3,hc4⟩
 ·have he:es=[]:=List.eq_nil_of_length_eq_zero h0
  subst he;go_enter Tryz.func128,Tryz.ntmps128
  go_wp2_with fail
  go_ret
  exact⟨_,rfl,h,World.grownBy.refl _ _,Dig.refl _,rfl⟩
 have H0:=zH (Hp.one hx0 h);have HCN:=zH hc1;clear h hx0 hb hg hc2 hc3 hc4;have HFR:=zH (show Fr (fun kz=>Value.ownBlock (.slice (some ⟨g,0,none⟩) es.length cap)=some kz) w w from Fr.of_ext (Ext.refl w));go_enter Tryz.func128,Tryz.ntmps128
 go_upto_region 0 with fail
 refine wl ?_;refine zI1 (Hp.start _) _ ?_;by_cases c2:es.length<2
 ·have HS:=zH c2
  clear c2;go_upto_region 1 with fail
  refine wl ?_;refine zI2 (Hp.start _) _ (.int .i64 ((es.length:Nat):Int)) ?_;refine zp (.bool true) (by exact ezl (e:=(dec_t (by have ob0:=HS.out;omega)))) ?_;go_upto_region 2 with fail
  refine wl ?_;refine zI2 (Hp.start _) _ _ ?_;have hcv:compactV (fun x y:R1E=>decide (x.q=y.q)) es=es:=by have hs:=HS.out;match es,hs with| [],_=>rfl| [x],_=>rfl|x::y::l,hs=>exact absurd hs (by simp)
  go_wp2_with fail
  go_ret
  exact⟨_,rfl,by rw[hcv];exact H0.out.row (i:=0) (by rfl),World.grownBy.refl _ _,Dig.refl _,rfl⟩
 have HS:=zH c2;clear c2;go_upto_region 1 with fail
 refine wl ?_;refine zI2 (Hp.start _) _ (.int .i64 ((es.length:Nat):Int)) ?_;refine zp (.bool false) (by exact ezl (e:=(dec_f (by have ob0:=HS.out;omega)))) ?_;go_upto_region 3 with fail
 refine wl ?_;refine zq (.int .i64 1) ?_;go_wp2_with fail
 go_loopg [5] (es.length) (fun cq v12 wr=>∃(j:Nat),cq=es.length-j/\v12= .int .i64 ((j+1:Nat):Int)/\(j+1<=es.length)/\(compactV (fun x y:R1E=>decide (x.q=y.q)) (es.take (j+1))=es.take (j+1))/\(Fr (fun kz=>Value.ownBlock (.slice (some ⟨g,0,none⟩) es.length cap)=some kz) w wr)/\Hp w0 wr [.row 33 4 (.slice (some ⟨g,0,none⟩) es.length cap) (es.length) (List.flatMap R1E.cells es)]/\Dig w wr)
 case atStart=>exact⟨0,rfl,rfl,(by have h_:=HS.out;omega),(by have hs:=HS.out;match es,hs with| [],hs=>exact absurd hs (by decide)|x::l,_=>rfl),HFR.out,H0.out,Dig.refl _⟩
 obtain⟨j,rfl,rfl,q_HK,q_HCV,q_HFR,hh_,hd_⟩:=hrel;generalize wr=w13 at*
 have HK:=zH q_HK;clear q_HK;have HCV:=zH q_HCV;clear q_HCV;have HFR:=zH q_HFR;clear q_HFR;have H15:=zH hh_;have D15:=zH hd_;clear hh_ hd_;rcases emH (j+1<es.length)with HLT|HLT
 ·go_upto_region 4 with fail
  refine wl ?_;refine zI3 (Hp.start _) (.int .i64 ((j+1:Nat):Int)) _ (.int .i64 ((es.length:Nat):Int)) ?_;refine zp (.bool true) (by exact ezl (e:=(dec_t (by have ob0:=HK.out;have ob1:=HLT.out;omega)))) ?_;obtain⟨e,he⟩:∃e,es[j+1]?=some e:=⟨_,List.getElem?_eq_getElem HLT.out⟩;obtain⟨f,hf⟩:∃f,es[j]?=some f:=⟨_,List.getElem?_eq_getElem (by have h_:=HLT.out;omega)⟩;have HQe:=zH he;have ho_:=HOK.out e (List.mem_of_getElem? he);have HAe:=zH ho_.1;have BAe:=zH ho_.2;clear he ho_;have HQf:=zH hf;have ho_:=HOK.out f (List.mem_of_getElem? hf);have HAf:=zH ho_.1;have BAf:=zH ho_.2;clear hf ho_;have HST:=zH (compact_step (eqv:=(fun x y:R1E=>decide (x.q=y.q))) HQe.out HQf.out);rcases emH (e.q=f.q)with HEQ|HEQ
  ·go_upto_region 6 with fail
   refine zy ?_;have H22:=zH (H15.out.step (Ext.refl w13).drew);have D22:=zH (Dig.of_ext (w:=w13) zb);have K24:=zH (HFR.out.trans (Fr.of_ext (Ext.refl w13).drew));refine zJ3 (Hp.start _) zb (bs 11 7) 0 1 2 _ _ (.int .i64 ((j+1:Nat):Int)) ?_;refine zo 3 (bs 11 15) (v:= .pointer (some ⟨g,(j+1)*4,none⟩)) zb ?_ (hv:=by intro w hSw;exact ezi (k:=j+1) Tryz.underlying76 (l:=(by have h_:=HLT.out;omega)) (f:=(Nat.zero_add _).symm));refine zg 4 (bs 11 31) g ((j+1)*4) (rc e.a) (H15.out.elem (f:=R1E.cells) (i:=0) rR R1E.len HQe.out) Tryz.underlying33 zb ?_;refine zJ2 (Hp.start _) zb (bs 11 127) 5 6 _ (.int .i64 ((j+1:Nat):Int)) ?_;refine zu 7 (bs 11 255) (v:= .int .i64 (j:Int)) zb ?_ (hv:=by intro w hSw;exact ez2 (by have ob0:=HK.out;have ob1:=HLT.out;omega));refine zo 8 (bs 11 511) (v:= .pointer (some ⟨g,j*4,none⟩)) zb ?_ (hv:=by intro w hSw;exact ezi (k:=j) Tryz.underlying76 (l:=(by have h_:=HLT.out;omega)) (f:=(Nat.zero_add _).symm));refine zg 9 (bs 11 1023) g (j*4) (rc f.a) (H15.out.elem (f:=R1E.cells) (i:=0) rR R1E.len HQf.out) Tryz.underlying33 zb ?_;have DD34:=tD D15 D22;refine mC 10 (bs 11 2047) (risEq_any L hL Bc _ e f ⟨(HAe.out.dig DD34.out),BAe.out⟩ ⟨(HAf.out.dig DD34.out),BAf.out⟩ (K24.out.cell HC.out HB.out)) ?_;rintro e w33 ⟨rfl,hx⟩;have H35:=zH (H22.out.step hx);have D35:=zH (show Dig w13.drew w33 from Dig.of_ext hx);have K37:=zH (K24.out.trans (Fr.of_ext hx));have S38:=zH (zb.trans hx);clear hx;refine⟨.bool true,by rw[decide_eq_true HEQ.out],S38.out,?_⟩;try simp only[Act.put,zA,zB,zC]
   refine wpAnyH_done kR ?_ _;obtain⟨d,hd⟩:∃d,es.length=j+1+d:=⟨es.length-(j+1),by have h_:=HLT.out;omega⟩;obtain⟨c2,hc2⟩:∃c2,cap=j+1+c2:=⟨cap-(j+1),by have h_:=HLT.out;have h2_:=HCN.out;omega⟩;have HD:=zH hd;have HC2:=zH hc2;clear hd hc2;go_upto_region 7 with fail
   refine wl ?_;refine zI2 (Hp.start _) _ (.int .i64 ((j+1:Nat):Int)) ?_;refine zp (.slice (some ⟨g,(j+1)*4,none⟩) d c2) (by exact ev_drop rR Tryz.underlying76 kR rR rR (by first|rfl|omega) HD.out (by have ob0:=HK.out;have ob1:=HLT.out;have ob2:=HD.out;have ob3:=HC2.out;have ob4:=HCN.out;omega) HC2.out (by have ob0:=HK.out;have ob1:=HLT.out;have ob2:=HD.out;have ob3:=HC2.out;have ob4:=HCN.out;omega)) ?_;refine zq (.slice (some ⟨g,(j+1)*4,none⟩) d c2) ?_;go_upto_region 8 with fail
   refine wl ?_;refine zq (.int .i64 1) ?_;go_wp2_with fail
   go_loopg [5,7] (d) (fun cq v44 v45 wr=>∃(i:Nat) (k:Nat) (ds:List R1E),cq=d-i/\v44= .int .i64 (k:Int)/\v45= .int .i64 ((i+1:Nat):Int)/\(i+1<=d)/\(k<j+1+(i+1))/\(ds.length=es.length)/\(ds.take k=compactV (fun x y:R1E=>decide (x.q=y.q)) (es.take (j+1+(i+1))))/\(ds.drop (j+1+i)=es.drop (j+1+i))/\(Fr (fun kz=>Value.ownBlock (.slice (some ⟨g,0,none⟩) es.length cap)=some kz) w wr)/\Hp w0 wr [.row 33 4 (.slice (some ⟨g,0,none⟩) es.length cap) (es.length) (List.flatMap R1E.cells ds)]/\Dig w33 wr)
   case atStart=>exact⟨0,j+1,es,rfl,rfl,rfl,(by have h_:=HLT.out;have h2_:=HD.out;omega),(by omega),rfl,(by rw[show j+1+(0+1)=j+1+1 by omega,HST.out,if_pos (decide_eq_true HEQ.out),List.append_nil];exact HCV.out.symm),rfl,K37.out,H35.out,Dig.refl _⟩
   obtain⟨i,k,ds,rfl,rfl,rfl,q_HI,q_HKI,q_HDL,q_HD2,q_HD3,q_HFR,hh_,hd_⟩:=hrel;generalize wr=w46 at*
   have HI:=zH q_HI;clear q_HI;have HKI:=zH q_HKI;clear q_HKI;have HDL:=zH q_HDL;clear q_HDL;have HD2:=zH q_HD2;clear q_HD2;have HD3:=zH q_HD3;clear q_HD3;have HFR:=zH q_HFR;clear q_HFR;have H48:=zH hh_;have D48:=zH hd_;clear hh_ hd_ H35;rcases emH (i+1<d)with HLT2|HLT2
   ·go_upto_region 9 with fail
    refine wl ?_;refine zI3 (Hp.start _) (.int .i64 ((i+1:Nat):Int)) (.slice (some ⟨g,(j+1)*4,none⟩) d c2) (.int .i64 (d:Int)) ?_;refine zp (.bool true) (by exact ezl (e:=(dec_t (by have ob0:=HI.out;have ob1:=HKI.out;have ob2:=HD.out;have ob3:=HC2.out;have ob4:=HCN.out;have ob5:=HDL.out;have ob6:=HLT2.out;omega)))) ?_;obtain⟨e2,he2⟩:∃e2,es[j+1+i+1]?=some e2:=⟨_,List.getElem?_eq_getElem (by have h_:=HLT2.out;have h2_:=HD.out;omega)⟩;obtain⟨f2,hf2⟩:∃f2,es[j+1+i]?=some f2:=⟨_,List.getElem?_eq_getElem (by have h_:=HLT2.out;have h2_:=HD.out;omega)⟩;have HQe2:=zH he2;have ho_:=HOK.out e2 (List.mem_of_getElem? he2);have HAe2:=zH ho_.1;have BAe2:=zH ho_.2;clear he2 ho_;have HQf2:=zH hf2;have ho_:=HOK.out f2 (List.mem_of_getElem? hf2);have HAf2:=zH ho_.1;have BAf2:=zH ho_.2;clear hf2 ho_;have HRe2:=zH (show ds[j+1+(i+1)]?=some e2 from(get_of_drop HD3.out (by omega)).trans HQe2.out);have HRf2:=zH (show ds[j+1+i]?=some f2 from(get_of_drop HD3.out (by omega)).trans HQf2.out);have HST2:=zH (compact_step (eqv:=(fun x y:R1E=>decide (x.q=y.q))) HQe2.out HQf2.out);rcases emH (e2.q=f2.q)with HEQ2|HEQ2
    ·go_upto_region 11 with fail
     refine zy ?_;have H55:=zH (H48.out.step (Ext.refl w46).drew);have D55:=zH (Dig.of_ext (w:=w46) zb);have K57:=zH (HFR.out.trans (Fr.of_ext (Ext.refl w46).drew));refine zJ3 (Hp.start _) zb (bs 12 7) 0 1 2 _ (.slice (some ⟨g,(j+1)*4,none⟩) d c2) (.int .i64 ((i+1:Nat):Int)) ?_;refine zo 3 (bs 12 15) (v:= .pointer (some ⟨g,(j+1)*4+(i+1)*4,none⟩)) zb ?_ (hv:=by intro w hSw;exact ezi (k:=i+1) Tryz.underlying76 (l:=(by have h_:=HLT2.out;omega)) (f:=rfl));refine zg 4 (bs 12 31) g ((j+1)*4+(i+1)*4) (rc e2.a) (elem_off (H48.out.elem (f:=R1E.cells) (i:=0) rR R1E.len HRe2.out)) Tryz.underlying33 zb ?_;refine zJ2 (Hp.start _) zb (bs 12 127) 5 6 (.slice (some ⟨g,(j+1)*4,none⟩) d c2) (.int .i64 ((i+1:Nat):Int)) ?_;refine zu 7 (bs 12 255) (v:= .int .i64 (i:Int)) zb ?_ (hv:=by intro w hSw;exact ez2 (by have ob0:=HI.out;have ob1:=HKI.out;have ob2:=HD.out;have ob3:=HC2.out;have ob4:=HCN.out;have ob5:=HDL.out;have ob6:=HLT2.out;omega));refine zo 8 (bs 12 511) (v:= .pointer (some ⟨g,(j+1)*4+i*4,none⟩)) zb ?_ (hv:=by intro w hSw;exact ezi (k:=i) Tryz.underlying76 (l:=(by have h_:=HLT2.out;omega)) (f:=rfl));refine zg 9 (bs 12 1023) g ((j+1)*4+i*4) (rc f2.a) (elem_off (H48.out.elem (f:=R1E.cells) (i:=0) rR R1E.len HRf2.out)) Tryz.underlying33 zb ?_;have DD67:=tD (tD (tD DD34 D35) D48) D55;refine mC 10 (bs 12 2047) (risEq_any L hL Bc _ e2 f2 ⟨(HAe2.out.dig DD67.out),BAe2.out⟩ ⟨(HAf2.out.dig DD67.out),BAf2.out⟩ (K57.out.cell HC.out HB.out)) ?_;rintro e w66 ⟨rfl,hx⟩;have H68:=zH (H55.out.step hx);have D68:=zH (show Dig w46.drew w66 from Dig.of_ext hx);have K70:=zH (K57.out.trans (Fr.of_ext hx));have S71:=zH (zb.trans hx);clear hx;refine⟨.bool true,by rw[decide_eq_true HEQ2.out],S71.out,?_⟩;try simp only[Act.put,zA,zB,zC]
     refine zx 11 (bs 12 4095) (.bool false) S71.out ?_;refine wpAnyH_done kR ?_ _;go_upto_region 10 with fail
     refine wl ?_;refine zq (.int .i64 ((i+1:Nat):Int)) ?_;refine zp (.int .i64 ((i+2:Nat):Int)) (by exact ez1 (by have ob0:=HI.out;have ob1:=HKI.out;have ob2:=HD.out;have ob3:=HC2.out;have ob4:=HCN.out;have ob5:=HDL.out;have ob6:=HLT2.out;omega)) ?_;refine zq (.int .i64 ((i+2:Nat):Int)) ?_;have DD76:=tD (tD D48 D55) D68;go_wp2_with fail
     go_roundg (d-(i+1))
     case measure=>exact(by have ob0:=HI.out;have ob1:=HKI.out;have ob2:=HD.out;have ob3:=HC2.out;have ob4:=HCN.out;have ob5:=HDL.out;have ob6:=HLT2.out;have ob8:=(show i<d from by have h_:=HLT2.out;omega);omega)
     case rel=>exact⟨i+1,k,ds,rfl,rfl,(by go_num),HLT2.out,(by have h_:=HKI.out;omega),HDL.out,(by rw[show j+1+(i+1+1)=j+1+i+1+1 by omega,HST2.out,if_pos (decide_eq_true HEQ2.out),List.append_nil];exact HD2.out),(by rw[show j+1+(i+1)=(j+1+i)+1 by omega,<-List.drop_drop,HD3.out,List.drop_drop]),K70.out,H68.out,DD76.out⟩
    go_upto_region 11 with fail
    refine zy ?_;have H77:=zH (H48.out.step (Ext.refl w46).drew);have D77:=zH (Dig.of_ext (w:=w46) zb);have K79:=zH (HFR.out.trans (Fr.of_ext (Ext.refl w46).drew));refine zJ3 (Hp.start _) zb (bs 12 7) 0 1 2 _ (.slice (some ⟨g,(j+1)*4,none⟩) d c2) (.int .i64 ((i+1:Nat):Int)) ?_;refine zo 3 (bs 12 15) (v:= .pointer (some ⟨g,(j+1)*4+(i+1)*4,none⟩)) zb ?_ (hv:=by intro w hSw;exact ezi (k:=i+1) Tryz.underlying76 (l:=(by have h_:=HLT2.out;omega)) (f:=rfl));refine zg 4 (bs 12 31) g ((j+1)*4+(i+1)*4) (rc e2.a) (elem_off (H48.out.elem (f:=R1E.cells) (i:=0) rR R1E.len HRe2.out)) Tryz.underlying33 zb ?_;refine zJ2 (Hp.start _) zb (bs 12 127) 5 6 (.slice (some ⟨g,(j+1)*4,none⟩) d c2) (.int .i64 ((i+1:Nat):Int)) ?_;refine zu 7 (bs 12 255) (v:= .int .i64 (i:Int)) zb ?_ (hv:=by intro w hSw;exact ez2 (by have ob0:=HI.out;have ob1:=HKI.out;have ob2:=HD.out;have ob3:=HC2.out;have ob4:=HCN.out;have ob5:=HDL.out;have ob6:=HLT2.out;omega));refine zo 8 (bs 12 511) (v:= .pointer (some ⟨g,(j+1)*4+i*4,none⟩)) zb ?_ (hv:=by intro w hSw;exact ezi (k:=i) Tryz.underlying76 (l:=(by have h_:=HLT2.out;omega)) (f:=rfl));refine zg 9 (bs 12 1023) g ((j+1)*4+i*4) (rc f2.a) (elem_off (H48.out.elem (f:=R1E.cells) (i:=0) rR R1E.len HRf2.out)) Tryz.underlying33 zb ?_;have DD89:=tD (tD (tD DD34 D35) D48) D77;refine mC 10 (bs 12 2047) (risEq_any L hL Bc _ e2 f2 ⟨(HAe2.out.dig DD89.out),BAe2.out⟩ ⟨(HAf2.out.dig DD89.out),BAf2.out⟩ (K79.out.cell HC.out HB.out)) ?_;rintro e w88 ⟨rfl,hx⟩;have H90:=zH (H77.out.step hx);have D90:=zH (show Dig w46.drew w88 from Dig.of_ext hx);have K92:=zH (K79.out.trans (Fr.of_ext hx));have S93:=zH (zb.trans hx);clear hx;refine⟨.bool false,by rw[decide_eq_false HEQ2.out],S93.out,?_⟩;try simp only[Act.put,zA,zB,zC]
    refine zx 11 (bs 12 4095) (.bool true) S93.out ?_;refine wpAnyH_done kR ?_ _;go_upto_region 12 with fail
    refine wl ?_;refine zI4 (Hp.start _) _ (.int .i64 (k:Int)) (.slice (some ⟨g,(j+1)*4,none⟩) d c2) (.int .i64 ((i+1:Nat):Int)) ?_;refine zp (.pointer (some ⟨g,(j+1)*4+(i+1)*4,none⟩)) (by exact ezi (k:=i+1) Tryz.underlying76 (l:=(by have h_:=HLT2.out;omega)) (f:=rfl)) ?_;refine zd g ((j+1)*4+(i+1)*4) (rc e2.a) (elem_off (H90.out.elem (f:=R1E.cells) (i:=0) rR R1E.len HRe2.out)) Tryz.underlying33 ?_;refine zp (.pointer (some ⟨g,k*4,none⟩)) (by exact ezi (k:=k) Tryz.underlying76 (l:=(by have h_:=HKI.out;have h1_:=HLT2.out;have h2_:=HD.out;omega)) (f:=(Nat.zero_add _).symm)) ?_;refine mv_stElem (f:=R1E.cells) rR _ _ _ rR H90.out (ix:=0) rR R1E.len k e2 (by have h_:=HKI.out;have h1_:=HLT2.out;have h2_:=HD.out;have h3_:=HDL.out;omega) [.bool e2.a.n,.slice e2.a.p e2.a.l e2.a.c,.bool e2.a.m,.slice e2.a.p2 e2.a.l2 e2.a.c2] rR (k*4) rR rR rR kR (by simp[Value.oneCell']) (by simp[NoUL]) ?_;intro w102 hh hd ho;have H103:=hN hh;have D103:=zH (hd);have K105:=zH (K92.out.trans_new ho (fun j hj=> .inl hj));clear hh hd ho
    (try simp only[Act.put])
    go_upto_region 13 with fail
    refine wl ?_;refine zq (.int .i64 (k:Int)) ?_;refine zp (.int .i64 ((k+1:Nat):Int)) (by exact ez1 (by have ob0:=HI.out;have ob1:=HKI.out;have ob2:=HD.out;have ob3:=HC2.out;have ob4:=HCN.out;have ob5:=HDL.out;have ob6:=HLT2.out;omega)) ?_;refine zq (.int .i64 ((k+1:Nat):Int)) ?_;go_upto_region 10 with fail
    refine wl ?_;refine zq (.int .i64 ((i+1:Nat):Int)) ?_;refine zp (.int .i64 ((i+2:Nat):Int)) (by exact ez1 (by have ob0:=HI.out;have ob1:=HKI.out;have ob2:=HD.out;have ob3:=HC2.out;have ob4:=HCN.out;have ob5:=HDL.out;have ob6:=HLT2.out;omega)) ?_;refine zq (.int .i64 ((i+2:Nat):Int)) ?_;have DD112:=tD (tD (tD D48 D77) D90) D103;go_wp2_with fail
    go_roundg (d-(i+1))
    case measure=>exact(by have ob0:=HI.out;have ob1:=HKI.out;have ob2:=HD.out;have ob3:=HC2.out;have ob4:=HCN.out;have ob5:=HDL.out;have ob6:=HLT2.out;have ob8:=(show i<d from by have h_:=HLT2.out;omega);omega)
    case rel=>exact⟨i+1,k+1,(ds.set k e2),rfl,(by go_num),(by go_num),HLT2.out,(by have h_:=HKI.out;omega),(by rw[List.length_set];exact HDL.out),(by rw[show j+1+(i+1+1)=j+1+i+1+1 by omega,HST2.out,if_neg (by rw[decide_eq_false HEQ2.out];decide),take_set_snoc (by have h_:=HKI.out;have h1_:=HLT2.out;have h2_:=HD.out;have h3_:=HDL.out;omega)];exact congrArg (· ++[e2]) HD2.out),(by rw[List.drop_set_of_lt (by have h_:=HKI.out;omega),show j+1+(i+1)=(j+1+i)+1 by omega,<-List.drop_drop,HD3.out,List.drop_drop]),K105.out,H103.out,DD112.out⟩
   go_upto_region 9 with fail
   refine wl ?_;refine zI3 (Hp.start _) (.int .i64 ((i+1:Nat):Int)) (.slice (some ⟨g,(j+1)*4,none⟩) d c2) (.int .i64 (d:Int)) ?_;refine zp (.bool false) (by exact ezl (e:=(dec_f (by have ob0:=HI.out;have ob1:=HKI.out;have ob2:=HD.out;have ob3:=HC2.out;have ob4:=HCN.out;have ob5:=HDL.out;have ob6:=HLT2.out;omega)))) ?_;have hid_:i+1=d:=by have h_:=HLT2.out;have h2_:=HI.out;omega
   have HTK:=zH (show ds.take k=compactV (fun x y:R1E=>decide (x.q=y.q)) es from by rw[HD2.out,show j+1+(i+1)=es.length by rw[HD.out];omega,List.take_of_length_le (Nat.le_refl _)]);obtain⟨d3,hd3⟩:∃d3,es.length=k+d3:=⟨es.length-k,by have h_:=HKI.out;have h2_:=HD.out;omega⟩;obtain⟨c3,hc3⟩:∃c3,cap=k+c3:=⟨cap-k,by have h_:=HKI.out;have h2_:=HD.out;have h3_:=HCN.out;omega⟩;have HD4:=zH hd3;have HC3:=zH hc3;have hd0:0<d3:=by have h_:=HKI.out;have h2_:=HD.out;omega
   have HD0:=zH hd0;clear hd3 hc3 hid_ hd0;go_upto_region 14 with fail
   refine wl ?_;refine zI2 (Hp.start _) _ (.int .i64 (k:Int)) ?_;refine zp (.slice (some ⟨g,k*4,none⟩) d3 c3) (by exact ev_drop rR Tryz.underlying76 kR rR rR (by first|rfl|omega) HD4.out HD0.out HC3.out (by have ob0:=HI.out;have ob1:=HKI.out;have ob2:=HD.out;have ob3:=HC2.out;have ob4:=HCN.out;have ob5:=HDL.out;have ob6:=HLT2.out;have ob7:=HD4.out;have ob8:=HC3.out;have ob9:=HD0.out;omega)) ?_;refine mv_clear (f:=R1E.cells) rR _ 76 rR H48.out (ix:=0) rR R1E.len HDL.out k c3 (by have h_:=HD4.out;have h2_:=HD0.out;omega) (by rw[show es.length-k=d3 by have h_:=HD4.out;omega];rfl) Tryz.underlying76 (.agg z4) Tryz.zeroValue33 rfl (by simp[Value.cells,Value.oneCell']) (by simp[Value.cells,NoUL]) dC ?_;intro w120 hh hd ho;have H121:=hN hh;have D121:=zH (hd);have K123:=zH (HFR.out.trans_new ho (fun j hj=> .inl hj));clear hh hd ho
   (try simp only[Act.put])
   go_upto_region 15 with fail
   refine wl ?_;refine zI2 (Hp.start _) _ (.int .i64 (k:Int)) ?_;refine zp (.slice (some ⟨g,0,none⟩) k cap) (by exact ev_head (size:=4) rR Tryz.underlying76 kR rR rR (by first|rfl|omega) (by have h_:=HD4.out;omega) HCN.out (by have h_:=HC3.out;have h2_:=HD4.out;have h3_:=HCN.out;have h4_:=HD0.out;omega)) ?_;refine zI1 (Hp.start _) _ ?_;have HRW:=zH (H121.out.row (i:=0) (by rfl));have hlen:(ds.take k).length=k:=by rw[List.length_take,HDL.out,HD4.out];omega
   rw[HTK.out]at hlen HRW;go_wp2_with fail
   go_ret
   exact⟨_,rfl,by rw[hlen];exact HRW.out,K123.out.grownBy,((((D15.out.trans D22.out).trans D35.out).trans D48.out).trans D121.out),rfl⟩
  go_upto_region 6 with fail
  refine zy ?_;have H128:=zH (H15.out.step (Ext.refl w13).drew);have D128:=zH (Dig.of_ext (w:=w13) zb);have K130:=zH (HFR.out.trans (Fr.of_ext (Ext.refl w13).drew));refine zJ3 (Hp.start _) zb (bs 11 7) 0 1 2 _ _ (.int .i64 ((j+1:Nat):Int)) ?_;refine zo 3 (bs 11 15) (v:= .pointer (some ⟨g,(j+1)*4,none⟩)) zb ?_ (hv:=by intro w hSw;exact ezi (k:=j+1) Tryz.underlying76 (l:=(by have h_:=HLT.out;omega)) (f:=(Nat.zero_add _).symm));refine zg 4 (bs 11 31) g ((j+1)*4) (rc e.a) (H15.out.elem (f:=R1E.cells) (i:=0) rR R1E.len HQe.out) Tryz.underlying33 zb ?_;refine zJ2 (Hp.start _) zb (bs 11 127) 5 6 _ (.int .i64 ((j+1:Nat):Int)) ?_;refine zu 7 (bs 11 255) (v:= .int .i64 (j:Int)) zb ?_ (hv:=by intro w hSw;exact ez2 (by have ob0:=HK.out;have ob1:=HLT.out;omega));refine zo 8 (bs 11 511) (v:= .pointer (some ⟨g,j*4,none⟩)) zb ?_ (hv:=by intro w hSw;exact ezi (k:=j) Tryz.underlying76 (l:=(by have h_:=HLT.out;omega)) (f:=(Nat.zero_add _).symm));refine zg 9 (bs 11 1023) g (j*4) (rc f.a) (H15.out.elem (f:=R1E.cells) (i:=0) rR R1E.len HQf.out) Tryz.underlying33 zb ?_;have DD140:=tD D15 D128;refine mC 10 (bs 11 2047) (risEq_any L hL Bc _ e f ⟨(HAe.out.dig DD140.out),BAe.out⟩ ⟨(HAf.out.dig DD140.out),BAf.out⟩ (K130.out.cell HC.out HB.out)) ?_;rintro e w139 ⟨rfl,hx⟩;have H141:=zH (H128.out.step hx);have D141:=zH (show Dig w13.drew w139 from Dig.of_ext hx);have K143:=zH (K130.out.trans (Fr.of_ext hx));have S144:=zH (zb.trans hx);clear hx;refine⟨.bool false,by rw[decide_eq_false HEQ.out],S144.out,?_⟩;try simp only[Act.put,zA,zB,zC]
  refine wpAnyH_done kR ?_ _;go_upto_region 5 with fail
  refine wl ?_;refine zq (.int .i64 ((j+1:Nat):Int)) ?_;refine zp (.int .i64 ((j+2:Nat):Int)) (by exact ez1 (by have ob0:=HK.out;have ob1:=HLT.out;omega)) ?_;refine zq (.int .i64 ((j+2:Nat):Int)) ?_;have DD148:=tD DD140 D141;go_wp2_with fail
  go_roundg (es.length-(j+1))
  case measure=>exact(by have ob0:=HK.out;have ob1:=HLT.out;have ob3:=(show j<es.length from by have h_:=HLT.out;omega);omega)
  case rel=>exact⟨j+1,rfl,(by go_num),HLT.out,(by rw[HST.out,if_neg (by rw[decide_eq_false HEQ.out];decide),HCV.out,List.take_add_one (i:=j+1),HQe.out];rfl),K143.out,H141.out,DD148.out⟩
 go_upto_region 4 with fail
 refine wl ?_;refine zI3 (Hp.start _) (.int .i64 ((j+1:Nat):Int)) _ (.int .i64 ((es.length:Nat):Int)) ?_;refine zp (.bool false) (by exact ezl (e:=(dec_f (by have ob0:=HK.out;have ob1:=HLT.out;omega)))) ?_;go_upto_region 16 with fail
 refine wl ?_;refine zI2 (Hp.start _) _ _ ?_;have hcv:compactV (fun x y:R1E=>decide (x.q=y.q)) es=es:=by have h_:=HCV.out;rwa[show j+1=es.length by have h2_:=HLT.out;have h3_:=HK.out;omega,List.take_of_length_le (Nat.le_refl _)]at h_
 go_wp2_with fail
 go_ret
 exact⟨_,rfl,by rw[hcv];exact H15.out.row (i:=0) (by rfl),HFR.out.grownBy,D15.out,rfl⟩
end Go.Proofs.YtngikkggjidenabGreat
namespace Go.Proofs.YtngikkggjidenabGreat
open Go.Shelf Go.RowKit
def sortRat_ren:Go.Shelf.Ren:=⟨fun|6=>127|15=>164|14=>163|28=>147|29=>188|20=>180|21=>181|22=>182|23=>183|24=>184|25=>185|26=>186|27=>187|46=>197|47=>198|48=>199|49=>200|50=>201|57=>204|n=>n,fun|22=>76|24=>33|25=>47|3=>3|39=>88|0=>0|53=>81|55=>86|4=>4|46=>174|45=>173|50=>178|5=>5|9=>9|66=>183|70=>187|76=>189|77=>190|n=>n,fun|n=>n⟩
theorem sortRat:Go.Proofs.SlLaysF0.n6 Tryz.prog sortRat_ren:={
 mixed:=by kernel_rfl
 f6:=⟨Tryz.f127.name,by decide,Tryz.func127.trans (congrArg some (by kernel_rfl))⟩
 f14:=⟨Tryz.f163.name,by decide,Tryz.func163.trans (congrArg some (by kernel_rfl))⟩
 f15:=Tryz.func164.trans (congrArg some (by kernel_rfl))
 f20:=⟨Tryz.f180.name,by decide,Tryz.func180.trans (congrArg some (by kernel_rfl))⟩
 f21:=⟨Tryz.f181.name,by decide,Tryz.func181.trans (congrArg some (by kernel_rfl))⟩
 f22:=⟨Tryz.f182.name,by decide,Tryz.func182.trans (congrArg some (by kernel_rfl))⟩
 f23:=⟨Tryz.f183.name,by decide,Tryz.func183.trans (congrArg some (by kernel_rfl))⟩
 f24:=⟨Tryz.f184.name,by decide,Tryz.func184.trans (congrArg some (by kernel_rfl))⟩
 f25:=⟨Tryz.f185.name,by decide,Tryz.func185.trans (congrArg some (by kernel_rfl))⟩
 f26:=⟨Tryz.f186.name,by decide,Tryz.func186.trans (congrArg some (by kernel_rfl))⟩
 f27:=⟨Tryz.f187.name,by decide,Tryz.func187.trans (congrArg some (by kernel_rfl))⟩
 f28:=Tryz.func147.trans (congrArg some (by kernel_rfl))
 f29:=Tryz.func188.trans (congrArg some (by kernel_rfl))
 f46:=⟨Tryz.f197.name,by decide,Tryz.func197.trans (congrArg some (by kernel_rfl))⟩
 f47:=Tryz.func198.trans (congrArg some (by kernel_rfl))
 f48:=Tryz.func199.trans (congrArg some (by kernel_rfl))
 f49:=⟨Tryz.f200.name,by decide,Tryz.func200.trans (congrArg some (by kernel_rfl))⟩
 f50:=⟨Tryz.f201.name,by decide,Tryz.func201.trans (congrArg some (by kernel_rfl))⟩
 f57:=⟨Tryz.f204.name,by decide,Tryz.func204.trans (congrArg some (by kernel_rfl))⟩
 t0:=Tryz.underlying0
 a0:=Tryz.isAgg0
 z0:=Tryz.sizeOf0
 v0:=Tryz.zeroValue0
 t3:=Tryz.underlying3
 a3:=Tryz.isAgg3
 z3:=Tryz.sizeOf3
 v3:=Tryz.zeroValue3
 t4:=Tryz.underlying4
 a4:=Tryz.isAgg4
 z4:=Tryz.sizeOf4
 v4:=Tryz.zeroValue4
 t5:=Tryz.underlying5
 a5:=Tryz.isAgg5
 z5:=Tryz.sizeOf5
 v5:=Tryz.zeroValue5
 t9:=Tryz.underlying9
 a9:=Tryz.isAgg9
 z9:=Tryz.sizeOf9
 v9:=Tryz.zeroValue9
 t22:=Tryz.underlying76
 a22:=Tryz.isAgg76
 z22:=Tryz.sizeOf76
 v22:=Tryz.zeroValue76
 t25:=Tryz.underlying47
 a25:=Tryz.isAgg47
 z25:=Tryz.sizeOf47
 v25:=Tryz.zeroValue47
 t39:=Tryz.underlying88
 a39:=Tryz.isAgg88
 z39:=Tryz.sizeOf88
 v39:=Tryz.zeroValue88
 t45:=Tryz.underlying173
 a45:=Tryz.isAgg173
 z45:=Tryz.sizeOf173
 v45:=Tryz.zeroValue173
 t46:=Tryz.underlying174
 a46:=Tryz.isAgg174
 z46:=Tryz.sizeOf174
 v46:=Tryz.zeroValue174
 t50:=Tryz.underlying178
 a50:=Tryz.isAgg178
 z50:=Tryz.sizeOf178
 v50:=Tryz.zeroValue178
 t53:=Tryz.underlying81
 a53:=Tryz.isAgg81
 z53:=Tryz.sizeOf81
 v53:=Tryz.zeroValue81
 t55:=Tryz.underlying86
 a55:=Tryz.isAgg86
 z55:=Tryz.sizeOf86
 v55:=Tryz.zeroValue86
 t66:=Tryz.underlying183
 a66:=Tryz.isAgg183
 z66:=Tryz.sizeOf183
 v66:=Tryz.zeroValue183
 t70:=Tryz.underlying187
 a70:=Tryz.isAgg187
 z70:=Tryz.sizeOf187
 v70:=Tryz.zeroValue187
 t76:=Tryz.underlying189
 a76:=Tryz.isAgg189
 z76:=Tryz.sizeOf189
 v76:=Tryz.zeroValue189
 t77:=Tryz.underlying190
 a77:=Tryz.isAgg190
 z77:=Tryz.sizeOf190
 v77:=Tryz.zeroValue190}
theorem sortR1_any (L:Nat)(hL:L<=60000)(v:Value)(es:List R1E)(base:Nat)(w:World)(h:RowN w base 33 4 v es.length (es.flatMap R1E.cells))(hok:∀e,e∈es->e.Ok L w)(hn:es.length<=100000000):
  Calls Tryz.prog 127 #[v,.func (.func 19) #[] #[]] w fun e w'=>e= .returned (.tuple #[])/\
   ∃es':List R1E,es'.Perm es/\es'.Pairwise (fun x y=>x.q<=y.q)/\RowN w' base 33 4 v es'.length (es'.flatMap R1E.cells)/\w.grownBy w' v.ownBlock/\Dig w w':=by
 have hc:=sortN_any sortRat 4 (by decide) Tryz.isAgg33 Tryz.sizeOf33 R1E.cells R1E.len R1E.one R1E.nou (fun w e=>e.Ok L w) (fun h d=>h.dig d) (fun x y=>rcmp x.q y.q)
  (fun x h=>Rat.not_lt.2 Rat.le_refl (rcmp_lt.1 h)) (fun x y z h1 h2=>rcmp_lt.2 (by have a:=rcmp_lt.1 h1;have b:=rcmp_lt.1 h2;grind))
  (fun x y z h1 h2 h3=>by have k1:=Rat.not_lt.1 (fun h=>h1 (rcmp_lt.2 h));have k2:=Rat.not_lt.1 (fun h=>h2 (rcmp_lt.2 h));exact Rat.not_lt.2 (Rat.le_trans k2 k1) (rcmp_lt.1 h3))
  19 (enters_of Tryz.func19 (by kernel_rfl) rfl)
  (fun w x y hx hy=>(pCmp (L:=60000) (RV.Is.nin hx.1 (Nat.le_trans hx.2 hL)) (RV.Is.nin hy.1 (Nat.le_trans hy.2 hL)) (by omega):Calls _ _ _ _ _)) v es base 33 w h hok (by omega)
 refine hc.mono ?_;rintro e w' ⟨rfl,es',h1,h2,h3⟩;exact⟨rfl,es',h1,h2.imp (fun h=>Rat.not_lt.1 (fun k=>h (rcmp_lt.2 k))),h3⟩
end Go.Proofs.YtngikkggjidenabGreat
namespace Go.Proofs.YtngikkggjidenabGreat
open Go.RowKit
attribute [local go_sem ↓] Go.wp_at_zero Go.wp_at_succ run_max_ii run_min_ii
theorem rising_any (L:Nat)(hL:L<=60000)(v:Value)(es:List R1E)(base:Nat)(w:World)(h:RowN w base 33 4 v es.length (es.flatMap R1E.cells))(hbase:base<=w.heap.size)(hok:∀e,e∈es->e.Ok L w)(hn:es.length<=100000000):
  Calls Tryz.prog 83 #[v,.func (.func 19) #[] #[]] w fun x w'=>∃(v':Value) (es':List R1E),x= .returned v'/\RowN w' base 33 4 v' es'.length (es'.flatMap R1E.cells)/\w.grownBy w' v.ownBlock/\Dig w w'/\v'.ownBlock=v.ownBlock/\
   (es'.map R1E.q).Pairwise (· < ·)/\(∀x,x∈es'.map R1E.q↔x∈es.map R1E.q)/\(∀e,e∈es'->e∈es):=by
 obtain⟨w0,hx0,rfl⟩:=trunc w base hbase;obtain⟨A,c,rfl,_⟩:=RowN.form h;have HOK:=zH hok;have H0:=zH (Hp.one hx0 h);have HFR:=zH (show Fr (fun kz=>Value.ownBlock (.slice A es.length c)=some kz) w w from Fr.of_ext (Ext.refl w));clear h hx0 hok;go_enter Tryz.func83,Tryz.ntmps83
 go_upto_region 0 with fail
 refine wl ?_;refine aA 47 [.func (.func 19) #[] #[]] H0.out ?_;intro X1 w2 H4 hx hge;have D4:=zH (Dig.of_ext hx);have K6:=zH (HFR.out.trans (Fr.of_ext hx));clear hx hge;refine zI1 (Hp.start _) _ ?_;go_upto_region 1 with fail
 refine wl ?_;refine zI2 H4.out _ _ ?_;refine zc (sortR1_any L hL (.slice A es.length c) es _ _ (H4.out.row (i:=0) rR) (fun e he=>(HOK.out e he).dig D4.out) hn) ?_;rintro e w10 ⟨rfl,es1,hp1,hs1,hr1,hg1,hd1⟩;have HP1:=zH hp1;have HS1:=zH hs1;rw[hp1.length_eq]at hr1;have hh:=H4.out.turn (i:=0) (e:= .row 33 4 (.slice A es.length c) es.length (es.flatMap R1E.cells)) (e':= .row 33 4 (.slice A es.length c) es.length (es1.flatMap R1E.cells)) (by rfl) (fun k h=>h) hg1 hr1 (fun k hk=> .inl hk);have H11:=hN hh;have D11:=zH (show Dig w2 w10 from hd1);have K13:=zH (K6.out.trans_new hg1 (fun j hj=> .inl hj));have hx:=True.intro;clear hh hr1 hg1 hd1 hp1 hs1 hx;refine zn ?_;go_upto_region 2 with fail
 refine wl ?_;refine zI2 (Hp.start _) _ _ ?_;refine zc (cptR1_any L hL X1 (.slice A es.length c) es1 _ _ (by rw[HP1.out.length_eq];exact H11.out.row (i:=0) rR) H11.out.ext.size (fun e he=>(HOK.out e (HP1.out.mem_iff.1 he)).dig (D4.out.trans D11.out)) (H11.out.cell (i:=1) rR 0 rR) (H11.out.offRow (i:=1) (j:=0) rR rR dC rR) (by rw[HP1.out.length_eq];exact hn)) ?_;rintro e w16 ⟨v2,rfl,hr2,hg2,hd2,hb2⟩;have K17:=zH (K13.out.trans_new hg2 (fun j hj=> .inl hj));have hx:=True.intro;clear hx;refine zn ?_;refine zq (v2) ?_;go_wp2_with fail
 go_ret
 have hst:(compactV (fun x y:R1E=>decide (x.q=y.q)) es1).Pairwise (fun x y=>x.q<y.q):=compactV_sorted (le:=fun x y=>x.q<=y.q) (fun a b c h1 h2=>by grind) (fun x y h1 h2=>by have h3:=of_decide_eq_false h2;grind) (fun x y h1 z h2=>by have h3:=of_decide_eq_true h1;grind) HS1.out;refine⟨_,compactV (fun x y:R1E=>decide (x.q=y.q)) es1,rfl,hr2,K17.out.grownBy,(D4.out.trans D11.out).trans hd2,hb2,?_,fun x=>⟨fun hx=> ?_,fun hx=> ?_⟩,fun e he=>HP1.out.mem_iff.1 (compactV_sub _ he)⟩
 ·rw[List.pairwise_map];exact hst
 ·obtain⟨e,he,rfl⟩:=List.mem_map.1 hx
  exact List.mem_map_of_mem (HP1.out.mem_iff.1 (compactV_sub _ he))
 obtain⟨e,he,rfl⟩:=List.mem_map.1 hx;obtain⟨f,hf,h2⟩:=compactV_mem (eqv:=(fun x y:R1E=>decide (x.q=y.q))) (key:=R1E.q) (fun x y h=>of_decide_eq_true h) (HP1.out.mem_iff.2 he);exact List.mem_map.2 ⟨f,hf,h2⟩
def PutRet (L:Nat)(y lo hi:Rat)(Bo:Nat)(A:Option Addr)(n c:Nat)(es:List R1E)(w0 w w':World):Prop:=
  ∃ (A':Option Addr) (c' n':Nat) (es':List R1E),Hp w0 w' [.blk Bo 76 [.slice A' n' c'],.row 33 4 (.slice A' n' c') n' (List.flatMap R1E.cells es')]/\Dig w w'/\Fr (fun kz=>kz=Bo\/Value.ownBlock (.slice A n c)=some kz) w w'/\
    (∀k,Value.ownBlock (.slice A' n' c')=some k->Value.ownBlock (.slice A n c)=some k\/w.heap.size<=k)/\es'.map R1E.q=es.map R1E.q++(if lo<y/\y<hi then[y]else[])/\n'=es'.length/\n'<=n+1/\∀e,e∈es'->e.Ok L w'
theorem put_any (L:Nat)(hL:L<=60000)(ry rl rh:RV)(y lo hi:Rat)(Xl Xh Bo:Nat)(A:Option Addr)(n c:Nat)(es:List R1E)(w0 w:World)(hh:Hp w0 w [.blk Bo 76 [.slice A n c],.row 33 4 (.slice A n c) n (List.flatMap R1E.cells es)])
  (hy:ry.Is w y)(h1:Nm.rl y<=L)(hl:rl.Is w lo)(hh2:rh.Is w hi)(hl2:Nm.rl lo<=L)(hh3:Nm.rl hi<=L)(hrl:w.rangeAt Xl 0 [.bool rl.n,.slice rl.p rl.l rl.c,.bool rl.m,.slice rl.p2 rl.l2 rl.c2])(hrh:w.rangeAt Xh 0 [.bool rh.n,.slice rh.p rh.l rh.c,.bool rh.m,.slice rh.p2 rh.l2 rh.c2])
  (hnl:¬(Xl=Bo\/Value.ownBlock (.slice A n c)=some Xl))(hnh:¬(Xh=Bo\/Value.ownBlock (.slice A n c)=some Xh))(hn:n=es.length)(hn2:n<=90000000)(hok:∀e,e∈es->e.Ok L w):
  Calls Tryz.prog 79 #[.agg #[.bool ry.n,.slice ry.p ry.l ry.c,.bool ry.m,.slice ry.p2 ry.l2 ry.c2],.pointer (some ⟨Xl,0,none⟩),.pointer (some ⟨Xh,0,none⟩),.pointer (some ⟨Bo,0,none⟩)] w fun e w'=>e= .returned (.tuple #[])/\PutRet L y lo hi Bo A n c es w0 w w':=by
 have RY:=zH hy;have BY:=zH h1;have RL:=zH hl;have RH:=zH hh2;have BL:=zH hl2;have BH:=zH hh3;have GL:=zH hrl;have GH:=zH hrh;have NL:=zH hnl;have NH:=zH hnh;have HN:=zH hn;have HOK:=zH hok;have H0:=zH hh;have HN2:=zH hn2;clear hy h1 hl hh2 hl2 hh3 hrl hrh hnl hnh hn hn2 hok hh;have HFR:=zH (show Fr (fun kz=>kz=Bo\/Value.ownBlock (.slice A n c)=some kz) w w from Fr.of_ext (Ext.refl w));go_enter Tryz.func79,Tryz.ntmps79
 go_upto_region 0 with fail
 refine wl ?_;refine aA 33 (rc ry) H0.out ?_;intro X1 w2 H4 hx hge;have D4:=zH (Dig.of_ext hx);have K6:=zH (HFR.out.trans (Fr.of_ext hx));clear hx hge;rcases emH (lo<y/\y<hi)with CL|CL
 ·go_upto_region 1 with fail
  refine wl ?_;refine zd Xl (0) (rc rl) (K6.out.range GL.out NL.out) Tryz.underlying33 ?_;refine zI1 H4.out _ ?_;refine zc (pCmp (L:=60000) (RV.Is.nin (RL.out.dig D4.out) (Nat.le_trans BL.out (by omega))) (RV.Is.nin (RY.out.dig D4.out) (Nat.le_trans BY.out (by omega))) (by omega)) ?_;rintro e w9 ⟨rfl,hx⟩;have H10:=zH (H4.out.step hx);have D10:=zH (Dig.of_ext hx);have K12:=zH (K6.out.trans (Fr.of_ext hx));clear hx;refine zn ?_;refine zp (.bool true) (by exact ezl (e:=(dec_t (rcmp_lt.2 CL.out.1)))) ?_;refine zI2 H10.out (.bool true) _ ?_;refine zd Xh (0) (rc rh) (K12.out.range GH.out NH.out) Tryz.underlying33 ?_;have DD16:=tD D4 D10;refine zc (pCmp (L:=60000) (RV.Is.nin (RY.out.dig DD16.out) (Nat.le_trans BY.out (by omega))) (RV.Is.nin (RH.out.dig DD16.out) (Nat.le_trans BH.out (by omega))) (by omega)) ?_;rintro e w15 ⟨rfl,hx⟩;have H17:=zH (H10.out.step hx);have D17:=zH (Dig.of_ext hx);have K19:=zH (K12.out.trans (Fr.of_ext hx));clear hx;refine zn ?_;refine zp (.bool true) (by exact ezl (e:=(dec_t (rcmp_lt.2 CL.out.2)))) ?_;refine zq (.bool true) ?_;go_upto_region 2 with fail
  refine wl ?_;refine zI2 H17.out _ _ ?_;refine zp (w':=(w15.alloc (.cells ([.bool ry.n,.slice ry.p ry.l ry.c,.bool ry.m,.slice ry.p2 ry.l2 ry.c2]:List Value).toArray 33))) (.slice (some ⟨w15.heap.size,0,none⟩) 1 1) (by go_simp) ?_;refine mv_app rR _ _ _ rR elRat rR H17.out (ix:=1) rR 1 1 [.bool ry.n,.slice ry.p ry.l ry.c,.bool ry.m,.slice ry.p2 ry.l2 ry.c2] rR rfl (by simp[Value.oneCell']) (by simp[NoUL]) dC (by unfold maxLen;exact(by have ob0:=HN2.out;omega)) (by have ob0:=HN2.out;omega) ?_;intro g23 cp24 w22 hf hh hd hg;have Fg23:=zH hf;clear hf;rw[show List.flatMap R1E.cells es++[.bool ry.n,.slice ry.p ry.l ry.c,.bool ry.m,.slice ry.p2 ry.l2 ry.c2]=_ from flat_snoc R1E.cells _ (⟨ry,y⟩:R1E)]at hh;have H25:=hN hh;have D25:=zH (hd);have K27:=zH (show Fr (fun kz=>kz=Bo\/Value.ownBlock (.slice A n c)=some kz) w w22 from(K19.out.trans (Fr.of_ext ((Ext.refl _).alloc _))).trans_new hg (fun j hj=> .inl (.inr hj)));clear hh hd hg;try simp only[Act.put,zA,zB,zC]
  refine aU 0 (.slice (some ⟨g23,0,none⟩) (n+1) cp24) H25.out ?_;intro w28 H29 hd ho;have D29:=zH (hd);have K31:=zH (K27.out.trans_new ho (fun j hj=> .inl (.inl (by injection hj with hj;exact hj.symm))));clear hd ho;have DD32:=tD (tD (tD DD16 D17) D25) D29;go_wp2_with fail
  first|refine bodyPost_end (v:= .tuple #[]) (results_none rfl _ _ _) rfl ?_|refine bodyPost_ret (v:= .tuple #[]) (results_none rfl _ _ _) rfl ?_
  exact⟨rfl,some ⟨g23,0,none⟩,cp24,n+1,es++[(⟨ry,y⟩:R1E)],H29.out.take 2,((((D4.out.trans D10.out).trans D17.out).trans D25.out).trans D29.out),K31.out,(fun k_ hk_=>by have e_:g23=k_:=(by simpa[Value.ownBlock]using hk_);subst e_;exact Fg23.out.imp id (fun h_=>Nat.le_trans K19.out.size h_)),(by rw[List.map_append,if_pos CL.out];rfl),(by rw[List.length_append,<-HN.out];rfl),Nat.le_refl _,(fun g_ hg_=>(List.mem_append.1 hg_).elim (fun hg_=>(HOK.out g_ hg_).dig ((((D4.out.trans D10.out).trans D17.out).trans D25.out).trans D29.out)) (fun hg_=>by rw[List.mem_singleton.1 hg_];exact⟨(RY.out.dig DD32.out),BY.out⟩))⟩
 rcases emH (lo<y)with C1|C1
 ·go_upto_region 1 with fail
  refine wl ?_;refine zd Xl (0) (rc rl) (K6.out.range GL.out NL.out) Tryz.underlying33 ?_;refine zI1 H4.out _ ?_;refine zc (pCmp (L:=60000) (RV.Is.nin (RL.out.dig D4.out) (Nat.le_trans BL.out (by omega))) (RV.Is.nin (RY.out.dig D4.out) (Nat.le_trans BY.out (by omega))) (by omega)) ?_;rintro e w34 ⟨rfl,hx⟩;have H35:=zH (H4.out.step hx);have D35:=zH (Dig.of_ext hx);have K37:=zH (K6.out.trans (Fr.of_ext hx));clear hx;refine zn ?_;refine zp (.bool true) (by exact ezl (e:=(dec_t (rcmp_lt.2 C1.out)))) ?_;refine zI2 H35.out (.bool true) _ ?_;refine zd Xh (0) (rc rh) (K37.out.range GH.out NH.out) Tryz.underlying33 ?_;have DD41:=tD D4 D35;refine zc (pCmp (L:=60000) (RV.Is.nin (RY.out.dig DD41.out) (Nat.le_trans BY.out (by omega))) (RV.Is.nin (RH.out.dig DD41.out) (Nat.le_trans BH.out (by omega))) (by omega)) ?_;rintro e w40 ⟨rfl,hx⟩;have H42:=zH (H35.out.step hx);have D42:=zH (Dig.of_ext hx);have K44:=zH (K37.out.trans (Fr.of_ext hx));clear hx;refine zn ?_;refine zp (.bool false) (by exact ezl (e:=(dec_f (fun hh=>(fun h_=>CL.out ⟨C1.out,h_⟩) (rcmp_lt.1 hh))))) ?_;refine zq (.bool false) ?_;go_wp2_with fail
  first|refine bodyPost_end (v:= .tuple #[]) (results_none rfl _ _ _) rfl ?_|refine bodyPost_ret (v:= .tuple #[]) (results_none rfl _ _ _) rfl ?_
  exact⟨rfl,A,c,n,es,H42.out.take 2,((D4.out.trans D35.out).trans D42.out),K44.out,(fun k_ hk_=> .inl hk_),(by rw[if_neg CL.out,List.append_nil]),HN.out,Nat.le_succ _,(fun g_ hg_=>(HOK.out g_ hg_).dig ((D4.out.trans D35.out).trans D42.out))⟩
 go_upto_region 1 with fail
 refine wl ?_;refine zd Xl (0) (rc rl) (K6.out.range GL.out NL.out) Tryz.underlying33 ?_;refine zI1 H4.out _ ?_;refine zc (pCmp (L:=60000) (RV.Is.nin (RL.out.dig D4.out) (Nat.le_trans BL.out (by omega))) (RV.Is.nin (RY.out.dig D4.out) (Nat.le_trans BY.out (by omega))) (by omega)) ?_;rintro e w47 ⟨rfl,hx⟩;have H48:=zH (H4.out.step hx);have D48:=zH (Dig.of_ext hx);have K50:=zH (K6.out.trans (Fr.of_ext hx));clear hx;refine zn ?_;refine zp (.bool false) (by exact ezl (e:=(dec_f (fun hh=>C1.out (rcmp_lt.1 hh))))) ?_;refine zI6 (Hp.start _) (.bool false) _ _ _ _ (.bool false) ?_;go_wp2_with fail
 first|refine bodyPost_end (v:= .tuple #[]) (results_none rfl _ _ _) rfl ?_|refine bodyPost_ret (v:= .tuple #[]) (results_none rfl _ _ _) rfl ?_
 exact⟨rfl,A,c,n,es,H48.out.take 2,(D4.out.trans D48.out),K50.out,(fun k_ hk_=> .inl hk_),(by rw[if_neg CL.out,List.append_nil]),HN.out,Nat.le_succ _,(fun g_ hg_=>(HOK.out g_ hg_).dig (D4.out.trans D48.out))⟩
end Go.Proofs.YtngikkggjidenabGreat
namespace Go.Proofs.YtngikkggjidenabGreat
open Go.RowKit
theorem ptAt_range {w:World}{g o:Nat}{r:Ring}{k:Nat}{p:Int×Int}(h:PtsAt w g o r)(hp:r[k]?=some p):w.rangeAt g (o+k*2) [.int .i64 p.1,.int .i64 p.2]:=by
  obtain⟨hk,rfl⟩:=List.getElem?_eq_some_iff.1 hp;have h2:=h k hk;intro j v hj;match j,hj with
  |0,hj=>simp at hj;subst hj;have h3:=h2.1;simpa[List.getD_eq_getElem?_getD,hk]using h3
  |1,hj=>simp at hj;subst hj;have h3:=h2.2;simpa[List.getD_eq_getElem?_getD,hk,Nat.add_assoc]using h3
  |j+2,hj=>simp at hj
theorem okR_al {rs:List Ring}{r:Ring}(h:okR rs=true)(hr:r∈rs):okAll r=true:=by
  unfold okR at h;rw[Bool.and_eq_true]at h;exact List.all_eq_true.1 h.2 r hr
theorem okR_ptk {rs:List Ring}{r:Ring}{i k:Nat}{p:Int×Int}(h:okR rs=true)(hr:rs[i]?=some r)(hp:r[k]?=some p):okP p:=by
  have h2:=okR_al h (List.mem_of_getElem? hr);unfold okAll at h2;exact List.all_eq_true.1 h2 p (List.mem_of_getElem? hp)
theorem evP_take {a b:Int×Int}{rs:List Ring}{r:Ring}{i:Nat}(h:rs[i]?=some r):evP a b (rs.take (i+1))=evP a b (rs.take i)++r.flatMap (fun p=>btw a.2 b.2 (p.2:Rat)):=by
  unfold evP;rw[List.take_add_one,h,List.flatMap_append];simp
theorem Hp.litRow17 {w0 w:World}{m:List Ent}{i X n size:Nat}{t:TypeId}{cs:List Value}(h:Hp w0 w m)(hi:m[i]?=some (.blk X t cs))(hl:cs.length=n*size)(hn:n<=maxLen):RowN w w0.heap.size t size (.slice (some ⟨X,0,none⟩) n n) n cs:=
  ⟨hl,.inr ⟨X,n,[],rfl,h.ge hi rfl,by rw[List.append_nil];exact h.blk hi,Nat.le_refl _,hn,by simp[hl],by rw[List.append_nil];exact h.noU hi⟩⟩
theorem Dig.keptQ {w w':World}{r:Option Nat}(hg:w.grownBy w' r)(hr:∀k,r=some k->∃o:Obj,w.heap[k]?=some o/\o.isCells=false):Dig w w':=by
 intro v xs h;obtain⟨p,cap,rfl,hc,hd,hp⟩:=h;refine⟨p,cap,rfl,hc,hd,fun h0=> ?_⟩;obtain⟨b,o,rfl,hb⟩:=hp h0;refine⟨b,o,rfl,fun i hi=> ?_⟩;have h1:=hb i hi;have hne:¬(some b=r):=fun e=>by
  obtain⟨ob,h2,h3⟩:=hr b e.symm;cases ob with
  |cells cs t fz=>cases h3
  |_=>simp[World.cell?,h2]at h1
 rw[World.cell?_of_block (hg.block b (World.block_lt_of_cell? w ⟨b,o+i,none⟩ h1) hne)];exact h1
theorem Hp.keptQ {w0 w w':World}{m:List Ent}{r:Option Nat}(h:Hp w0 w m)(hg:w.grownBy w' r)(hr:∀k,r=some k->w0.heap.size<=k/\∃o:Obj,w.heap[k]?=some o/\o.isCells=false):Hp w0 w' m:=by
 refine⟨h.ext.grown hg (fun k hk=>(hr k hk).1),fun i e he=>(h.all i e he).kept hg (fun k hk hrk=> ?_),h.apart⟩;obtain⟨o,h2,h3⟩:=(hr k hrk).2;cases e with
 |blk g t cs=>
  injection hk with hk
  subst hk;have:=h.blk he;unfold Blk at this;rw[h2]at this;injection this with this
  rw[this]at h3;cases h3
 |row t size v n xs=>
  obtain⟨h4,⟨rfl,_⟩|⟨g,cap,rest,rfl,a,hb,c⟩⟩:=h.row he
  ·simp[Ent.own,Value.ownBlock]at hk
  have hk:g=k:=by simpa[Ent.own,Value.ownBlock]using hk
  subst hk;unfold Blk at hb;rw[h2]at hb;injection hb with hb
  rw[hb]at h3;cases h3
theorem lit2_get {w0 w:World}{m:List Ent}{i X:Nat}{t:TypeId}{p q:Int}(h:Hp w0 w m)(hi:m[i]?=some (.blk X t [.int .i64 p,.int .i64 q]))(k:Nat)(hk:k<2):w.rangeAt X k [.int .i64 (if k=0 then p else q)]:=by
  have:k=0\/k=1:=by omega
  rcases this with rfl|rfl
  · exact h.range hi 0 1
  exact h.range hi 1 1
theorem AtRet.yes {C:Prop}{q:Rat}{w w':World}{e:Ending}(h:AtRet C q w e w')(hc:C):∃r:RV,e= .returned (.tuple #[.agg #[.bool r.n,.slice r.p r.l r.c,.bool r.m,.slice r.p2 r.l2 r.c2],.bool true])/\r.Is w' q/\Ext w w':=by
  obtain⟨⟨r,_,h1,h2⟩|⟨h1,_⟩,hx⟩:=h
  · exact⟨r,h1,h2,hx⟩
  exact absurd hc h1
theorem AtRet.no {C:Prop}{q:Rat}{w w':World}{e:Ending}(h:AtRet C q w e w')(hc:¬C):e= .returned (.tuple #[.agg z4,.bool false])/\Ext w w':=by
  obtain⟨⟨r,h0,h1,h2⟩|⟨_,h1⟩,hx⟩:=h
  · exact absurd h0 hc
  exact⟨h1,hx⟩
theorem SegRet.yes {a b c d:Int×Int}{w w':World}{e:Ending}(h:SegRet a b c d w e w')(hc:segN a b c d=1):∃r s:RV,e= .returned (.tuple #[.agg #[.bool r.n,.slice r.p r.l r.c,.bool r.m,.slice r.p2 r.l2 r.c2],.agg #[.bool s.n,.slice s.p s.l s.c,.bool s.m,.slice s.p2 s.l2 s.c2],.int .i64 1])/\r.Is w' (segX a b c d)/\s.Is w' (segY a b c d)/\Ext w w':=by
  obtain⟨⟨r,s,_,h1,h2,h3⟩|⟨h1,_⟩,hx⟩:=h
  · exact⟨r,s,h1,h2,h3,hx⟩
  exact absurd hc h1
theorem SegRet.no {a b c d:Int×Int}{w w':World}{e:Ending}(h:SegRet a b c d w e w')(hc:¬segN a b c d=1):e= .returned (.tuple #[.agg z4,.agg z4,.int .i64 (segN a b c d)])/\Ext w w':=by
  obtain⟨⟨r,s,h0,h1,h2,h3⟩|⟨_,h1⟩,hx⟩:=h
  · exact absurd h0 hc
  exact⟨h1,hx⟩
theorem yatL_yes {e:Edge}{x:Int}(h:yatC e.1 e.2 x):yatL e x=[yatQ e.1 e.2 x]:=if_pos h
theorem yatL_no {e:Edge}{x:Int}(h:¬yatC e.1 e.2 x):yatL e x=[]:=if_neg h
theorem segL_yes {o e:Edge}(h:segN o.1 o.2 e.1 e.2=1):segL o e=[segY o.1 o.2 e.1 e.2]:=if_pos h
theorem segL_no {o e:Edge}(h:¬segN o.1 o.2 e.1 e.2=1):segL o e=[]:=if_neg h
def yatP (a b:Int×Int)(e:Edge)(k:Nat):List Rat:=(if 1<=k then(yatL e a.1).flatMap (btw a.2 b.2)else[])++(if 2<=k then(yatL e b.1).flatMap (btw a.2 b.2)else[])
theorem yatP_succ (a b:Int×Int)(e:Edge)(k:Nat)(hk:k<2):yatP a b e (k+1)=yatP a b e k++(yatL e (if k=0 then a.1 else b.1)).flatMap (btw a.2 b.2):=by
  have:k=0\/k=1:=by omega
  rcases this with rfl|rfl<;>simp[yatP]
theorem Fr.trans_fr {G G':Nat->Prop}{a b c:World}(h:Fr G a b)(k:Fr G' b c)(hG:∀j,G' j->G j\/a.heap.size<=j):Fr G a c:=
  ⟨k.os.trans h.os,k.tape.trans h.tape,k.output.trans h.output,Nat.le_trans h.size k.size,fun i hi hn=>(k.block i (Nat.lt_of_lt_of_le hi h.size) (fun g=>(hG i g).elim hn (fun h2=>by omega))).trans (h.block i hi hn)⟩
theorem Hp.addTyp3 {w0 w:World}{m:List Ent}{X Y B:Nat}{T:TypeId}{zs us:List Value}(h:Hp w0 w m)(B1:Blk w X T zs.toArray)(B2:Blk w Y T us.toArray)(hne:X≠Y)(hB:w0.heap.size<=B)(z1:B<=X)(z2:B<=Y)(n1:NoUL zs)(n2:NoUL us)
  (ht:∀e,e∈m->e.typ≠T\/∀k,e.own=some k->k<B):Hp w0 w (m++[.blk X T zs]++[.blk Y T us]):=by
 have h1:Hp w0 w (m++[.blk X T zs]):=h.add ⟨Nat.le_trans hB z1,B1,n1⟩ (fun i f hf k hk e=>by
  injection e with e
  subst e;rcases ht f (List.mem_of_getElem? hf)with h2|h2
  ·exact h2 (h.typ hf B1 hk)
  have:=h2 _ hk;omega)
 refine h1.add ⟨Nat.le_trans hB z2,B2,n2⟩ (fun i f hf k hk e=> ?_);injection e with e
 subst e;rcases List.mem_append.1 (List.mem_of_getElem? hf)with hm|hm
 ·obtain⟨j,hj⟩:=List.mem_iff_getElem?.1 hm
  rcases ht f hm with h2|h2
  ·exact h2 (h.typ hj B2 hk)
  have:=h2 _ hk;omega
 simp at hm;subst hm;injection hk with hk
 exact hne hk
def bodyPostQ (F:Fence)(n:Nat)(P:Program)(fn:Func)(R:Ending->World->Prop):Exit->Act->World->Prop
  | .normal,a,w| .ret,a,w=>LeavesInM F n P fn a.tmps R a.defers .returning w
  |_,_,_=>False
theorem bodyPostQ.m {F:Fence}{n:Nat}{P:Program}{fn:Func}{R:Ending->World->Prop}:∀e a w,bodyPostQ F n P fn R e a w->bodyPostM F n P fn R e a w:=by
  intro e a w h;cases e<;>first|exact h|exact h.elim
end Go.Proofs.YtngikkggjidenabGreat
namespace Go.Proofs.YtngikkggjidenabGreat
open Go.RowKit
attribute [local go_sem ↓] Go.wp_at_zero Go.wp_at_succ run_max_ii run_min_ii
structure EdE where
  a:Int×Int
  b:Int×Int
  r:Nat
  i:Nat
  n:Nat
def EdE.cells (e:EdE):List Value:=[.int .i64 e.a.1,.int .i64 e.a.2,.int .i64 e.b.1,.int .i64 e.b.2,.int .i64 (e.r:Int),.int .i64 (e.i:Int),.int .i64 (e.n:Int)]
theorem EdE.len (e:EdE):e.cells.length=7:=rfl
theorem EdE.nou (e:EdE):NoUL e.cells:=by simp[EdE.cells,NoUL]
def EdE.e (x:EdE):Edge:=(x.a,x.b)
def conC (e:EdE)(p:Rat×Rat):Prop:=(((e.b.1-e.a.1):Int):Rat)*(p.2-(((e.a.2):Int):Rat))=(((e.b.2-e.a.2):Int):Rat)*(p.1-(((e.a.1):Int):Rat))/\(((0):Int):Rat)<=(((e.b.1-e.a.1):Int):Rat)*(p.1-(((e.a.1):Int):Rat))+(((e.b.2-e.a.2):Int):Rat)*(p.2-(((e.a.2):Int):Rat))/\(((e.b.1-e.a.1):Int):Rat)*(p.1-(((e.a.1):Int):Rat))+(((e.b.2-e.a.2):Int):Rat)*(p.2-(((e.a.2):Int):Rat))<=(((e.b.1-e.a.1):Int):Rat)*(((e.b.1-e.a.1):Int):Rat)+(((e.b.2-e.a.2):Int):Rat)*(((e.b.2-e.a.2):Int):Rat)
instance conC_dec (e:EdE) (p:Rat×Rat):Decidable (conC e p):=inferInstanceAs (Decidable (_/\_))
end Go.Proofs.YtngikkggjidenabGreat
namespace Go.Proofs.YtngikkggjidenabGreat
open Go.RowKit
def Bx (d u:Rat):Prop:=(0<=d->0<=u/\u<=d)/\(d<=0->d<=u/\u<=0)
theorem cast_ne {p q:Int}(h:p≠q):(q:Rat)-(p:Rat)≠0:=by
  intro e;apply h;have:(q:Rat)=(p:Rat):=by grind
  exact_mod_cast this.symm
theorem frac_in {p q:Int}{r:Rat}(hpq:p≠q)(h1:((min p q:Int):Rat)<r)(h2:r<((max p q:Int):Rat)):0<=(r-(p:Rat))*((q:Rat)-(p:Rat))⁻¹/\(r-(p:Rat))*((q:Rat)-(p:Rat))⁻¹<=1:=by
 have hd:=cast_ne hpq;have e:=Rat.mul_inv_cancel _ hd;by_cases c:p<q
 ·rw[Int.min_eq_left (by omega)]at h1
  rw[Int.max_eq_right (by omega)]at h2;have hp:(0:Rat)<(q:Rat)-(p:Rat):=by
   have:(p:Rat)<(q:Rat):=by exact_mod_cast c
   grind
  have hi:(0:Rat)<=((q:Rat)-(p:Rat))⁻¹:=Rat.le_of_lt (Rat.inv_pos.2 hp);generalize ((q:Rat)-(p:Rat))⁻¹=i at*
  have k1:=Rat.mul_nonneg (show 0<=r-(p:Rat)by grind) hi;have k2:=Rat.mul_nonneg (show 0<=(q:Rat)-r by grind) hi;exact⟨k1,by grind⟩
 have c:q<p:=by omega
 rw[Int.min_eq_right (by omega)]at h1;rw[Int.max_eq_left (by omega)]at h2;have hp:(0:Rat)<(p:Rat)-(q:Rat):=by
  have:(q:Rat)<(p:Rat):=by exact_mod_cast c
  grind
 have hi:(0:Rat)<=((p:Rat)-(q:Rat))⁻¹:=Rat.le_of_lt (Rat.inv_pos.2 hp);have hn:((q:Rat)-(p:Rat))⁻¹= -((p:Rat)-(q:Rat))⁻¹:=by
  have e2:=Rat.mul_inv_cancel ((p:Rat)-(q:Rat)) (by grind);grind
 rw[hn];have e2:=Rat.mul_inv_cancel ((p:Rat)-(q:Rat)) (by grind);generalize ((p:Rat)-(q:Rat))⁻¹=i at*
 have k1:=Rat.mul_nonneg (show 0<=(p:Rat)-r by grind) hi;have k2:=Rat.mul_nonneg (show 0<=r-(q:Rat)by grind) hi;exact⟨by grind,by grind⟩
def slp (a b:Int×Int):Rat:=((1:Int):Rat)/((b.2-a.2:Int):Rat)*((b.1-a.1:Int):Rat)
theorem xatV_lin (a b:Int×Int)(y:Rat):xatV a.1 a.2 b.1 b.2 y=slp a b*y+((a.1:Rat)-(a.2:Rat)*slp a b):=by
  unfold xatV slp;generalize ((1:Int):Rat)/((b.2-a.2:Int):Rat)=i
  generalize ((b.1-a.1:Int):Rat)=u
  grind
theorem meet_seg {a b c d:Int×Int}{r:Rat}(hab:a.2≠b.2)(hcd:c.2≠d.2)(h1:((min a.2 b.2:Int):Rat)<r/\r<((max a.2 b.2:Int):Rat))(h2:((min c.2 d.2:Int):Rat)<r/\r<((max c.2 d.2:Int):Rat))(hx:xatV a.1 a.2 b.1 b.2 r=xatV c.1 c.2 d.1 d.2 r)(hs:slp a b≠slp c d):segN a b c d=1/\segY a b c d=r:=by
 have f1:=frac_in hab h1.1 h1.2;have f2:=frac_in hcd h2.1 h2.2;have hv:=cast_ne hab;have hw:=cast_ne hcd;have ev:=Rat.mul_inv_cancel _ hv;have ew:=Rat.mul_inv_cancel _ hw;unfold xatV at hx;unfold slp at hs;rw[Rat.div_def,Rat.div_def,Rat.intCast_sub,Rat.intCast_sub,Rat.intCast_sub,Rat.intCast_sub,show((1:Int):Rat)=1 from rfl]at hx hs;have q1:((cr (dv a b) (dv c d):Int):Rat)=((b.1:Rat)-(a.1:Rat))*((d.2:Rat)-(c.2:Rat))-((b.2:Rat)-(a.2:Rat))*((d.1:Rat)-(c.1:Rat)):=by
  unfold cr dv;simp only[Rat.intCast_sub,Rat.intCast_mul]
 have q2:((cr (dv a c) (dv c d):Int):Rat)=((c.1:Rat)-(a.1:Rat))*((d.2:Rat)-(c.2:Rat))-((c.2:Rat)-(a.2:Rat))*((d.1:Rat)-(c.1:Rat)):=by
  unfold cr dv;simp only[Rat.intCast_sub,Rat.intCast_mul]
 have q3:((cr (dv a c) (dv a b):Int):Rat)=((c.1:Rat)-(a.1:Rat))*((b.2:Rat)-(a.2:Rat))-((c.2:Rat)-(a.2:Rat))*((b.1:Rat)-(a.1:Rat)):=by
  unfold cr dv;simp only[Rat.intCast_sub,Rat.intCast_mul]
 have hz:((cr (dv a b) (dv c d):Int):Rat)≠0:=by
  rw[q1];intro e;apply hs;generalize ((b.2:Rat)-(a.2:Rat))⁻¹=i at*
  generalize ((d.2:Rat)-(c.2:Rat))⁻¹=j at*
  generalize (b.2:Rat)-(a.2:Rat)=v at*
  generalize (d.2:Rat)-(c.2:Rat)=w at*
  generalize (b.1:Rat)-(a.1:Rat)=u at*
  generalize (d.1:Rat)-(c.1:Rat)=s at*
  grind
 have hz2:cr (dv a b) (dv c d)≠0:=fun e=>hz (by rw[e];rfl)
 have ez:=Rat.mul_inv_cancel _ hz;have t1:segT a b c d=(r-(a.2:Rat))*((b.2:Rat)-(a.2:Rat))⁻¹:=by
  unfold segT;rw[Rat.div_def,q2];have k:((c.1:Rat)-(a.1:Rat))*((d.2:Rat)-(c.2:Rat))-((c.2:Rat)-(a.2:Rat))*((d.1:Rat)-(c.1:Rat))=(r-(a.2:Rat))*((b.2:Rat)-(a.2:Rat))⁻¹*((cr (dv a b) (dv c d):Int):Rat):=by
   rw[q1];clear q1 q2 q3 hz ez;generalize ((b.2:Rat)-(a.2:Rat))⁻¹=i at*
   generalize ((d.2:Rat)-(c.2:Rat))⁻¹=j at*
   grind
  rw[k,Rat.mul_assoc,ez,Rat.mul_one]
 have t2:segS a b c d=(r-(c.2:Rat))*((d.2:Rat)-(c.2:Rat))⁻¹:=by
  unfold segS;rw[Rat.div_def,q3];have k:((c.1:Rat)-(a.1:Rat))*((b.2:Rat)-(a.2:Rat))-((c.2:Rat)-(a.2:Rat))*((b.1:Rat)-(a.1:Rat))=(r-(c.2:Rat))*((d.2:Rat)-(c.2:Rat))⁻¹*((cr (dv a b) (dv c d):Int):Rat):=by
   rw[q1];clear q1 q2 q3 hz ez t1;generalize ((b.2:Rat)-(a.2:Rat))⁻¹=i at*
   generalize ((d.2:Rat)-(c.2:Rat))⁻¹=j at*
   grind
  rw[k,Rat.mul_assoc,ez,Rat.mul_one]
 have u1:inU (segT a b c d):=by
  rw[t1];refine⟨fun h=> ?_,fun h=> ?_⟩
  ·rw[show(((0):Int):Rat)=0 from rfl]at h;exact absurd f1.1 (Rat.not_le.2 h)
  rw[show(((1):Int):Rat)=1 from rfl]at h;exact absurd f1.2 (Rat.not_le.2 h)
 have u2:inU (segS a b c d):=by
  rw[t2];refine⟨fun h=> ?_,fun h=> ?_⟩
  ·rw[show(((0):Int):Rat)=0 from rfl]at h;exact absurd f2.1 (Rat.not_le.2 h)
  rw[show(((1):Int):Rat)=1 from rfl]at h;exact absurd f2.2 (Rat.not_le.2 h)
 refine⟨?_,?_⟩
 ·rw[segN_p hz2,if_pos ⟨u1,u2⟩]
 unfold segY;rw[if_pos hz2,t1,Rat.intCast_sub,Rat.mul_assoc,Rat.mul_comm _ ((b.2:Rat)-(a.2:Rat)),ev];grind
end Go.Proofs.YtngikkggjidenabGreat
namespace Go.Proofs.YtngikkggjidenabGreat
theorem len1_split {f t:Rat}{p:QQ}{m:Rat}(h1:p.1<=m)(h2:m<=p.2):len1 f t p=len1 f t (p.1,m)+len1 f t (m,p.2):=by unfold len1;grind
theorem lenV_ins (f t:Rat)(l:List QQ)(y:QQ):lenV f t (Stb.ins ltQ l y)=lenV f t l+len1 f t y:=by
  induction l with
  |nil=>rw[Stb.ins,lenV_cons,lenV_nil];grind
  | cons x l ih=>
    rw[Stb.ins];split
    · rw[lenV_cons,lenV_cons];grind
    rw[lenV_cons,lenV_cons,ih];grind
theorem lenV_stab (f t:Rat)(l:List QQ):lenV f t (Stb.stab ltQ l)=lenV f t l:=by
  induction l using Stb.rev_rec with
  |nil=>rfl
  |snoc l y ih=>rw[Stb.stab_snoc,lenV_ins,ih,lenV_app,lenV_cons,lenV_nil];grind
theorem lenV_sorted (f t:Rat)(l:List QQ):lenV f t (sortedV l)=lenV f t l:=by unfold sortedV;rw[lenV_stab,lenV_some2]
theorem fold_lenV (f t:Rat)(l:List QQ):∀(out:List QQ),(∀p,p∈l->p.1<p.2)->l.Pairwise (fun a b=>a.2<=b.1)->(∀p,p∈out->p.1<p.2/\∀q,q∈l->p.2<=q.1)->
  lenV f t (l.foldl mstep out)=lenV f t out+lenV f t l:=by
 induction l with
 |nil=>intro out _ _ _;rw[List.foldl_nil,lenV_nil];grind
 |cons s l ih=>
  intro out h1 h2 h3;obtain⟨p1,p2⟩:=List.pairwise_cons.1 h2;have hs:=h1 s (List.mem_cons_self ..);have hout:lenV f t (mstep out s)=lenV f t out+len1 f t s/\∀p,p∈mstep out s->p.1<p.2/\∀q,q∈l->p.2<=q.1:=by
   have hold:∀p,p∈out->p.1<p.2/\∀q,q∈l->p.2<=q.1:=fun p hp=>⟨(h3 p hp).1,fun q hq=>(h3 p hp).2 q (List.mem_cons_of_mem _ hq)⟩
   have hsn:∀p,p∈out++[s]->p.1<p.2/\∀q,q∈l->p.2<=q.1:=fun p hp=>by
    rcases List.mem_append.1 hp with hp|hp
    ·exact hold p hp
    rw[List.mem_singleton]at hp;subst hp;exact⟨hs,p1⟩
   unfold mstep;split
   ·exact⟨by rw[lenV_app,lenV_cons,lenV_nil];grind,hsn⟩
   rename_i e h0;have e0:=last_of h0;split
   ·exact⟨by rw[lenV_app,lenV_cons,lenV_nil];grind,hsn⟩
   rename_i h4;have k:=h3 e (by rw[e0];simp);have ke:=k.2 s (List.mem_cons_self ..);have kq:e.2=s.1:=by grind
   rw[if_pos (by grind)];generalize out.dropLast=o at*
   subst e0;refine⟨?_,fun p hp=> ?_⟩
   ·have sp:=len1_split (f:=f) (t:=t) (p:=(e.1,s.2)) (m:=s.1) (by dsimp only;grind) (by dsimp only;grind)
    have e1:len1 f t (e.1,s.1)=len1 f t e:=by rw[<-kq]
    have e2:len1 f t (s.1,s.2)=len1 f t s:=rfl;dsimp only at sp
    rw[lenV_app,lenV_app,lenV_cons,lenV_cons,lenV_nil];grind
   rcases List.mem_append.1 hp with hp|hp
   ·exact hold p (List.mem_append.2 (Or.inl hp))
   rw[List.mem_singleton]at hp;subst hp;exact⟨by dsimp only;grind,p1⟩
  obtain⟨a1,a2⟩:=hout;rw[List.foldl_cons,ih (mstep out s) (fun p hp=>h1 p (List.mem_cons_of_mem _ hp)) p2 a2,a1,lenV_cons];grind
def Touch (c d:QQ):Prop:=c.1<c.2->d.1<d.2->c.2<=d.1\/d.2<=c.1
theorem Touch.symm {c d:QQ}(h:Touch c d):Touch d c:=fun h1 h2=>(h h2 h1).symm
theorem mergeV_len (f t:Rat){l:List QQ}(h:l.Pairwise Touch):lenV f t (mergeV l)=lenV f t l:=by
 have hs:Stb.Srt ltQ (sortedV l):=Stb.stab_srt (wkQ fun p:QQ=>p.1) _;have hm:∀p,p∈sortedV l↔p∈some2 l:=fun p=>Stb.mem_stab
 have hp:(sortedV l).Pairwise Touch:=stab_pair (fun _ _=>Touch.symm) _ (List.Pairwise.filter _ h);have hne:∀p,p∈sortedV l->p.1<p.2:=fun p hp=>(mem_some2.1 ((hm p).1 hp)).2
 have hb:(sortedV l).Pairwise fun a b=>a.2<=b.1:=List.Pairwise.imp_of_mem (fun {a b} ha hb2 hab=>by
  obtain⟨h1,h2⟩:=hab;unfold ltQ at h1;rw[decide_eq_false_iff_not]at h1;have e1:=hne a ha;have e2:=hne b hb2;rcases h2 e1 e2 with h3|h3
  ·exact h3
  grind) (List.Pairwise.and hs hp)
 unfold mergeV;rw[fold_lenV f t (sortedV l) [] hne hb (by simp),lenV_nil,lenV_sorted];grind
end Go.Proofs.YtngikkggjidenabGreat
namespace Go.Proofs.YtngikkggjidenabGreat
open Go.RowKit
attribute [local go_sem ↓] Go.wp_at_zero Go.wp_at_succ
def fillsV (n rule:Int):Bool:=(decide (rule=1)&&decide (n≠0))||(decide (rule=2)&&decide (n%2≠0))
end Go.Proofs.YtngikkggjidenabGreat
namespace Go.Proofs.YtngikkggjidenabGreat
def runs:Int->List QI->List (QQ×Int)
  |s,a::b::t=>((a.1,b.1),s+a.2)::runs (s+a.2) (b::t)
  |_,[_]=>[]
  |_,[]=>[]
def sel (rule:Int)(l:List (QQ×Int)):List QQ:=(l.filter fun r=>fillsV r.2 rule).map fun r=>r.1
def spansV (rule:Int)(ms:List QI):List QQ:=mergeV (sel rule (runs 0 ms))
theorem sel_app (rule:Int)(l m:List (QQ×Int)):sel rule (l++m)=sel rule l++sel rule m:=by unfold sel;simp
theorem sel_one (rule:Int)(r:QQ×Int):sel rule [r]=if fillsV r.2 rule=true then[r.1]else[]:=by
  unfold sel;by_cases h:fillsV r.2 rule=true<;>simp[h]
end Go.Proofs.YtngikkggjidenabGreat
namespace Go.Proofs.YtngikkggjidenabGreat
open Go.RowKit
attribute [local go_sem ↓] Go.wp_at_zero Go.wp_at_succ run_max_ii run_min_ii
end Go.Proofs.YtngikkggjidenabGreat
namespace Go.Proofs.YtngikkggjidenabGreat
theorem mstep_ends {P Q:Rat->Prop}{out:List QQ}{s:QQ}(h:∀p,p∈out->P p.1/\Q p.2)(hs:P s.1/\Q s.2):∀p,p∈mstep out s->P p.1/\Q p.2:=by
 have hsn:∀p,p∈out++[s]->P p.1/\Q p.2:=fun p hp=>by
  rcases List.mem_append.1 hp with hp|hp
  ·exact h p hp
  rw[List.mem_singleton]at hp;subst hp;exact hs
 intro p hp;unfold mstep at hp;split at hp
 ·exact hsn p hp
 rename_i l h0;have e0:=last_of h0;split at hp
 ·exact hsn p hp
 split at hp
 ·generalize out.dropLast=o at*
  subst e0;rcases List.mem_append.1 hp with hp|hp
  ·exact h p (List.mem_append.2 (Or.inl hp))
  rw[List.mem_singleton]at hp;subst hp;exact⟨(h l (by simp)).1,hs.2⟩
 exact h p hp
theorem fold_ends {P Q:Rat->Prop}(l:List QQ):∀(out:List QQ),(∀p,p∈out->P p.1/\Q p.2)->(∀p,p∈l->P p.1/\Q p.2)->∀p,p∈l.foldl mstep out->P p.1/\Q p.2:=by
  induction l with
  |nil=>intro out h _;exact h
  |cons s l ih=>intro out h k;rw[List.foldl_cons];exact ih _ (mstep_ends h (k s (List.mem_cons_self ..))) fun p hp=>k p (List.mem_cons_of_mem _ hp)
theorem mergeV_ends {P Q:Rat->Prop}{l:List QQ}(h:∀p,p∈l->P p.1/\Q p.2):∀p,p∈mergeV l->P p.1/\Q p.2:=by
  unfold mergeV;refine fold_ends _ [] (by simp) fun p hp=>h p ?_
  unfold sortedV at hp;exact(mem_some2.1 (Stb.mem_stab.1 hp)).1
end Go.Proofs.YtngikkggjidenabGreat
namespace Go.Proofs.YtngikkggjidenabGreat
open Go.RowKit
attribute [local go_sem ↓] Go.wp_at_zero Go.wp_at_succ run_max_ii run_min_ii
theorem marksCmp_any (L:Nat)(hL:L<=60000)(w:World)(e f:MkE)(he:e.Ok L w)(hf:f.Ok L w):
  Calls Tryz.prog 111 #[.agg e.cells.toArray,.agg f.cells.toArray] w fun x w'=>∃z:Int,x= .returned (.int .i64 z)/\(z<0↔ltK e f=true)/\Ext w w':=by
 have RA:=zH he.1;have RB:=zH hf.1;have BA:=zH he.2.1;have BB:=zH hf.2.1;clear he hf;unfold MkE.cells;go_enter Tryz.func111,Tryz.ntmps111
 have H0:=zH (Hp.start w);go_upto_region 0 with fail
 refine wl ?_;refine aA' 98 [.bool e.a.n,.slice e.a.p e.a.l e.a.c,.bool e.a.m,.slice e.a.p2 e.a.l2 e.a.c2,.int .i64 e.up] H0.out ?_;intro X1 w2 H3 _;refine aA' 98 [.bool f.a.n,.slice f.a.p f.a.l f.a.c,.bool f.a.m,.slice f.a.p2 f.a.l2 f.a.c2,.int .i64 f.up] H3.out ?_;intro X6 w7 H8 _;refine zq (.int .i64 0) ?_;go_upto_region 1 with fail
 refine zy ?_;have H12:=zH (H8.out.step (Ext.refl w7).drew);refine zJ1 (Hp.start _) zb (bs 13 1) 0 _ ?_;refine zg 1 (bs 13 3) X1 (0) (rc e.a) (H8.out.range (i:=0) rR 0 4) Tryz.underlying33 zb ?_;refine zJ1 (Hp.start _) zb (bs 13 7) 2 _ ?_;refine zg 3 (bs 13 15) X6 (0) (rc f.a) (H8.out.range (i:=1) rR 0 4) Tryz.underlying33 zb ?_;refine zJ4 H8.out zb (bs 13 495) 5 6 7 8 _ _ _ _ ?_;refine mC 4 (bs 13 511) (pCmp (L:=60000) (RV.Is.nin (RA.out.dig H12.out.dig0) (Nat.le_trans BA.out (by omega))) (RV.Is.nin (RB.out.dig H12.out.dig0) (Nat.le_trans BB.out (by omega))) (by omega)) ?_;rintro e w18 ⟨rfl,hx⟩;have H19:=zH (H12.out.step hx);have S21:=zH (zb.trans hx);clear hx;refine zm S21.out ?_;refine mC 9 (bs 13 1023) (compare_any f.up e.up _) ?_;rintro e w22 ⟨rfl,hx⟩;have H23:=zH (H19.out.step hx);have S25:=zH (S21.out.trans hx);clear hx;refine zm S25.out ?_;refine md_lit (T:=3) (zs:=[.int .i64 (rcmp e.q f.q),.int .i64 (cmpI f.up e.up)]) (n:=2) (i:=10) (listed':=(bs 13 2047)) rR kR rR (by go_simp) kR H23.out (by simp[NoUL]) ?_;intro X26 w27 hh hx hge;have H28:=hN hh;have S30:=zH (S25.out.trans hx);clear hh hx hge;refine⟨S30.out,?_⟩;try simp only[Act.put,zA,zB,zC]
 refine mC 11 (bs 13 4095) (or_any X26 0 2 (rcmp e.q f.q) (cmpI f.up e.up) _ (H28.out.cell (i:=2) rR 0 rR) (H28.out.cell (i:=2) rR 1 rR)) ?_;rintro e w32 ⟨rfl,hx⟩;have H33:=zH (H28.out.step hx);have S35:=zH (S30.out.trans hx);clear hx;refine zm S35.out ?_;refine zx 12 (bs 13 8191) (.int .i64 (orI (rcmp e.q f.q) (cmpI f.up e.up))) S35.out ?_;refine wpAnyH_done kR ?_ _;go_wp2_with fail
 go_ret
 exact⟨_,rfl,by show _↔beforeV e.q e.up f.q f.up=true;rw[<-ord_lt,decide_eq_true_iff],H33.out.ext⟩
end Go.Proofs.YtngikkggjidenabGreat
namespace Go.Proofs.YtngikkggjidenabGreat
open Go.RowKit Go.Shelf
attribute [local go_sem] Oper.semAt_some
attribute [local go_sem ↓] Go.wp_at_zero Go.wp_at_succ run_eql_point run_neq_point run_max_ii run_min_ii
def MkI (L X3 Bo:Nat)(ry:RV)(y:Rat)(w W1:World)(pre:List OkE)(W:World):Prop:=
  ∃(A:Option Addr) (n c:Nat) (es:List MkE),Hp w W [.blk X3 33 [.bool ry.n,.slice ry.p ry.l ry.c,.bool ry.m,.slice ry.p2 ry.l2 ry.c2],.blk Bo 95 [.slice A n c],.row 98 5 (.slice A n c) n (List.flatMap MkE.cells es)]/\Dig W1 W/\(∀k,Value.ownBlock (.slice A n c)=some k->W1.heap.size<=k)/\(∀e,e∈es->e.Ok (L+8) W)/\es.map MkE.vl=(pre.map Subtype.val).filterMap (crossV y)/\n=es.length/\n<=pre.length/\W1.heap.size<=W.heap.size
def MkA (u:Value)(X3 Bo Bx:Nat)(ry:RV)(W1:World)(x:OkE)(a':Act)(W:World):Prop:=
  ∃ Xa Xb,Blk W Xa 28 ([.int .i64 x.1.1.1,.int .i64 x.1.1.2]:List Value).toArray/\Blk W Xb 28 ([.int .i64 x.1.2.1,.int .i64 x.1.2.2]:List Value).toArray/\Xa≠Xb/\W1.heap.size<=Xa/\W1.heap.size<=Xb/\
    a'={tmps:=#[u,.agg #[.bool ry.n,.slice ry.p ry.l ry.c,.bool ry.m,.slice ry.p2 ry.l2 ry.c2],undef,.pointer (some ⟨X3,0,none⟩),.slice none 0 0,.pointer (some ⟨Bo,0,none⟩),.pointer (some ⟨Xa,0,none⟩),.pointer (some ⟨Xb,0,none⟩),undef,undef,undef,undef,u,.func (.func 121) #[] #[.pointer (some ⟨Bx,0,none⟩)],.agg #[.int .i64 x.1.1.1,.int .i64 x.1.1.2],.agg #[.int .i64 x.1.2.1,.int .i64 x.1.2.2],undef,undef,undef,undef,undef,undef,undef,undef,undef,undef,undef,undef,undef,undef,undef,undef,undef,undef,undef,undef,undef,undef,undef,undef,undef,undef,undef,undef,undef,undef,undef],defers:=[]}
theorem mkI_own (L X3 Bo:Nat)(ry:RV)(y:Rat)(w W1:World)(hw:w.heap.size<=W1.heap.size):OwnFrom W1.heap.size (MkI L X3 Bo ry y w W1):=by
  rintro s W W' row ⟨A,n,c,es,h1,h2,h3,h4,h5,h6,h7,h8⟩ hg hr;have d:Dig W W':=Dig.kept hg (fun k hk=>(hr k hk).2);exact⟨A,n,c,es,h1.kept hg (fun k hk=>⟨Nat.le_trans hw (hr k hk).1,(hr k hk).2⟩),h2.trans d,h3,fun e he=>(h4 e he).dig d,h5,h6,h7,Nat.le_trans h8 hg.size⟩
theorem mkA_own (u:Value)(X3 Bo Bx:Nat)(ry:RV)(W1:World)(x:OkE)(a':Act):OwnFrom W1.heap.size (fun(_:Unit) W=>MkA u X3 Bo Bx ry W1 x a' W):=by
  rintro _ W W' row ⟨Xa,Xb,h1,h2,h3⟩ hg hr;exact⟨Xa,Xb,h1.kept hg (fun k hk=>(hr k hk).2),h2.kept hg (fun k hk=>(hr k hk).2),h3⟩
theorem hy_dig {L:Nat}{w w':World}{a:RV}{q:Rat}(h:a.In L w q)(x:Ext w w'):a.In L w' q:=h.ext x
theorem marks_any (L:Nat)(u:Value)(rs:List Ring)(ry:RV)(y:Rat)(w:World)(hu:RingsV w u rs)(hy:ry.In L w y)(h1L:1<=L)(hL:L<=2000)(hn:rs.length<=1048576)(hr:∀r,r∈rs->r.length<=1048576):
  Calls Tryz.prog 74 #[u,.agg #[.bool ry.n,.slice ry.p ry.l ry.c,.bool ry.m,.slice ry.p2 ry.l2 ry.c2]] w fun e w'=>∃A n c es,e= .returned (.slice A n c)/\n=List.length es/\RowN w' w.heap.size 98 5 (.slice A n c) n (List.flatMap MkE.cells es)/\
   (∀e,e∈es->e.Ok (L+8) w')/\es.map MkE.vl=marksV y rs/\Ext w w':=by
 obtain⟨qs,hqs⟩:∃qs,qs=if okR rs=true then rs else[]:=⟨_,rfl⟩
 have hq1:okR qs=true:=by
  rw[hqs];split
  ·assumption
  rfl
 have hq2:qs.length<=1048576:=by
  rw[hqs];split
  ·exact hn
  simp
 have HMV:=zH (show marksV y rs=Stb.stab ltM (crossesV y qs)by rw[hqs];rfl);have hp0:=(((Hp.start w).alloc 33 [.bool ry.n,.slice ry.p ry.l ry.c,.bool ry.m,.slice ry.p2 ry.l2 ry.c2] (by simp[NoUL])).alloc 95 [.slice none 0 0] (by simp[NoUL])).addNil 98 5;have hE0:Ext w ((w.alloc (.cells #[.bool ry.n,.slice ry.p ry.l ry.c,.bool ry.m,.slice ry.p2 ry.l2 ry.c2] 33)).alloc (.cells #[.slice none 0 0] 95)):=((Ext.refl w).alloc _).alloc _;have HC:=zH (edges_any u rs _ (hu.ext hE0) hn hr);have HY:=zH (hy.ext hE0);clear hu hy;have HP0:=zH hp0;clear hp0;have HE0:=zH hE0;clear hE0;refine(callsIn_wide (n:=4)).1 ?_;refine callsIn_of_wp_marks Tryz.func74 rfl trivial ?_ rfl;simp only[Tryz.ntmps74,List.size_toArray,List.length_cons,List.length_nil,Nat.reduceAdd,Nat.reduceSub,Array.replicate_succ,Array.replicate_zero,List.push_toArray,List.append_toArray,List.nil_append,List.cons_append];gi_wp2_with (refine⟨trivial,?_⟩;gi_at_call 80;refine(callsIn_wide.2 HC.out).mono ?_;rintro e W1 ⟨Bx,v,rfl,hB1,hB2,hcell,hR,hx⟩)
 rw[<-hqs]at hR;have HP1:=zH (HP0.out.step hx);have HR:=zH hR;have HY1:=zH (hy_dig HY.out hx);have hb1:w.heap.size+1<Bx:=by simp at hB1;omega
 obtain⟨X3,hX3⟩:∃X3,X3=w.heap.size:=⟨_,rfl⟩;obtain⟨Bo,hBo⟩:∃Bo,Bo=w.heap.size+1:=⟨_,rfl⟩;have HP2:=zH (show Hp w W1 [.blk X3 33 [.bool ry.n,.slice ry.p ry.l ry.c,.bool ry.m,.slice ry.p2 ry.l2 ry.c2],.blk Bo 95 [.slice none 0 0],.row 98 5 (.slice none 0 0) 0 (List.flatMap MkE.cells [])]from by rw[hX3,hBo];have h:=HP1.out;simpa using h);have hX3B:X3<W1.heap.size:=HP2.out.lt (i:=0) (by rfl) rfl;have hBoB:Bo<W1.heap.size:=HP2.out.lt (i:=1) (by rfl) rfl;have HRF:=zH (show RingsO (fun k=>¬(k=Bo\/W1.heap.size<=k)) W1 v qs from HR.out.imp (fun k h=>by have h1:=h.1;simp at h1;omega));rw[<-hBo,<-hX3];clear HP1 HR HP0 HY hqs hx hR hB1;have hbne:Bx≠Bo:=by omega
 clear hX3 hBo hb1;have HWS:=zH (show w.heap.size<=W1.heap.size from by have:=HP2.out.ext.size;exact this);have HYL:=zH (show Nm.rl y<=L from by have h:=HY1.out.rl;omega);refine edges_loop (by omega) (fun k=>k=Bo\/W1.heap.size<=k) Bx v qs rR hcell (fun hk=>hk.elim hbne (fun h=>by omega)) HRF.out hq2 hq1 (fun k h=> .inr h) (MkI L X3 Bo ry y w W1) (mkI_own L X3 Bo ry y w W1 HWS.out) ⟨none,0,0,[],HP2.out,Dig.refl _,by simp[Value.ownBlock],by simp,rfl,rfl,Nat.le_refl _,Nat.le_refl _⟩ (MkA u X3 Bo Bx ry W1) (mkA_own u X3 Bo Bx ry W1) ?assign ?body ?done;case assign=>
  intro l pre x W K hi hK;obtain⟨A,n,c,es,hh,hd,hfar,hok,hvl,hnl,hnp,hsz⟩:=hi;have HSZ:=zH hsz;clear hsz;have H0:=zH hh;have HK:=zH hK;have HF:=zH (And.intro hfar (And.intro hvl (And.intro hnl hnp)));have HOKS:=zH hok;have HD:=zH hd;clear hh hK hfar hok hvl hnl hnp hd;unfold ptVal2;simp only[zA,zB,zC];refine wpIn_seq ?_;refine wpIn_region_plain kR (fun⟨_,_,h⟩=>h) ?_;refine aA 28 [.int .i64 0,.int .i64 0] H0.out ?_;intro X37 w38 H40 hx hge;have Q39:=zH (show W.heap.size<=X37 from Nat.le_trans (Fr.of_ext (G:=fun kz=>False) (Ext.refl W)).size hge);have D40:=zH (Dig.of_ext hx);have K42:=zH (show Fr (fun kz=>False) W w38 from(Fr.of_ext (G:=fun kz=>False) (Ext.refl W)).trans (Fr.of_ext hx));clear hx hge;refine aS 3 [.int .i64 x.1.1.1,.int .i64 x.1.1.2] H40.out ?_;intro w44 H45 hd ho;have D45:=zH (hd);have K47:=zH (K42.out.trans_new ho (fun j hj=> .inr (by injection hj with hj;rw[<-hj];exact Q39.out)));clear hd ho;refine wpIn_region_plain kR (fun⟨_,_,h⟩=>h) ?_;refine aA 28 [.int .i64 0,.int .i64 0] H45.out ?_;intro X48 w49 H51 hx hge;have Q50:=zH (Nat.le_trans K47.out.size hge);have D51:=zH (Dig.of_ext hx);have K53:=zH (K47.out.trans (Fr.of_ext hx));clear hx hge;refine aS 4 [.int .i64 x.1.2.1,.int .i64 x.1.2.2] H51.out ?_;intro w55 H56 hd ho;have D56:=zH (hd);have K58:=zH (K53.out.trans_new ho (fun j hj=> .inr (by injection hj with hj;rw[<-hj];exact Q50.out)));clear hd ho;have DD59:=tD (tD (tD D40 D45) D51) D56;refine HK.out _ _ (KeepsFrom.of_fr K58.out (fun _ h=>h.elim)) (K58.out.imp (fun _ h=>h.elim)) ⟨A,n,c,es,H56.out.take 3,HD.out.trans DD59.out,HF.out.1,fun e he=>(HOKS.out e he).dig DD59.out,HF.out.2.1,HF.out.2.2.1,HF.out.2.2.2,Nat.le_trans HSZ.out K58.out.size⟩ ⟨X37,X48,H56.out.blk (i:=3) rR,H56.out.blk (i:=4) rR,?_,Nat.le_trans HSZ.out Q39.out,Nat.le_trans HSZ.out Q50.out,rfl⟩;exact fun e=>H56.out.apart 3 4 _ _ (by rfl) (by rfl) (by decide) X37 (by rfl) (by rw[e];rfl)
 case body=>
  intro l pre x a' W hi hax hlen;obtain⟨A,n,c,es,hh,hd,hfar,hok,hvl,hnl,hnp,hsz⟩:=hi;have HSZ:=zH hsz;clear hsz;obtain⟨Xa,Xb,hba,hbb,hne,hga,hgb,rfl⟩:=hax;obtain⟨⟨⟨ax,ay⟩,⟨bx,bY⟩⟩,hoke⟩:=x;dsimp only at hba hbb⊢
  have HOKE:=zH hoke;have HD:=zH hd;have HFAR:=zH hfar;have HOKS:=zH hok;have HVL:=zH hvl;have HNL:=zH hnl;have hnp4:n<4096:=by omega
  have HNP:=zH hnp;have H0:=zH (show Hp w W [.blk X3 33 (rc ry),.blk Bo 95 [.slice A n c],ro 98 5 A n c MkE.cells es,.blk Xa 28 [.int .i64 ax,.int .i64 ay],.blk Xb 28 [.int .i64 bx,.int .i64 bY]]from hh.addTyp2 hba hbb hne (Nat.le_trans HWS.out hga) (Nat.le_trans HWS.out hgb) (by simp[NoUL]) (by simp[NoUL]) (by simp[Ent.typ]));have HYW:=zH (HY1.out.dig hd);have hok4: -1048576<=ay/\ay<=1048576/\ -1048576<=bY/\bY<=1048576:=by have h1:=hoke.1;have h2:=hoke.2;simp only[okPt,Bool.and_eq_true,decide_eq_true_eq]at h1 h2;omega
  have HB4:=zH hok4;clear hh hd hfar hok hvl hnl hba hbb hne hok4 hnp hga hgb;refine wpIn_block ?_;refine wpIn_seq ?_;refine wpIn_region_held_drew (S:=fun x=>Ext W x) kR kR (fun⟨_,_,h⟩=>h) zb (fun _=> ?_);have H60:=zH (H0.out.step (Ext.refl W).drew);have D60:=zH (Dig.of_ext (w:=W) zb);have K62:=zH (show Fr (fun kz=>kz=Bo\/Value.ownBlock (.slice A n c)=some kz) W W.drew from(Fr.of_ext (G:=fun kz=>kz=Bo\/Value.ownBlock (.slice A n c)=some kz) (Ext.refl W)).trans (Fr.of_ext (Ext.refl W).drew));refine zJ1 (Hp.start _) zb (bs 12 1) 0 _ ?_;refine md_ld1 (g:=Xa) (o:=1) (v:= .int .i64 ay) (i:=1) (listed':=(bs 12 3)) rR kR kR kR (by intro _ _ _ h;exact h) rR (fun x hx=>Ext.get hx (show World.cell? W ⟨Xa,1,none⟩=some (.int .i64 ay)from cell_of_range (H0.out.range (i:=3) rR 1 1))) (by intro x hq;go_simp<;>with_reducible rfl) zb kR ?_;refine zJ2 H0.out zb (bs 12 43) 3 5 _ _ ?_;refine md_ld1 (g:=Xb) (o:=1) (v:= .int .i64 bY) (i:=6) (listed':=(bs 12 107)) rR kR kR kR (by intro _ _ _ h;exact h) rR (fun x hx=>Ext.get hx (show World.cell? W ⟨Xb,1,none⟩=some (.int .i64 bY)from cell_of_range (H0.out.range (i:=4) rR 1 1))) (by intro x hq;go_simp<;>with_reducible rfl) zb kR ?_;refine zJ1 H0.out zb (bs 12 363) 8 _ ?_;refine mC 2 (bs 12 367) (pFrom ay _ (by have ob0:=HB4.out;omega) (by have ob0:=HB4.out;omega)) ?_;rintro e w65 ⟨c_,rfl,hc_,hx⟩;have H67:=zH (H60.out.step hx);have D67:=zH (show Dig W.drew w65 from Dig.of_ext hx);have K69:=zH (K62.out.trans (Fr.of_ext hx));have S70:=zH (zb.trans hx);obtain⟨r66,rfl,hr_⟩:=hc_;have R66:=zH hr_;have B66:=zH (rl_i64 ay (by have ob0:=HB4.out;omega) (by have ob0:=HB4.out;omega));clear hr_ hx;refine zm S70.out ?_;have DD72:=tD D60 D67;refine mC 4 (bs 12 383) (pCmp (L:=60000) (RV.Is.nin R66.out (Nat.le_trans B66.out (by omega))) (RV.In.nin (RV.In.mono (HYW.out.dig DD72.out) (by omega))) (by omega)) ?_;rintro e w71 ⟨rfl,hx⟩;have H73:=zH (H67.out.step hx);have D73:=zH (Dig.of_ext hx);have K75:=zH (K69.out.trans (Fr.of_ext hx));have S76:=zH (S70.out.trans hx);clear hx;refine zm S76.out ?_;refine mC 7 (bs 12 511) (pFrom bY _ (by have ob0:=HB4.out;omega) (by have ob0:=HB4.out;omega)) ?_;rintro e w77 ⟨c_,rfl,hc_,hx⟩;have H79:=zH (H73.out.step hx);have D79:=zH (Dig.of_ext hx);have K81:=zH (K75.out.trans (Fr.of_ext hx));have S82:=zH (S76.out.trans hx);obtain⟨r78,rfl,hr_⟩:=hc_;have R78:=zH hr_;have B78:=zH (rl_i64 bY (by have ob0:=HB4.out;omega) (by have ob0:=HB4.out;omega));clear hr_ hx;refine zm S82.out ?_;have DD84:=tD (tD (tD D60 D67) D73) D79;refine mC 9 (bs 12 1023) (pCmp (L:=60000) (RV.Is.nin R78.out (Nat.le_trans B78.out (by omega))) (RV.In.nin (RV.In.mono (HYW.out.dig DD84.out) (by omega))) (by omega)) ?_;rintro e w83 ⟨rfl,hx⟩;have H85:=zH (H79.out.step hx);have D85:=zH (Dig.of_ext hx);have K87:=zH (K81.out.trans (Fr.of_ext hx));have S88:=zH (S82.out.trans hx);clear hx;refine zm S88.out ?_;refine zJ2 (Hp.start _) S88.out (bs 12 4095) 10 11 (.int .i64 (rcmp (((ay):Int):Rat) y)) (.int .i64 (rcmp (((bY):Int):Rat) y)) ?_;refine wpAnyH_done kR ?_ _;rcases emH ((((ay):Int):Rat)<y/\y<(((bY):Int):Rat))with CU|CU
  ·have HCR:=zH (cross_up (a:=(ax,ay)) (b:=(bx,bY)) CU.out)
   have HPRE:=zH (xat_pre (a:=ay) (b:=bY) (.inl CU.out));have hz1:rcmp (((ay):Int):Rat) y= -1:=rcmp_m1 CU.out.1;have hz2:rcmp (((bY):Int):Rat) y=1:=rcmp_p1 CU.out.2;rw[hz1,hz2];clear hz1 hz2;change Code.wpIn _ _ _ _ _ _ _;refine wpIn_seq ?_;refine wpIn_seq ?_;refine wpIn_region_plain kR (fun⟨_,_,h⟩=>h) ?_;refine zI2 (Hp.start _) (.int .i64 (-1)) _ ?_;refine zp (.int .i64 (-1)) (by exact ez3 (by have ob0:=HB4.out;omega)) ?_;refine zp (.bool false) (by exact ezo (e:=(dec_f (by have ob0:=HB4.out;omega)))) ?_;change Code.wpIn _ _ _ _ _ _ _;refine wpIn_cond_false rR ?_;refine wpIn_skip ?_;change Code.wpIn _ _ _ _ _ _ _;refine wpIn_seq ?_;refine wpIn_region_plain kR (fun⟨_,_,h⟩=>h) ?_;refine zI3 H85.out _ _ _ ?_;have DD98:=tD (tD (tD (tD D60 D67) D73) D79) D85;refine zc (xat_any L ax ay bx bY _ y _ (RV.In.nin (HYW.out.dig DD98.out)) h1L (by omega) HOKE.out.1 HOKE.out.2 HPRE.out.1 HPRE.out.2.1 HPRE.out.2.2) ?_;rintro e w96 ⟨c_,rfl,hc_,hx⟩;have H99:=zH (H85.out.step hx);have D99:=zH (Dig.of_ext hx);have K101:=zH (K87.out.trans (Fr.of_ext hx));obtain⟨r97,rfl,hr_⟩:=hc_;have R97:=zH hr_;have B97:=zH (rl_xat HOKE.out.1 HOKE.out.2 HYL.out);clear hr_ hx;refine zn ?_;refine zI3 (Hp.start _) _ _ (.bool true) ?_;refine aA 33 rz H99.out ?_;intro X105 w106 H108 hx hge;have Q107:=zH (Nat.le_trans K101.out.size hge);have D108:=zH (Dig.of_ext hx);have K110:=zH (K101.out.trans (Fr.of_ext hx));clear hx hge;refine aS 5 (rc r97) H108.out ?_;intro w112 H113 hd ho;have D113:=zH (hd);have K115:=zH (K110.out.trans_new ho (fun j hj=> .inr (by injection hj with hj;rw[<-hj];exact Q107.out)));clear hd ho;refine zq (.bool true) ?_;change Code.wpIn _ _ _ _ _ _ _;refine wpIn_seq ?_;refine wpIn_region_plain kR (fun⟨_,_,h⟩=>h) ?_;refine zq (.bool true) ?_;change Code.wpIn _ _ _ _ _ _ _;refine wpIn_cond_true rR ?_;have HNB:=zH hnp4;refine wpIn_region_plain kR (fun⟨_,_,h⟩=>h) ?_;refine zI4 H113.out _ _ _ _ ?_;refine zp (w':=(w112.alloc (.cells ([.bool r97.n,.slice r97.p r97.l r97.c,.bool r97.m,.slice r97.p2 r97.l2 r97.c2,.int .i64 1]:List Value).toArray 98))) (.slice (some ⟨w112.heap.size,0,none⟩) 1 1) (by go_simp) ?_;refine mv_app rR _ _ _ rR elMark rR H113.out (ix:=2) rR 1 1 [.bool r97.n,.slice r97.p r97.l r97.c,.bool r97.m,.slice r97.p2 r97.l2 r97.c2,.int .i64 1] rR rfl (by simp[Value.oneCell']) (by simp[NoUL]) dC (by unfold maxLen;exact(by have ob0:=HB4.out;have ob1:=HNB.out;omega)) (by have ob0:=HB4.out;have ob1:=HNB.out;omega) ?_;intro g121 cp122 w120 hf hh hd hg;have Fg121:=zH hf;clear hf;rw[show List.flatMap MkE.cells es++[.bool r97.n,.slice r97.p r97.l r97.c,.bool r97.m,.slice r97.p2 r97.l2 r97.c2,.int .i64 1]=_ from flat_snoc MkE.cells _ (⟨r97,(xatV ax ay bx bY y),1⟩:MkE)]at hh;have H123:=hN hh;have D123:=zH (hd);have K125:=zH (show Fr (fun kz=>kz=Bo\/Value.ownBlock (.slice A n c)=some kz) W w120 from(K115.out.trans (Fr.of_ext ((Ext.refl _).alloc _))).trans_new hg (fun j hj=> .inl (.inr hj)));clear hh hd hg;try simp only[Act.put,zA,zB,zC]
   refine aU 1 (.slice (some ⟨g121,0,none⟩) (n+1) cp122) H123.out ?_;intro w126 H127 hd ho;have D127:=zH (hd);have K129:=zH (K125.out.trans_new ho (fun j hj=> .inl (.inl (by injection hj with hj;exact hj.symm))));clear hd ho;have DD130:=tD (tD (tD D108 D113) D123) D127;have HNEW:=zH (show MkE.Ok (L+8) w126 (⟨r97,(xatV ax ay bx bY y),1⟩:MkE)from⟨(R97.out.dig DD130.out),B97.out,(show(-1:Int)<=1 by decide),(show(1:Int)<=1 by decide)⟩);exact⟨(KeepsFrom.of_fr K129.out (fun k hk o ho=>hk.elim (fun e=>H0.out.cells (i:=1) (by rfl) (by rw[e];rfl) o ho) (fun e=>H0.out.cells (i:=2) (by rfl) (by exact e) o ho))),(K129.out.imp (fun k hk=>hk.imp id (fun e=>HFAR.out k e))),_,_,_,_,H127.out.take 3,HD.out.trans (((((((((D60.out.trans D67.out).trans D73.out).trans D79.out).trans D85.out).trans D99.out).trans D108.out).trans D113.out).trans D123.out).trans D127.out),(fun k hk=>by (have hk2:g121=k:=by simpa[Value.ownBlock]using hk);(subst hk2);exact Fg121.out.elim (fun q=>HFAR.out _ q) (fun q=>Nat.le_trans HSZ.out (Nat.le_trans K115.out.size q))),(fun e he=>(List.mem_append.1 he).elim (fun he=>(HOKS.out e he).dig (((((((((D60.out.trans D67.out).trans D73.out).trans D79.out).trans D85.out).trans D99.out).trans D108.out).trans D113.out).trans D123.out).trans D127.out)) (fun he=>by rw[List.mem_singleton.1 he];exact HNEW.out)),(by rw[List.map_append,HVL.out,List.map_append,List.filterMap_append];simp[HCR.out,MkE.vl]),(by rw[List.length_append,<-HNL.out];rfl),(by have h:=HNP.out;simp;omega),Nat.le_trans HSZ.out K129.out.size⟩
  rcases emH ((((bY):Int):Rat)<y/\y<(((ay):Int):Rat))with CD|CD
  ·have HCR:=zH (cross_down (a:=(ax,ay)) (b:=(bx,bY)) CD.out)
   have HPRE:=zH (xat_pre (a:=ay) (b:=bY) (.inr CD.out));have hz1:rcmp (((ay):Int):Rat) y=1:=rcmp_p1 CD.out.2;have hz2:rcmp (((bY):Int):Rat) y= -1:=rcmp_m1 CD.out.1;rw[hz1,hz2];clear hz1 hz2;change Code.wpIn _ _ _ _ _ _ _;refine wpIn_seq ?_;refine wpIn_seq ?_;refine wpIn_region_plain kR (fun⟨_,_,h⟩=>h) ?_;refine zI2 (Hp.start _) _ (.int .i64 (-1)) ?_;refine zp (.int .i64 (-1)) (by exact ez3 (by have ob0:=HB4.out;omega)) ?_;refine zp (.bool false) (by exact ezo (e:=(dec_f (by have ob0:=HB4.out;omega)))) ?_;change Code.wpIn _ _ _ _ _ _ _;refine wpIn_cond_false rR ?_;refine wpIn_skip ?_;change Code.wpIn _ _ _ _ _ _ _;refine wpIn_seq ?_;refine wpIn_region_plain kR (fun⟨_,_,h⟩=>h) ?_;refine zI3 H85.out _ _ _ ?_;have DD138:=tD (tD (tD (tD D60 D67) D73) D79) D85;refine zc (xat_any L ax ay bx bY _ y _ (RV.In.nin (HYW.out.dig DD138.out)) h1L (by omega) HOKE.out.1 HOKE.out.2 HPRE.out.1 HPRE.out.2.1 HPRE.out.2.2) ?_;rintro e w136 ⟨c_,rfl,hc_,hx⟩;have H139:=zH (H85.out.step hx);have D139:=zH (Dig.of_ext hx);have K141:=zH (K87.out.trans (Fr.of_ext hx));obtain⟨r137,rfl,hr_⟩:=hc_;have R137:=zH hr_;have B137:=zH (rl_xat HOKE.out.1 HOKE.out.2 HYL.out);clear hr_ hx;refine zn ?_;refine zI3 (Hp.start _) _ _ (.bool true) ?_;refine aA 33 rz H139.out ?_;intro X145 w146 H148 hx hge;have Q147:=zH (Nat.le_trans K141.out.size hge);have D148:=zH (Dig.of_ext hx);have K150:=zH (K141.out.trans (Fr.of_ext hx));clear hx hge;refine aS 5 (rc r137) H148.out ?_;intro w152 H153 hd ho;have D153:=zH (hd);have K155:=zH (K150.out.trans_new ho (fun j hj=> .inr (by injection hj with hj;rw[<-hj];exact Q147.out)));clear hd ho;refine zq (.bool true) ?_;change Code.wpIn _ _ _ _ _ _ _;refine wpIn_seq ?_;refine wpIn_region_plain kR (fun⟨_,_,h⟩=>h) ?_;refine zq (.bool true) ?_;change Code.wpIn _ _ _ _ _ _ _;refine wpIn_cond_true rR ?_;have HNB:=zH hnp4;refine wpIn_region_plain kR (fun⟨_,_,h⟩=>h) ?_;refine zI4 H153.out _ _ (.int .i64 (-1)) _ ?_;refine zp (w':=(w152.alloc (.cells ([.bool r137.n,.slice r137.p r137.l r137.c,.bool r137.m,.slice r137.p2 r137.l2 r137.c2,.int .i64 (-1)]:List Value).toArray 98))) (.slice (some ⟨w152.heap.size,0,none⟩) 1 1) (by go_simp) ?_;refine mv_app rR _ _ _ rR elMark rR H153.out (ix:=2) rR 1 1 [.bool r137.n,.slice r137.p r137.l r137.c,.bool r137.m,.slice r137.p2 r137.l2 r137.c2,.int .i64 (-1)] rR rfl (by simp[Value.oneCell']) (by simp[NoUL]) dC (by unfold maxLen;exact(by have ob0:=HB4.out;have ob1:=HNB.out;omega)) (by have ob0:=HB4.out;have ob1:=HNB.out;omega) ?_;intro g161 cp162 w160 hf hh hd hg;have Fg161:=zH hf;clear hf;rw[show List.flatMap MkE.cells es++[.bool r137.n,.slice r137.p r137.l r137.c,.bool r137.m,.slice r137.p2 r137.l2 r137.c2,.int .i64 (-1)]=_ from flat_snoc MkE.cells _ (⟨r137,(xatV ax ay bx bY y),-1⟩:MkE)]at hh;have H163:=hN hh;have D163:=zH (hd);have K165:=zH (show Fr (fun kz=>kz=Bo\/Value.ownBlock (.slice A n c)=some kz) W w160 from(K155.out.trans (Fr.of_ext ((Ext.refl _).alloc _))).trans_new hg (fun j hj=> .inl (.inr hj)));clear hh hd hg;try simp only[Act.put,zA,zB,zC]
   refine aU 1 (.slice (some ⟨g161,0,none⟩) (n+1) cp162) H163.out ?_;intro w166 H167 hd ho;have D167:=zH (hd);have K169:=zH (K165.out.trans_new ho (fun j hj=> .inl (.inl (by injection hj with hj;exact hj.symm))));clear hd ho;have DD170:=tD (tD (tD D148 D153) D163) D167;have HNEW:=zH (show MkE.Ok (L+8) w166 (⟨r137,(xatV ax ay bx bY y),-1⟩:MkE)from⟨(R137.out.dig DD170.out),B137.out,(show(-1:Int)<= -1 by decide),(show(-1:Int)<=1 by decide)⟩);exact⟨(KeepsFrom.of_fr K169.out (fun k hk o ho=>hk.elim (fun e=>H0.out.cells (i:=1) (by rfl) (by rw[e];rfl) o ho) (fun e=>H0.out.cells (i:=2) (by rfl) (by exact e) o ho))),(K169.out.imp (fun k hk=>hk.imp id (fun e=>HFAR.out k e))),_,_,_,_,H167.out.take 3,HD.out.trans (((((((((D60.out.trans D67.out).trans D73.out).trans D79.out).trans D85.out).trans D139.out).trans D148.out).trans D153.out).trans D163.out).trans D167.out),(fun k hk=>by (have hk2:g161=k:=by simpa[Value.ownBlock]using hk);(subst hk2);exact Fg161.out.elim (fun q=>HFAR.out _ q) (fun q=>Nat.le_trans HSZ.out (Nat.le_trans K155.out.size q))),(fun e he=>(List.mem_append.1 he).elim (fun he=>(HOKS.out e he).dig (((((((((D60.out.trans D67.out).trans D73.out).trans D79.out).trans D85.out).trans D139.out).trans D148.out).trans D153.out).trans D163.out).trans D167.out)) (fun he=>by rw[List.mem_singleton.1 he];exact HNEW.out)),(by rw[List.map_append,HVL.out,List.map_append,List.filterMap_append];simp[HCR.out,MkE.vl]),(by rw[List.length_append,<-HNL.out];rfl),(by have h:=HNP.out;simp;omega),Nat.le_trans HSZ.out K169.out.size⟩
  have HCR:=zH (cross_no (a:=(ax,ay)) (b:=(bx,bY)) CU.out CD.out);have HPR:=zH (cross_prod CU.out CD.out);change Code.wpIn _ _ _ _ _ _ _;refine wpIn_seq ?_;refine wpIn_seq ?_;refine wpIn_region_plain kR (fun⟨_,_,h⟩=>h) ?_;refine zI2 (Hp.start _) (.int .i64 (rcmp (((ay):Int):Rat) y)) (.int .i64 (rcmp (((bY):Int):Rat) y)) ?_;refine zp (.int .i64 (rcmp (((ay):Int):Rat) y*rcmp (((bY):Int):Rat) y)) (by exact ev_mul rR rR rR rfl (by have:=HPR.out.1;omega) (by have:=HPR.out.2;omega)) ?_;refine zp (.bool true) (by exact ezo (e:=(dec_t HPR.out.1))) ?_;change Code.wpIn _ _ _ _ _ _ _;refine wpIn_cond_true rR ?_;refine wpIn_exit ?_;exact⟨(KeepsFrom.of_fr K87.out (fun k hk o ho=>hk.elim (fun e=>H0.out.cells (i:=1) (by rfl) (by rw[e];rfl) o ho) (fun e=>H0.out.cells (i:=2) (by rfl) (by exact e) o ho))),(K87.out.imp (fun k hk=>hk.imp id (fun e=>HFAR.out k e))),A,n,c,es,H85.out.take 3,HD.out.trans ((((D60.out.trans D67.out).trans D73.out).trans D79.out).trans D85.out),HFAR.out,(fun e he=>(HOKS.out e he).dig ((((D60.out.trans D67.out).trans D73.out).trans D79.out).trans D85.out)),(by rw[HVL.out,List.map_append,List.filterMap_append];simp[HCR.out]),HNL.out,(by have h:=HNP.out;simp;omega),Nat.le_trans HSZ.out K87.out.size⟩
 rintro D xs W hD hxs ⟨A,n,c,es,hh,hd,hfar,hok,hvl,hnl,hnp,hsz⟩ hK;have cB:W.cell? ⟨Bo,0,none⟩=some (.slice A n c):=hh.cell (i:=1) (by rfl) 0 (by rfl);have hrow:=hh.row (i:=2) (by rfl);have hn4:es.length<=20000:=by
  have h1:xs.length=(edgesV qs).length:=by rw[<-hxs,List.length_map]
  have h2:=edgesV_len qs;have h3:=okR_tot hq1;omega
 have HSO:=zH (sortMk_any (L+8) (.slice A n c) es w.heap.size W (by rw[<-hnl];exact hrow) hok (fun w e f he hf=>marksCmp_any (L+8) (by omega) w e f he hf) hn4);have HH:=zH hh;have HVL:=zH hvl;have HNL:=zH hnl;have HOK:=zH hok;have HXS:=zH hxs;have HD:=zH hK;clear hrow hh hvl hnl hok hxs hK hfar hnp hd;gi_wp2
 refine⟨trivial,?_⟩;gi_at_call 110
 refine(callsIn_wide.2 HSO.out).mono ?_;rintro e Ws ⟨rfl,hrs,hgr⟩;have HS:=zH (HH.out.turn (i:=2) (e:= .row 98 5 (.slice A n c) n (List.flatMap MkE.cells es)) (e':= .row 98 5 (.slice A n c) n (List.flatMap MkE.cells (Stb.stab ltK es))) (by rfl) (fun k h=>h) hgr (by rw[<-HNL.out]at hrs;exact hrs) (fun k hk=> .inl hk));have cB2:Ws.cell? ⟨Bo,0,none⟩=some (.slice A n c):=HS.out.cell (i:=1) (by rfl) 0 (by rfl);gi_wp2
 have hKs:Ws.heap[D]?=some (.deferred (some [])):=(hgr.block D (Array.getElem?_eq_some_iff.1 HD.out).1 (fun e=>by
  have h1:=HH.out.cells (i:=2) (by rfl) (by exact e.symm) _ HD.out;cases h1)).trans HD.out
 refine⟨by simp,.inl ⟨_,_,rfl,run_takeDeferred hKs,?_⟩⟩;have hfin:=HS.out.kept (grownBy_putObj' Ws D (.deferred none)) (fun k hk=>by injection hk with hk;subst hk;exact⟨Nat.le_trans HWS.out hD,_,hKs,rfl⟩);have hdf:Dig W _:=((HH.out.growDig (i:=2) (by rfl) hgr).trans (Dig.kept (grownBy_putObj' Ws D (.deferred none)) (fun k hk=>by injection hk with hk;subst hk;exact⟨_,hKs,rfl⟩)));refine⟨_,results_tmp rfl _ _ _,A,n,c,Stb.stab ltK es,rfl,by rw[Stb.stab_len];exact HNL.out,hfin.row (i:=2) rR,fun e he=>(HOK.out e ((Stb.mem_stab).1 he)).dig hdf,?_,hfin.ext⟩;rw[HMV.out,stab_map MkE.vl (lt:=ltK) (lt':=ltM) (fun _ _=>rfl),HVL.out,HXS.out];rfl
end Go.Proofs.YtngikkggjidenabGreat
namespace Go.Proofs.YtngikkggjidenabGreat
open Go.RowKit
attribute [local go_sem ↓] Go.wp_at_zero Go.wp_at_succ run_max_ii run_min_ii
def MkE.cx (e:MkE):List Value:=[.bool e.a.n,.slice e.a.p e.a.l e.a.c,.bool e.a.m,.slice e.a.p2 e.a.l2 e.a.c2]
def MkE.cu (e:MkE):List Value:=[.int .i64 e.up]
theorem marksV_len (y:Rat)(rs:List Ring):(marksV y rs).length<=4096:=by
  unfold marksV;rw[Stb.stab_len];unfold crossesV;refine Nat.le_trans (List.length_filterMap_le _ _) (Nat.le_trans (edgesV_len _) ?_);split
  · rename_i h;exact okR_tot h
  decide
theorem take_snoc {α:Type}{l:List α}{k:Nat}{e:α}(h:l[k]?=some e):l.take (k+1)=l.take k++[e]:=by rw[List.take_add_one,h];rfl
end Go.Proofs.YtngikkggjidenabGreat
namespace Go.Proofs.YtngikkggjidenabGreat
open Go.RowKit
def psum (ms:List QI)(k:Nat):Int:=((ms.take k).map fun a=>a.2).sum
theorem psum_succ {ms:List QI}{k:Nat}{a:QI}(h:ms[k]?=some a):psum ms (k+1)=psum ms k+a.2:=by
  unfold psum;rw[take_snoc h,List.map_append,List.sum_append];simp
theorem runs_get:∀(ms:List QI) (s:Int) (k:Nat) (a b:QI),ms[k]?=some a->ms[k+1]?=some b->(runs s ms)[k]?=some ((a.1,b.1),s+psum ms (k+1))
 | [],s,k,a,b,h,_=>by simp at h
 | [x],s,0,a,b,_,h=>by simp at h
 | [x],s,k+1,a,b,h,_=>by simp at h
 |x::y::t,s,0,a,b,h1,h2=>by
  simp at h1 h2;subst h1 h2;simp[runs,psum]
 |x::y::t,s,k+1,a,b,h1,h2=>by
  have ih:=runs_get (y::t) (s+x.2) k a b (by simpa using h1) (by simpa using h2);show(runs (s+x.2) (y::t))[k]?=_;rw[ih];have e:psum (x::y::t) (k+1+1)=x.2+psum (y::t) (k+1):=by unfold psum;rw[List.take_succ_cons];simp
  rw[e];congr 2;omega
theorem runs_len:∀(ms:List QI) (s:Int),(runs s ms).length=ms.length-1
  | [],s=>rfl
  | [x],s=>rfl
  | x::y::t,s=>by
    have:=runs_len (y::t) (s+x.2);simp[runs,this]
theorem sel_take {rule:Int}{l:List (QQ×Int)}{k:Nat}{r:QQ×Int}(h:l[k]?=some r):sel rule (l.take (k+1))=sel rule (l.take k)++(if fillsV r.2 rule=true then[r.1]else[]):=by rw[take_snoc h,sel_app,sel_one]
theorem sel_len (rule:Int)(l:List (QQ×Int)):(sel rule l).length<=l.length:=by
  unfold sel;rw[List.length_map];exact List.length_filter_le _ _
theorem SpE.Ok.dig {L:Nat}{w w':World}{e:SpE}(h:e.Ok L w)(d:Dig w w'):e.Ok L w':=⟨h.1.dig d,h.2.1.dig d,h.2.2⟩
theorem RowN.base {w:World}{b b':Nat}{t:TypeId}{size:Nat}{v:Value}{n:Nat}{xs:List Value}(h:RowN w b t size v n xs)(hb:b'<=b):RowN w b' t size v n xs:=by
  obtain⟨h1,h2|⟨g,cap,rest,a,c,d⟩⟩:=h
  · exact⟨h1,.inl h2⟩
  exact⟨h1,.inr ⟨g,cap,rest,a,Nat.le_trans hb c,d⟩⟩
theorem SpR.base {L:Nat}{w:World}{b b':Nat}{v:Value}{es:List SpE}(h:SpR L w b v es)(hb:b'<=b):SpR L w b' v es:=⟨h.1.base hb,h.2⟩
theorem SpR.dig {L:Nat}{w w':World}{b:Nat}{v:Value}{es:List SpE}(h:∀e,e∈es->e.Ok L w)(d:Dig w w')(hr:RowN w' b 94 8 v es.length (spCells es)):SpR L w' b v es:=⟨hr,fun e he=>(h e he).dig d⟩
end Go.Proofs.YtngikkggjidenabGreat
namespace Go.Proofs.YtngikkggjidenabGreat
theorem runs_lo:∀{ms:List QI} {s:Int} {m:Rat},(∀a,a∈ms->m<=a.1)->∀r,r∈runs s ms->m<=r.1.1
  | [],s,_,_,r,hr=>by rw[runs]at hr;simp at hr
  | [a],s,_,_,r,hr=>by rw[runs]at hr;simp at hr
  | a::b::t,s,m,h,r,hr=>by
    rw[runs]at hr;rcases List.mem_cons.1 hr with rfl|hr
    · exact h a (List.mem_cons_self ..)
    exact runs_lo (fun c hc=>h c (List.mem_cons_of_mem _ hc)) r hr
theorem ins_mapm {α β:Type}(f:α->β){lt:α->α->Bool}{lt':β->β->Bool}{y:α}:∀{l:List α},(∀x,x∈l->lt y x=lt' (f y) (f x))->(Stb.ins lt l y).map f=Stb.ins lt' (l.map f) (f y)
  | [],_=>rfl
  | x::l,h=>by
    have ih:=ins_mapm f (lt:=lt) (lt':=lt') (y:=y) (l:=l) (fun z hz=>h z (by simp[hz]));have h1:=h x (by simp);rw[List.map_cons];unfold Stb.ins;rw[<-h1];by_cases c:lt y x=true
    · rw[if_pos c,if_pos c];rfl
    rw[if_neg c,if_neg c,List.map_cons,ih]
theorem stab_mapm {α β:Type}(f:α->β){lt:α->α->Bool}{lt':β->β->Bool}(l:List α):(∀x,x∈l->∀z,z∈l->lt x z=lt' (f x) (f z))->(Stb.stab lt l).map f=Stb.stab lt' (l.map f):=by
 refine Stb.rev_rec (motive:=fun l=>(∀x,x∈l->∀z,z∈l->lt x z=lt' (f x) (f z))->(Stb.stab lt l).map f=Stb.stab lt' (l.map f)) (fun _=>rfl) (fun l y ih h=> ?_) l;rw[Stb.stab_snoc,List.map_append,List.map_cons,List.map_nil,Stb.stab_snoc,<-ih (fun x hx z hz=>h x (by simp[hx]) z (by simp[hz]))];exact ins_mapm f (fun x hx=>h y (by simp) x (by simp[Stb.mem_stab.1 hx]))
def runsE {α:Type}:Int->List (α×Int)->List ((α×α)×Int)
  |s,a::b::t=>((a.1,b.1),s+a.2)::runsE (s+a.2) (b::t)
  |_,[_]=>[]
  |_,[]=>[]
theorem runs_map {α:Type}(f:α->Rat):∀(L:List (α×Int)) (s:Int),runs s (L.map fun a=>(f a.1,a.2))=(runsE s L).map fun r=>((f r.1.1,f r.1.2),r.2)
  | [],_=>rfl
  | [_],_=>rfl
  | a::b::t,s=>by
    have ih:=runs_map f (b::t) (s+a.2);show((f a.1,f b.1),s+a.2)::runs (s+a.2) ((b::t).map fun a=>(f a.1,a.2))=_;rw[ih];rfl
theorem runsE_mem {α:Type}{r:(α×α)×Int}:∀{L:List (α×Int)} {s:Int},r∈runsE s L->(∃d,(r.1.1,d)∈L)/\∃d,(r.1.2,d)∈L
  | [],_,h=>by cases h
  | [_],_,h=>by cases h
  | a::b::t,s,h=>by
    rcases List.mem_cons.1 h with e|e
    · subst e;exact⟨⟨a.2,by simp⟩,⟨b.2,by simp⟩⟩
    obtain⟨⟨d,h1⟩,d2,h2⟩:=runsE_mem (L:=b::t) e;exact⟨⟨d,List.mem_cons_of_mem _ h1⟩,d2,List.mem_cons_of_mem _ h2⟩
theorem sel_map {α:Type}(f:α->Rat)(rule:Int)(L:List (α×Int)):sel rule (runs 0 (L.map fun a=>(f a.1,a.2)))=((runsE 0 L).filter fun r=>fillsV r.2 rule).map fun r=>(f r.1.1,f r.1.2):=by
  unfold sel;rw[runs_map,List.filter_map,List.map_map];rfl
theorem runs_touch:∀{ms:List QI} {s:Int},ms.Pairwise (fun a b=>a.1<=b.1)->((runs s ms).map fun r=>r.1).Pairwise Touch
  | [],_,_=>by simp[runs]
  | [_],_,_=>by simp[runs]
  | a::b::t,s,h=>by
    obtain⟨h1,h2⟩:=List.pairwise_cons.1 h;have ih:=runs_touch (ms:=b::t) (s:=s+a.2) h2;show(((a.1,b.1):QQ)::(runs (s+a.2) (b::t)).map fun r=>r.1).Pairwise Touch;refine List.pairwise_cons.2 ⟨fun r hr _ _=> ?_,ih⟩;obtain⟨x,hx,rfl⟩:=List.mem_map.1 hr;exact .inl (runs_lo (m:=b.1) (fun z hz=>by
      rcases List.mem_cons.1 hz with e|e
      · rw[e];exact Rat.le_refl
      exact(List.pairwise_cons.1 h2).1 z e) x hx)
theorem sel_touch {ms:List QI}(rule:Int)(h:ms.Pairwise (fun a b=>a.1<=b.1)):(sel rule (runs 0 ms)).Pairwise Touch:=by
  unfold sel;have h1:=runs_touch (s:=0) h;rw[List.pairwise_map]at h1⊢;exact h1.filter _
theorem refL_bd {a b:Int×Int}{rs:List Ring}{z:Rat}(h:z∈refL a b rs):(a.2:Rat)<=z/\z<=(b.2:Rat):=by
  unfold refL at h;split at h
  · rename_i k
    have hlt:(a.2:Rat)<(b.2:Rat):=by exact_mod_cast k.2.2.2
    rcases outQ_mem.1 h with e|⟨_,e1,e2⟩
    · simp at e
      rcases e with rfl|rfl
      · exact⟨Rat.le_refl,Rat.le_of_lt hlt⟩
      exact⟨Rat.le_of_lt hlt,Rat.le_refl⟩
    exact⟨Rat.le_of_lt e1,Rat.le_of_lt e2⟩
  simp at h
theorem refL_srt (a b:Int×Int)(rs:List Ring):(refL a b rs).Pairwise (· < ·):=by
  unfold refL;split
  · rename_i k
    have hlt:(a.2:Rat)<(b.2:Rat):=by exact_mod_cast k.2.2.2
    exact outQ_srt (by simp[hlt])
  simp
theorem refL_in {a b:Int×Int}{rs:List Ring}{z:Rat}(k:evOk a b rs)(h:z∈refAll a b rs)(h1:(a.2:Rat)<z)(h2:z<(b.2:Rat)):z∈refL a b rs:=by
  unfold refL;rw[if_pos k];exact outQ_mem.2 (.inr ⟨h,h1,h2⟩)
theorem listed_ok {a b:Int×Int}{rs:List Ring}{y p q:Rat}{i:Nat}(k:evOk a b rs)(hy:y∈refAll a b rs)(hp:(refL a b rs)[i]?=some p)(hq:(refL a b rs)[i+1]?=some q):¬(p<y/\y<q):=by
 rintro⟨h1,h2⟩;have bp:=refL_bd (List.mem_of_getElem? hp);have bq:=refL_bd (List.mem_of_getElem? hq);have hm:=refL_in k hy (by grind) (by grind);obtain⟨j,hj⟩:=List.mem_iff_getElem?.1 hm;have hs:=List.pairwise_iff_getElem.1 (refL_srt a b rs);obtain⟨li,ei⟩:=List.getElem?_eq_some_iff.1 hp;obtain⟨lq,eq⟩:=List.getElem?_eq_some_iff.1 hq;obtain⟨lj,ej⟩:=List.getElem?_eq_some_iff.1 hj;rcases Nat.lt_trichotomy j i with h|h|h
 ·have:=hs j i lj li h;rw[ej,ei]at this;grind
 ·subst h;rw[ej]at ei;rw[ei]at h1;exact absurd h1 (Rat.lt_irrefl)
 rcases Nat.lt_trichotomy j (i+1)with h'|h'|h'
 ·omega
 ·subst h';rw[ej]at eq;rw[eq]at h2;exact absurd h2 (Rat.lt_irrefl)
 have:=hs (i+1) j lq lj h';rw[ej,eq]at this;grind
theorem refP_mem {rs:List Ring}{r:Ring}{p:Int×Int}(h1:r∈rs)(h2:p∈r)(a b:Int×Int):(p.2:Rat)∈refAll a b rs:=
  List.mem_append_left _ (List.mem_flatMap.2 ⟨r,h1,List.mem_map.2 ⟨p,h2,rfl⟩⟩)
theorem refC_mem {a b:Int×Int}{z:Rat}:∀{l p:List Edge} {i k:Nat} {x o:Edge},l[i]?=some x->(p++l.take i)[k]?=some o->z∈segL x o->z∈refC a b p l
 | [],p,i,k,x,o,h,_,_=>by simp at h
 |y::l,p,0,k,x,o,h,ho,hz=>by
  have e:y=x:=by simpa using h
  subst e;unfold refC;rw[List.take_zero,List.append_nil]at ho;exact List.mem_append_left _ (List.mem_append_left _ (List.mem_append_left _ (List.mem_flatMap.2 ⟨o,List.mem_of_getElem? ho,hz⟩)))
 |y::l,p,i+1,k,x,o,h,ho,hz=>by
  unfold refC;refine List.mem_append_right _ (refC_mem (i:=i) (k:=k) (x:=x) (o:=o) (by simpa using h) ?_ hz);rw[List.append_assoc];simpa using ho
theorem cross_mem {a b:Int×Int}{rs:List Ring}{i k:Nat}{x o:Edge}(hx:(edgesV rs)[i]?=some x)(ho:(edgesV rs)[k]?=some o)(h:k<i)(h1:segN x.1 x.2 o.1 o.2=1):segY x.1 x.2 o.1 o.2∈refAll a b rs:=by
  refine List.mem_append_right _ (refC_mem (p:=[]) (i:=i) (k:=k) (o:=o) hx ?_ ?_)
  · rw[List.nil_append,List.getElem?_take_of_lt h];exact ho
  unfold segL;rw[if_pos h1];simp
end Go.Proofs.YtngikkggjidenabGreat
namespace Go.Proofs.YtngikkggjidenabGreat
open Go.RowKit
theorem marksV_ofA (y:Rat)(rs:List Ring):marksV y rs=Stb.stab ltM ((edgesOf rs).filterMap (crossV y)):=rfl
def edX (e:Edge)(y:Rat):Rat:=xatV e.1.1 e.1.2 e.2.1 e.2.2 y
theorem edX_lin (e:Edge)(y:Rat):edX e y=slp e.1 e.2*y+((e.1.1:Rat)-(e.1.2:Rat)*slp e.1 e.2):=xatV_lin e.1 e.2 y
theorem edge_ends {rs:List Ring}{e:Edge}(h:e∈edgesV rs):∃r,r∈rs/\e.1∈r/\e.2∈r:=by
  unfold edgesV at h;obtain⟨r,hr,h⟩:=List.mem_flatMap.1 h;unfold ringEn at h;obtain⟨i,_,h⟩:=List.mem_filterMap.1 h;unfold edgeAt at h;split at h
  · rename_i a b ha hb
    split at h
    · cases h
    injection h with h;subst h;exact⟨r,hr,List.mem_of_getElem? ha,List.mem_of_getElem? hb⟩
  cases h
theorem yat_mem {a b:Int×Int}{z:Rat}:∀{l p:List Edge} {x:Edge},x∈l->(z∈yatL x a.1\/z∈yatL x b.1)->z∈refC a b p l
  | y::l,p,x,h,hz=>by
    unfold refC;rcases List.mem_cons.1 h with e|e
    · subst e
      refine List.mem_append_left _ ?_;unfold refStep;rcases hz with hz|hz
      · exact List.mem_append_left _ (List.mem_append_right _ hz)
      exact List.mem_append_right _ hz
    exact List.mem_append_right _ (yat_mem e hz)
theorem con_end {p q z:Rat}(h:∀r,p<r->r<q->r≠z):(Con p q fun y=>z<y)/\Con p q fun y=>y<z:=by
  have c:z<=p\/q<=z:=by
    by_cases h1:p<z
    · by_cases h2:z<q
      · exact absurd rfl (h z h1 h2)
      exact .inr (Rat.not_lt.1 h2)
    exact .inl (Rat.not_lt.1 h1)
  exact⟨fun y w hy hw k=>by rcases c with c|c<;>grind,fun y w hy hw k=>by rcases c with c|c<;>grind⟩
theorem Con.and {p q:Rat}{P R:Rat->Prop}(h:Con p q P)(k:Con p q R):Con p q fun y=>P y/\R y:=fun y z hy hz c=>⟨h y z hy hz c.1,k y z hy hz c.2⟩
theorem cross_con {e:Edge}{p q y z:Rat}(h1:∀r,p<r->r<q->r≠(e.1.2:Rat))(h2:∀r,p<r->r<q->r≠(e.2.2:Rat))(hy:p<y/\y<q)(hz:p<z/\z<q):crossV z e=(crossV y e).map fun m=>(edX e z,m.2):=by
 have k1:=(con_end h1).1.and (con_end h2).2;have k2:=(con_end h2).1.and (con_end h1).2;unfold crossV;by_cases a:(e.1.2:Rat)<y/\y<(e.2.2:Rat)
 ·rw[if_pos a,if_pos (k1 y z hy hz a)];rfl
 rw[if_neg a,if_neg (fun c=>a (k1 z y hz hy c))];by_cases b:(e.2.2:Rat)<y/\y<(e.1.2:Rat)
 ·rw[if_pos b,if_pos (k2 y z hy hz b)];rfl
 rw[if_neg b,if_neg (fun c=>b (k2 z y hz hy c))];rfl
theorem cross_range {e:Edge}{y:Rat}{m:QI}(h:crossV y e=some m):e.1.2≠e.2.2/\((min e.1.2 e.2.2:Int):Rat)<y/\y<((max e.1.2 e.2.2:Int):Rat):=by
 unfold crossV at h;split at h
 ·rename_i c
  have hq:(e.1.2:Rat)<(e.2.2:Rat):=by grind
  have hl:e.1.2<e.2.2:=by exact_mod_cast hq
  rw[Int.min_eq_left (by omega),Int.max_eq_right (by omega)];exact⟨by omega,c⟩
 split at h
 ·rename_i c
  have hq:(e.2.2:Rat)<(e.1.2:Rat):=by grind
  have hl:e.2.2<e.1.2:=by exact_mod_cast hq
  rw[Int.min_eq_right (by omega),Int.max_eq_left (by omega)];exact⟨by omega,c⟩
 cases h
theorem fm_congr {α β γ:Type}{f:α->Option β}{g:α->Option γ}{k:α->γ->β}:∀{l:List α},(∀e,e∈l->f e=(g e).map (k e))->l.filterMap f=(l.filterMap fun e=>(g e).map fun m=>(e,m)).map fun c=>k c.1 c.2
  | [],_=>rfl
  | e::l,h=>by
    have ih:=fm_congr (f:=f) (g:=g) (k:=k) (l:=l) (fun z hz=>h z (by simp[hz]));rw[List.filterMap_cons,List.filterMap_cons,h e (by simp)];cases g e with
    |none=>exact ih
    |some m=>rw[Option.map_some,Option.map_some,List.map_cons,ih]
def bandC (y:Rat)(rs:List Ring):List (Edge×Int):=((edgesOf rs).filterMap fun e=>(crossV y e).map fun m=>(e,m)).map fun c=>(c.1,c.2.2)
theorem bandC_mem {y:Rat}{rs:List Ring}{c:Edge×Int}(h:c∈bandC y rs):c.1∈edgesOf rs/\∃m,crossV y c.1=some m:=by
  unfold bandC at h;obtain⟨x,hx,rfl⟩:=List.mem_map.1 h;obtain⟨e,he,h2⟩:=List.mem_filterMap.1 hx;cases hm:crossV y e with
  |none=>rw[hm]at h2;cases h2
  |some m=>rw[hm]at h2;injection h2 with h2;subst h2;exact⟨he,m,hm⟩
section
variable {a b:Int×Int} {rs:List Ring} {p q:Rat} {i:Nat}
theorem gap (k:evOk a b rs)(hp:(refL a b rs)[i]?=some p)(hq:(refL a b rs)[i+1]?=some q){r:Rat}(h1:p<r)(h2:r<q):r∉refAll a b rs:=fun h=>listed_ok k h hp hq ⟨h1,h2⟩
theorem end_gap (k:evOk a b rs)(hp:(refL a b rs)[i]?=some p)(hq:(refL a b rs)[i+1]?=some q){e:Edge}(he:e∈edgesOf rs):(∀r,p<r->r<q->r≠(e.1.2:Rat))/\∀r,p<r->r<q->r≠(e.2.2:Rat):=by
  rw[edgesOf_t k.1]at he;obtain⟨r,hr,m1,m2⟩:=edge_ends he;exact⟨fun z h1 h2 e=>gap k hp hq h1 h2 (e▸refP_mem hr m1 a b),fun z h1 h2 e=>gap k hp hq h1 h2 (e▸refP_mem hr m2 a b)⟩
theorem range_band (k:evOk a b rs)(hp:(refL a b rs)[i]?=some p)(hq:(refL a b rs)[i+1]?=some q){y:Rat}(hy:p<y/\y<q){c:Edge×Int}(hc:c∈bandC y rs){r:Rat}(hr:p<r/\r<q):c.1.1.2≠c.1.2.2/\((min c.1.1.2 c.1.2.2:Int):Rat)<r/\r<((max c.1.1.2 c.1.2.2:Int):Rat):=by
  obtain⟨he,m,hm⟩:=bandC_mem hc;have g:=end_gap k hp hq he;have h:=cross_con g.1 g.2 hy hr;rw[hm]at h;exact cross_range h
theorem con_lt (k:evOk a b rs)(hp:(refL a b rs)[i]?=some p)(hq:(refL a b rs)[i+1]?=some q){y0:Rat}(hy:p<y0/\y0<q){c d:Edge×Int}(hc:c∈bandC y0 rs)(hd:d∈bandC y0 rs):Con p q fun y=>edX c.1 y<edX d.1 y:=by
 intro y z hy1 hz1 h;have e:∀r,edX c.1 r-edX d.1 r=(slp c.1.1 c.1.2-slp d.1.1 d.1.2)*r+(((c.1.1.1:Rat)-(c.1.1.2:Rat)*slp c.1.1 c.1.2)-((d.1.1.1:Rat)-(d.1.1.2:Rat)*slp d.1.1 d.1.2)):=fun r=>by rw[edX_lin,edX_lin];grind
 have h1:=sgn_const (m:=slp c.1.1 c.1.2-slp d.1.1 d.1.2) (k:=((c.1.1.1:Rat)-(c.1.1.2:Rat)*slp c.1.1 c.1.2)-((d.1.1.1:Rat)-(d.1.1.2:Rat)*slp d.1.1 d.1.2)) (p:=p) (q:=q) (y:=y) (z:=z) ?_ hy1 hz1 (by rw[<-e];grind)
 ·rw[<-e]at h1;grind
 by_cases hs:slp c.1.1 c.1.2=slp d.1.1 d.1.2
 ·exact .inl (by rw[hs];grind)
 refine .inr (fun r h1 h2 h0=> ?_);have hx:edX c.1 r=edX d.1 r:=by rw[<-e]at h0;grind
 have r1:=range_band k hp hq hy hc ⟨h1,h2⟩;have r2:=range_band k hp hq hy hd ⟨h1,h2⟩;have m:=meet_seg r1.1 r2.1 r1.2 r2.2 hx hs;have ec:=(bandC_mem hc).1;have ed:=(bandC_mem hd).1;rw[edgesOf_t k.1]at ec ed;obtain⟨n,hn⟩:=List.mem_iff_getElem?.1 ec;obtain⟨o,ho⟩:=List.mem_iff_getElem?.1 ed;rcases Nat.lt_trichotomy o n with t|t|t
 ·have g:=cross_mem (a:=a) (b:=b) hn ho t m.1
  rw[m.2]at g;exact gap k hp hq h1 h2 g
 ·subst t
  rw[hn]at ho;injection ho with ho
  exact hs (by rw[ho])
 have g:=cross_mem (a:=a) (b:=b) ho hn t (by rw[segN_swap];exact m.1);rw[segY_swap,m.2]at g;exact gap k hp hq h1 h2 g
theorem yat_gap (k:evOk a b rs)(hp:(refL a b rs)[i]?=some p)(hq:(refL a b rs)[i+1]?=some q){e:Edge}(he:e∈edgesOf rs){r:Rat}(h1:p<r)(h2:r<q)(hr:e.1.2≠e.2.2/\((min e.1.2 e.2.2:Int):Rat)<r/\r<((max e.1.2 e.2.2:Int):Rat))(hs:slp e.1 e.2≠0){x:Int}(hx:x=a.1\/x=b.1):edX e r≠(x:Rat):=by
 intro h;have f:=frac_in hr.1 hr.2.1 hr.2.2;have hv:=cast_ne hr.1;have ev:=Rat.mul_inv_cancel _ hv;have hne:e.1.1≠e.2.1:=by
  intro c;apply hs;unfold slp;rw[c,show e.2.1-e.2.1=0 by omega];show _*(0:Rat)=0;grind
 have hu:=cast_ne hne;have eu:=Rat.mul_inv_cancel _ hu;have hxx:(x:Rat)=(e.1.1:Rat)+(r-(e.1.2:Rat))*((e.2.2:Rat)-(e.1.2:Rat))⁻¹*((e.2.1-e.1.1:Int):Rat):=by
  rw[<-h];unfold edX xatV;rw[Rat.div_def,Rat.intCast_sub e.2.2,show((1:Int):Rat)=1 from rfl,Rat.one_mul]
 have hU:inU ((r-(e.1.2:Rat))*((e.2.2:Rat)-(e.1.2:Rat))⁻¹):=by
  refine⟨fun c=> ?_,fun c=> ?_⟩
  ·rw[show(((0):Int):Rat)=0 from rfl]at c;exact absurd f.1 (Rat.not_le.2 c)
  rw[show(((1):Int):Rat)=1 from rfl]at c;exact absurd f.2 (Rat.not_le.2 c)
 have hb:=lerp_bd (p:=e.1.1) (q:=e.2.1) hU;rw[<-hxx]at hb;have hok:okE e:=by rw[edgesOf_t k.1]at he;exact edges_ok k.1 e he
 have hC:yatC e.1 e.2 x:=⟨hok.1,hok.2,hne,by exact_mod_cast hb.1,by exact_mod_cast hb.2⟩;have hQ:yatQ e.1 e.2 x=r:=by
  unfold yatQ;rw[Rat.div_def,Rat.intCast_sub,Rat.intCast_sub,Rat.intCast_sub,hxx,Rat.intCast_sub];generalize ((e.2.2:Rat)-(e.1.2:Rat))⁻¹=i at*
  generalize ((e.2.1:Rat)-(e.1.1:Rat))⁻¹=j at*
  grind
 have he2:=he;rw[edgesOf_t k.1]at he2;refine gap k hp hq h1 h2 (List.mem_append_right _ (yat_mem he2 ?_));have hm:r∈yatL e x:=by unfold yatL;rw[if_pos hC,hQ];simp
 rcases hx with rfl|rfl
 ·exact .inl hm
 exact .inr hm
theorem con_at (k:evOk a b rs)(hp:(refL a b rs)[i]?=some p)(hq:(refL a b rs)[i+1]?=some q){y0:Rat}(hy:p<y0/\y0<q){c:Edge×Int}(hc:c∈bandC y0 rs){x:Int}(hx:x=a.1\/x=b.1):(Con p q fun y=>edX c.1 y<(x:Rat))/\Con p q fun y=>(x:Rat)<edX c.1 y:=by
 have key:∀r,p<r->r<q->slp c.1.1 c.1.2=0\/edX c.1 r≠(x:Rat):=fun r h1 h2=>by
  by_cases hs:slp c.1.1 c.1.2=0
  ·exact .inl hs
  exact .inr (yat_gap k hp hq (bandC_mem hc).1 h1 h2 (range_band k hp hq hy hc ⟨h1,h2⟩) hs hx)
 constructor
 ·intro y z hy1 hz1 h
  have e:∀r,edX c.1 r-(x:Rat)=slp c.1.1 c.1.2*r+(((c.1.1.1:Rat)-(c.1.1.2:Rat)*slp c.1.1 c.1.2)-(x:Rat)):=fun r=>by rw[edX_lin];grind
  have h1:=sgn_const (m:=slp c.1.1 c.1.2) (k:=((c.1.1.1:Rat)-(c.1.1.2:Rat)*slp c.1.1 c.1.2)-(x:Rat)) (p:=p) (q:=q) (y:=y) (z:=z) ?_ hy1 hz1 (by rw[<-e];grind)
  ·rw[<-e]at h1;grind
  by_cases hs:slp c.1.1 c.1.2=0
  ·exact .inl hs
  exact .inr (fun r h1 h2 h0=>(key r h1 h2).elim hs (fun n=>n (by rw[<-e]at h0;grind)))
 intro y z hy1 hz1 h;have e:∀r,(x:Rat)-edX c.1 r=(-slp c.1.1 c.1.2)*r+((x:Rat)-((c.1.1.1:Rat)-(c.1.1.2:Rat)*slp c.1.1 c.1.2)):=fun r=>by rw[edX_lin];grind
 have h1:=sgn_const (m:= -slp c.1.1 c.1.2) (k:=(x:Rat)-((c.1.1.1:Rat)-(c.1.1.2:Rat)*slp c.1.1 c.1.2)) (p:=p) (q:=q) (y:=y) (z:=z) ?_ hy1 hz1 (by rw[<-e];grind)
 ·rw[<-e]at h1;grind
 by_cases hs:slp c.1.1 c.1.2=0
 ·exact .inl (by rw[hs];grind)
 exact .inr (fun r h1 h2 h0=>(key r h1 h2).elim hs (fun n=>n (by rw[<-e]at h0;grind)))
def widV (rule:Int)(a b:Int×Int)(rs:List Ring)(y:Rat):Rat:=lenV (a.1:Rat) (b.1:Rat) (spansV rule (marksV y rs))
theorem width_aff (rule:Int)(k:evOk a b rs)(hp:(refL a b rs)[i]?=some p)(hq:(refL a b rs)[i+1]?=some q):Aff (widV rule a b rs) p q:=by
 have hpq:p<q:=by
  obtain⟨l1,g1⟩:=List.getElem?_eq_some_iff.1 hp;obtain⟨l2,g2⟩:=List.getElem?_eq_some_iff.1 hq;have:=List.pairwise_iff_getElem.1 (refL_srt a b rs) i (i+1) l1 l2 (by omega);rwa[g1,g2]at this
 have hy:=mid_in hpq;generalize (p+q)/2=y0 at hy
 have hM:∀y,p<y->y<q->marksV y rs=(Stb.stab (fun c d=>ltM (edX c.1 y0,c.2) (edX d.1 y0,d.2)) (bandC y0 rs)).map fun c=>(edX c.1 y,c.2):=by
  intro y h1 h2;rw[marksV_ofA,stab_mapm (fun c:Edge×Int=>((edX c.1 y,c.2):QI)) (lt':=ltM) (bandC y0 rs) (fun c hc d hd=> ?_)]
  ·congr 1
   rw[fm_congr (f:=crossV y) (g:=crossV y0) (k:=fun e m=>(edX e y,m.2)) (fun e he=>cross_con (end_gap k hp hq he).1 (end_gap k hp hq he).2 hy ⟨h1,h2⟩)];unfold bandC;rw[List.map_map];rfl
  have c1:=con_lt k hp hq hy hc hd;have c2:=con_lt k hp hq hy hd hc;have a1:=c1 y0 y hy ⟨h1,h2⟩;have a2:=c1 y y0 ⟨h1,h2⟩ hy;have b1:=c2 y0 y hy ⟨h1,h2⟩;have b2:=c2 y y0 ⟨h1,h2⟩ hy;rw[Bool.eq_iff_iff,ltM_iff,ltM_iff];simp only;grind
 have hL:∀c,c∈Stb.stab (fun c d:Edge×Int=>ltM (edX c.1 y0,c.2) (edX d.1 y0,d.2)) (bandC y0 rs)->c∈bandC y0 rs:=fun c h=>Stb.mem_stab.1 h
 generalize Stb.stab (fun c d:Edge×Int=>ltM (edX c.1 y0,c.2) (edX d.1 y0,d.2)) (bandC y0 rs)=L at*
 have hW:∀y,p<y->y<q->widV rule a b rs y=(((runsE 0 L).filter fun r=>fillsV r.2 rule).map fun r=>len1 (a.1:Rat) (b.1:Rat) (edX r.1.1 y,edX r.1.2 y)).sum:=by
  intro y h1 h2;have hs:(marksV y rs).Pairwise (fun a b=>a.1<=b.1):=by
   rw[marksV_ofA];refine(Stb.stab_srt wkM _).imp (fun {a b} h=> ?_);have h2:¬ltM b a=true:=by rw[h];decide
   rw[ltM_iff]at h2;exact Rat.not_lt.1 (fun c=>h2 (.inl c))
  unfold widV spansV;rw[mergeV_len _ _ (sel_touch rule hs),hM y h1 h2,sel_map (fun e=>edX e y)];unfold lenV;rw[List.map_map];rfl
 refine(Aff.sum (g:=fun(r:(Edge×Edge)×Int) y=>len1 (a.1:Rat) (b.1:Rat) (edX r.1.1 y,edX r.1.2 y)) (fun r hr=> ?_)).congr hW;obtain⟨⟨d1,m1⟩,d2,m2⟩:=runsE_mem (List.mem_filter.1 hr).1;have n1:=hL _ m1;have n2:=hL _ m2;exact len1_aff hpq ⟨_,_,fun y _ _=>edX_lin r.1.1 y⟩ ⟨_,_,fun y _ _=>edX_lin r.1.2 y⟩ (con_at k hp hq hy n1 (.inl rfl)).1 (con_at k hp hq hy n2 (.inr rfl)).2 (con_lt k hp hq hy n1 n2) (con_at k hp hq hy n2 (.inl rfl)).2 (con_at k hp hq hy n1 (.inr rfl)).1
end
end Go.Proofs.YtngikkggjidenabGreat
namespace Go.Proofs.YtngikkggjidenabGreat
open Go.RowKit
def areaV (rule:Int)(a b:Int×Int)(rs:List Ring):Rat:=if b.1<=a.1\/b.2<=a.2 then 0 else bandSum (widV rule a b rs) (refL a b rs)
theorem refL_hts {a b:Int×Int}{rs:List Ring}(k:evOk a b rs):Hts (a.2:Rat) (b.2:Rat) (refL a b rs):=by
  refine⟨refL_srt a b rs,fun z hz=>refL_bd hz,?_,?_⟩
  · unfold refL;rw[if_pos k];exact outQ_mem.2 (.inl (by simp))
  unfold refL;rw[if_pos k];exact outQ_mem.2 (.inl (by simp))
theorem affAll_of {W:Rat->Rat}:∀{l:List Rat},(∀(i:Nat) (p q:Rat),l[i]?=some p->l[i+1]?=some q->Aff W p q)->AffAll W l
  | [],_=>trivial
  | [_],_=>trivial
  |x::y::l,h=>⟨h 0 x y rfl rfl,affAll_of (l:=y::l) (fun i p q h1 h2=>h (i+1) p q h1 h2)⟩
theorem refL_aff (rule:Int){a b:Int×Int}{rs:List Ring}(k:evOk a b rs):AffAll (widV rule a b rs) (refL a b rs):=affAll_of fun _ _ _ h1 h2=>width_aff rule k h1 h2
theorem band_zero {W:Rat->Rat}(h:∀y,W y=0):∀l:List Rat,bandSum W l=0
  | x::y::l=>by
    show W _*_+bandSum W (y::l)=0;rw[h,band_zero h (y::l)];grind
  | [x]=>rfl
  | []=>rfl
theorem area_box {rule:Int}{a b:Int×Int}{rs:List Ring}(h:a.2<b.2)(h1:a.1<=b.1):areaV rule a b rs=bandSum (widV rule a b rs) (refL a b rs):=by
  unfold areaV;by_cases c:b.1<=a.1
  · rw[if_pos (.inl c)]
    exact(band_zero (W:=widV rule a b rs) (fun y=>lenV_back (by exact_mod_cast c) _) _).symm
  rw[if_neg (by omega)]
theorem widV_le {rule:Int}{a b:Int×Int}{rs:List Ring}(h:a.1<=b.1)(y:Rat):widV rule a b rs y<=(b.1:Rat)-(a.1:Rat):=lenV_le _ (mergeV_law _).1 (by exact_mod_cast h)
theorem widV_nn {rule:Int}{a b:Int×Int}{rs:List Ring}(y:Rat):0<=widV rule a b rs y:=lenV_nn _ _ _
end Go.Proofs.YtngikkggjidenabGreat
