/- Contracts that the claim stands on: XDrawn to XRAt17. -/
import Derived.Test.YtdkfmkeaaeooeaaGreatProg
import Derived.Calls
import Derived.Shelf.SlSortCmp.NoneTotal
import Derived.Sort.CutIn
import Derived.Sort.LoopGhostIn
import Derived.Test.YtdkfmkeaaeooeaaGreatRows
import Derived.ProofKit
import Derived.OpenShut
import Derived.Below
import Derived.Deep.Slices
import Derived.Lib.SmallJoins
import Derived.ChangeSlices
import Derived.Deep.LoopGhost
import Derived.Deep.DeepCutAuto
import Derived.Test.YtdkfmkeaaeooeaaGreatM4
set_option maxRecDepth 100000
set_option maxHeartbeats 4000000
namespace Go.Proofs.YtdkfmkeaaeooeaaGreat
open Go.RowKit
section
def worldOf {α:Type}:Result α->World
  | .ok _ w=>w
  | .halt _ w=>w
theorem ask_drawn {α:Type}(x:Ask α):∀w:World,w.drawn<=(w.ask x).2.drawn:=by
  induction x with
  |done a=>intro w;exact Nat.le_refl _
  | ask what range k ih=>
    intro w;simp only[World.ask];split
    · exact ih _ w
    exact Nat.le_trans (Nat.le_succ _) (ih _ {w with drawn:=w.drawn+1})
theorem sys_drawn (w:World)(c:Sys):w.drawn<=(w.sys c).2.drawn:=by
  have h:=ask_drawn (Kernel.perform c w.os) w;unfold World.sys;split
  · exact Nat.le_refl _
  rename_i h1;rw[h1]at h;exact h
theorem viewStore_drawn {p:Program}{w:World}{a:Addr}{u:TypeId}{k:Addr}{v:Value}{b:Bool}{r:World×List Addr}(h:w.viewStore p a u k v b= .ok r):r.1.drawn=w.drawn:=by
  unfold World.viewStore at h;simp only[bind,Except.bind,pure,Except.pure]at h;repeat' split at h
  all_goals first|(cases h;rfl)|(cases h)
theorem farStore_drawn {p:Program}{w:World}{a:Addr}{v:Value}{b:Bool}{r:World×List Addr}(h:w.farStore p a v b= .ok r):r.1.drawn=w.drawn:=by
  unfold World.farStore at h;split at h
  · split at h
    · rename_i h2
      cases h;exact viewStore_drawn h2
    cases h
  cases h
theorem run_drawn {α:Type}(p:Program)(s:Sem α):∀w:World,w.drawn<=(worldOf (s.run p w)).drawn:=by
  induction s with
  |pure a=>intro w;exact Nat.le_refl _
  | load m a k ih=>
    intro w;unfold Sem.run;split
    · exact ih _ w
    split
    · exact ih _ w
    exact Nat.le_refl _
  | store m a v k ih=>
    intro w;cases v<;>simp only[Sem.run]<;>first
      |exact Nat.le_refl _
      | (split
         · split
           · exact Nat.le_refl _
           exact ih (w.setCell a _)
         split
         · rename_i h;have e:=farStore_drawn h;rw[<-e];exact ih _
         exact Nat.le_refl _)
  |new o k ih=>intro w;exact ih _ {w with heap:=w.heap.push o}
  |shape r k ih=>intro w;exact ih _ w
  | freeze a n k ih=>
    intro w;have h:=ih (w.freeze a n);have e:(w.freeze a n).drawn=w.drawn:=by unfold World.freeze;split<;>rfl
    rw[e]at h;exact h
  |frozen a k ih=>intro w;exact ih _ w
  | getObj r k ih=>
    intro w;unfold Sem.run;split
    · exact Nat.le_refl _
    · exact ih _ w
    exact Nat.le_refl _
  | setObj r o k ih=>
    intro w;unfold Sem.run;split
    · exact Nat.le_refl _
    · exact ih {w with heap:=w.heap.setIfInBounds r o}
    exact Nat.le_refl _
  | choose q k ih=>
    intro w;unfold Sem.run;split
    · exact ih _ w
    exact Nat.le_trans (Nat.le_succ _) (ih _ {w with drawn:=w.drawn+1})
  |sys c k ih=>intro w;exact Nat.le_trans (sys_drawn w c) (ih _ _)
  |program k ih=>intro w;exact ih _ w
  |mark m k ih=>intro w;exact ih w
  |halt h=>intro w;exact Nat.le_refl _
theorem runT_drawn {α:Type}(p:Program)(s:Sem α):∀(w:World) (es:Array Event),w.drawn<=(worldOf (s.runT p w es).1).drawn:=by
  induction s with
  |pure a=>intro w es;exact Nat.le_refl _
  | load m a k ih=>
    intro w es;unfold Sem.runT;split
    · exact ih _ w _
    split
    · exact ih _ w _
    exact Nat.le_refl _
  | store m a v k ih=>
    intro w es;cases v<;>simp only[Sem.runT]<;>first
      |exact Nat.le_refl _
      | (split
         · split
           · exact Nat.le_refl _
           exact ih (w.setCell a _) _
         split
         · rename_i h;have e:=farStore_drawn h;rw[<-e];exact ih _ _
         exact Nat.le_refl _)
  |new o k ih=>intro w es;exact ih _ {w with heap:=w.heap.push o} _
  |shape r k ih=>intro w es;exact ih _ w _
  | freeze a n k ih=>
    intro w es;have h:=ih (w.freeze a n) es;have e:(w.freeze a n).drawn=w.drawn:=by unfold World.freeze;split<;>rfl
    rw[e]at h;exact h
  |frozen a k ih=>intro w es;exact ih _ w _
  | getObj r k ih=>
    intro w es;unfold Sem.runT;split
    · exact Nat.le_refl _
    · exact ih _ w _
    exact Nat.le_refl _
  | setObj r o k ih=>
    intro w es;unfold Sem.runT;split
    · exact Nat.le_refl _
    · exact ih {w with heap:=w.heap.setIfInBounds r o} _
    exact Nat.le_refl _
  | choose q k ih=>
    intro w es;unfold Sem.runT;split
    · exact ih _ w _
    exact Nat.le_trans (Nat.le_succ _) (ih _ {w with drawn:=w.drawn+1} _)
  |sys c k ih=>intro w es;exact Nat.le_trans (sys_drawn w c) (ih _ _ _)
  |program k ih=>intro w es;exact ih _ w _
  |mark m k ih=>intro w es;exact ih w _
  |halt h=>intro w es;exact Nat.le_refl _
theorem run_ok {α:Type}{p:Program}{s:Sem α}{w w':World}{a:α}(h:s.run p w= .ok a w'):w.drawn<=w'.drawn:=by
  have h2:=run_drawn p s w;rw[h]at h2;exact h2
theorem run_halt {α:Type}{p:Program}{s:Sem α}{w w':World}{a:Halt}(h:s.run p w= .halt a w'):w.drawn<=w'.drawn:=by
  have h2:=run_drawn p s w;rw[h]at h2;exact h2
theorem runT_ok {α:Type}{p:Program}{s:Sem α}{w w':World}{a:α}{es es':Array Event}(h:s.runT p w es=(.ok a w',es')):w.drawn<=w'.drawn:=by
  have h2:=runT_drawn p s w es;rw[h]at h2;exact h2
theorem runT_halt {α:Type}{p:Program}{s:Sem α}{w w':World}{a:Halt}{es es':Array Event}(h:s.runT p w es=(.halt a w',es')):w.drawn<=w'.drawn:=by
  have h2:=runT_drawn p s w es;rw[h]at h2;exact h2
def gGe (d:Nat):GStep->Prop
  | .go _ w _=>d<=w.drawn
  | .comm _ _ _ _ w _=>d<=w.drawn
  | .spawn _ _ w _=>d<=w.drawn
  | .count _ w _=>d<=w.drawn
  | .timer _ _ w _=>d<=w.drawn
  | .alone _ _ w _=>d<=w.drawn
  | .newcoro _ _ _ w _=>d<=w.drawn
  | .coroswitch _ _ _ w _=>d<=w.drawn
  | .collect _ w _=>d<=w.drawn
  | .watch _ w _=>d<=w.drawn
  | .ended .. =>True
theorem after_ge {d:Nat}{es:Array Event}{g:GStep}:gGe d (GStep.after es g)=gGe d g:=by cases g<;>rfl
theorem ite_ge {c:Prop}[Decidable c]{a b:GStep}{d:Nat}(h1:gGe d a)(h2:gGe d b):gGe d (if c then a else b):=by
  split
  · exact h1
  exact h2
theorem endWith_ge (d:Nat)(w:World)(n:Nat)(t:ByteArray)(o:Outcome):gGe d (endWith w n t o):=by
  unfold endWith;dsimp only
  repeat' split
  all_goals exact True.intro
theorem endPrinting_ge {d:Nat}{p:Program}{fr:Frame}{v:Value}{w:World}(h:d<=w.drawn):gGe d (endPrinting p fr v w):=by
  unfold endPrinting;dsimp only
  split
  · exact h
  exact True.intro
theorem endFatal_ge {d:Nat}{p:Program}{fr:Frame}{cs:List Frame}{dy:Option Dying}{m:String}{w:World}(h:d<=w.drawn):gGe d (endFatal p fr cs dy m w):=by
  unfold endFatal;dsimp only
  split
  · rename_i h1
    exact Nat.le_trans h (run_ok h1)
  · exact True.intro
  exact True.intro
theorem doReturn_ge {d:Nat}{p:Program}{b:Bool}{fr:Frame}{cs:List Frame}{dy:Option Dying}{v:Value}{w:World}(h:d<=w.drawn):gGe d (doReturn p b fr cs dy v w):=by
  unfold doReturn;repeat' split
  all_goals first|exact h|exact True.intro
theorem callDeferred_ge {p:Program}{fr:Frame}{cs:List Frame}{dy:Option Dying}{d:Deferred}{w:World}:gGe w.drawn (callDeferred p fr cs dy d w):=by
  unfold callDeferred;refine ite_ge True.intro ?_
  · have h:=runT_drawn p (invoke d.target d.args) w #[]
    generalize (invoke d.target d.args).runT p w #[]=q at h
    obtain⟨r,es⟩:=q;dsimp only
    rw[after_ge];repeat' split
    all_goals first|exact h|exact True.intro|exact endFatal_ge h
theorem unwind_ge {p:Program}{b:Bool}{fr:Frame}{cs:List Frame}{dy:Option Dying}{w:World}:gGe w.drawn (unwind p b fr cs dy w):=by
  unfold unwind;split
  · rename_i block _ _ _
    have h:=runT_drawn p (Instr.takeDeferred block) w #[];generalize (Instr.takeDeferred block).runT p w #[]=q at h
    obtain⟨r,es⟩:=q;dsimp only
    rw[after_ge];split
    · exact h
    exact True.intro
  · exact callDeferred_ge
  split
  · exact True.intro
  · split
    · exact True.intro
    split
    · exact Nat.le_refl _
    split
    · split
      · exact Nat.le_refl _
      split
      · rename_i h1
        exact run_ok h1
      · exact True.intro
      exact True.intro
    split
    · exact endPrinting_ge (Nat.le_refl _)
    exact True.intro
  split
  · exact doReturn_ge (Nat.le_refl _)
  rename_i fn _;have h:=runT_drawn p (results fn fr.tmps) w #[];generalize (results fn fr.tmps).runT p w #[]=q at h
  obtain⟨r,es⟩:=q;dsimp only
  rw[after_ge];split
  · exact doReturn_ge h
  · exact True.intro
  exact True.intro
theorem writeOn_ge {p:Program}{fr:Frame}{d:Dying}{f:Fatal}{w:World}:gGe w.drawn (writeOn p fr d f w):=by
  unfold writeOn;dsimp only
  split
  · exact True.intro
  split<;>rename_i h1<;>first|exact True.intro|exact runT_ok h1|exact runT_halt h1
theorem die_ge {p:Program}{fr:Frame}{d:Dying}{w:World}:gGe w.drawn (die p fr d w):=by
  unfold die;split
  · exact writeOn_ge
  split
  · split
    · exact Nat.le_refl _
    exact endWith_ge _ _ _ _ _
  dsimp only
  split
  · exact Nat.le_refl _
  · split
    · rename_i h1
      exact run_ok h1
    exact True.intro
  · rename_i t recv name _
    have h:=runT_drawn p (invoke (.fn (.method name) #[]) #[.iface t recv]) w #[];generalize (invoke (.fn (.method name) #[]) #[.iface t recv]).runT p w #[]=q at h
    obtain⟨r,es⟩:=q;dsimp only
    rw[after_ge];split;all_goals first|exact h|exact True.intro|exact endPrinting_ge h
  exact True.intro
theorem early_ge {p:Program}{fr:Frame}{cs:List Frame}{dy:Option Dying}{g d:Nat}{w:World}(h:d<=w.drawn):gGe d (early p fr cs dy g w):=by
  have hn:∀w:World,d<=w.drawn->gGe d (match w.heap[g]?with
    |some (.pending c elem)=>GStep.go {frame:=fr,callers:=cs,status:= .running,dying:=dy} {w with heap:=w.heap.setIfInBounds g (.cells c elem)}
    |_=> .ended (.stuck "early: the variable does not wait" (fr.pos p)) w):=by
    intro w hw;split
    · exact hw
    exact True.intro
  unfold early;dsimp only
  refine ite_ge (hn w h) ?_;split
  · exact True.intro
  refine ite_ge (hn w h) (ite_ge (hn w h) ?_);split
  · exact True.intro
  · exact h
  · exact True.intro
  · exact hn w h
  refine ite_ge h (ite_ge (hn w h) ?_);split
  · rename_i h1;exact hn _ (Nat.le_trans h (run_ok h1))
  · rename_i h1;exact Nat.le_trans h (run_ok h1)
  exact True.intro
theorem apply_ge {p:Program}{l:Bool}{fr:Frame}{cs:List Frame}{dy:Option Dying}{s:Sem Next}{w:World}:gGe w.drawn (stepG.apply p l fr cs dy s w):=by
  unfold stepG.apply;dsimp only
  generalize hq:(if l=true then s.runT p w #[]else(s.run p w,#[]))=q
  have h:w.drawn<=(worldOf q.1).drawn:=by
    subst hq;split
    · exact runT_drawn p s w #[]
    exact run_drawn p s w
  obtain⟨r,es⟩:=q;dsimp only
  rw[after_ge];cases r with
  | ok v w1=>
    have h:w.drawn<=w1.drawn:=h;cases v;all_goals (try dsimp only)
    all_goals (repeat' split)
    all_goals first|exact h|exact True.intro
  | halt v w1=>
    have h:w.drawn<=w1.drawn:=h;cases v with
    | unsupported u=>
      cases u with
      |initOrder g=>exact early_ge h
      |_=>exact True.intro
    |fatal m=>exact endFatal_ge h
    |_=>first|exact h|exact True.intro
theorem oper_ge {p:Program}{l:Bool}{fr:Frame}{cs:List Frame}{dy:Option Dying}{w:World}:gGe w.drawn (stepG.oper p l fr cs dy w):=by
  unfold stepG.oper;split
  · exact True.intro
  split
  · exact apply_ge
  exact apply_ge
theorem elim_ge {α:Type}{o:Option α}{a:GStep}{f:α->GStep}{d:Nat}(h1:gGe d a)(h2:∀x,gGe d (f x)):gGe d (o.elim a f):=by
  cases o with
  |none=>exact h1
  |some x=>exact h2 x
theorem Ge_mono {d e:Nat}{g:GStep}(h:d<=e)(hg:gGe e g):gGe d g:=by
  cases g<;>first|exact Nat.le_trans h hg|exact True.intro
theorem runT_okF {α:Type}{p:Program}{s:Sem α}{w w':World}{a:α}{es:Array Event}(h:(s.runT p w es).1= .ok a w'):w.drawn<=w'.drawn:=by
  have h2:=runT_drawn p s w es;rw[h]at h2;exact h2
theorem runT_haltF {α:Type}{p:Program}{s:Sem α}{w w':World}{a:Halt}{es:Array Event}(h:(s.runT p w es).1= .halt a w'):w.drawn<=w'.drawn:=by
  have h2:=runT_drawn p s w es;rw[h]at h2;exact h2
theorem exec_ge {p:Program}{b l:Bool}{fr:Frame}{cs:List Frame}{dy:Option Dying}{w:World}:gGe w.drawn (stepG.exec p b l fr cs dy w):=by
  have hl:∀(jump:Option Code) (ok:Bool),gGe w.drawn (match fr.roundOf with
      |none=>if ok=true then GStep.go {frame:={fr with mode:= .returning},callers:=cs,status:= .running,dying:=dy} w else .ended (.stuck "exit, goto: no such block or label" (fr.pos p)) w
      | some l=>
        let (r,es):=(Instr.endRound l jump).runT p w #[]
        GStep.after (seen p fr.fn es)<|match r with
        | .ok v w=>doReturn p b fr cs dy v w
        | .halt _ w=> .ended (.stuck "range over a function: no such loop" (fr.pos p)) w):=by
    intro jump ok;split
    · refine ite_ge (Nat.le_refl _) True.intro
    split;rename_i h1;rw[after_ge];split
    · exact doReturn_ge (runT_ok h1)
    exact True.intro
  unfold stepG.exec;dsimp only
  split;all_goals first|exact hl _ _|exact Nat.le_refl _|exact True.intro|exact apply_ge|exact elim_ge (hl _ _) (fun _=>Nat.le_refl _)|exact elim_ge True.intro (fun _=>apply_ge)|skip
  all_goals (try rw[after_ge])
  all_goals (repeat' split)
  all_goals first|exact Nat.le_refl _|exact True.intro|exact oper_ge|(rename_i h1;first|exact runT_okF h1|exact runT_haltF h1|exact run_ok h1|exact Ge_mono (runT_okF h1) apply_ge)
theorem stepG_ge {p:Program}{b l:Bool}{g:Goroutine}{w:World}:gGe w.drawn (stepG p b g w l):=by
  unfold stepG;dsimp only
  split
  · exact die_ge
  · exact exec_ge
  exact unwind_ge
def sGe (d:Nat):Stepped->Prop
  | .next m=>d<=m.world.drawn
  | .ended .. =>True
theorem ite_sg {β:Type}{c:Prop}[Decidable c]{a b:Stepped×β}{d:Nat}(h1:sGe d (a.1))(h2:sGe d (b.1)):sGe d ((if c then a else b).1):=by
  split
  · exact h1
  exact h2
theorem communicate_ge {p:Program}{rest:Rest}{gs:Array Goroutine}{i:Nat}{g:Goroutine}{cases:Array CommCase}{b:Bool}{sh:CommShape}{w:World}:sGe w.drawn ((communicate p rest gs i g cases b sh w).1):=by
  unfold communicate;dsimp only
  refine ite_sg True.intro (ite_sg (ite_sg ?_ ?_) ?_)
  · split
    · rename_i h1
      unfold waitingAt at h1;split at h1
      · split at h1
        · cases h1;exact Nat.le_refl _
        cases h1
      cases h1;exact Nat.le_refl _
    exact True.intro
  · exact Nat.le_refl _
  split
  · exact True.intro
  rename_i h1;have h:=run_ok h1;repeat' split
  all_goals first|exact h|exact True.intro|exact Nat.le_trans h (run_halt (by assumption))|(rename Sem.run p (choose _) _=Result.ok _ _=>h9;have h10:=run_ok h9;exact Nat.le_trans h h10)
theorem look_ge {p:Program}{rest:Rest}{gs:Array Goroutine}{w:World}:sGe w.drawn (look p gs rest w):=by
  unfold look;dsimp only
  repeat' split
  all_goals first|exact True.intro|(rename Sem.run p _ w=Result.ok _ _=>h9;have h10:=run_ok h9;exact h10)
theorem drain_drawn (w:World)(c:Nat):(drain w c).2.drawn=w.drawn:=by
  unfold drain;split<;>rfl
theorem retime_drawn (m:Machine)(k:Nat)(t:Timer)(a b:Nat):(retime m k t a b).2.world.drawn=m.world.drawn:=by
  unfold retime;dsimp only
  split
  · exact drain_drawn _ _
  rfl
theorem named_drawn {m m':Machine}{var:Addr}{f:Nat->Timer->Value×Machine}{v:Value}{d:Nat}(hf:∀k t,(f k t).2.world.drawn=d)(h:timerOp.named m var f= .ok (v,m')):m'.world.drawn=d:=by
  unfold timerOp.named at h;split at h
  · rename_i k _
    have e:=hf k (m.rest.timers.getD k default);injection h with h
    rw[h]at e;exact e
  cases h
theorem timerOp_ge {m m':Machine}{op:TimerOp}{v:Value}(h:timerOp m op= .ok (v,m')):m'.world.drawn=m.world.drawn:=by
  cases op with
  | new t=>
    simp only[timerOp]at h;split at h
    · cases h;rfl
    split at h
    · split at h
      · cases h
      cases h;rfl
    cases h
  |stop var=>exact named_drawn (fun k t=>retime_drawn m k t 0 t.period) h
  | reset var a b=>
    simp only[timerOp]at h;split at h
    · rename_i m2 h2
      have e:m2.world.drawn=m.world.drawn:=by
        unfold timerOp.opened at h2;split at h2
        · split at h2
          · cases h2;rfl
          cases h2
        cases h2;rfl
      exact named_drawn (fun k t=>(retime_drawn m2 k t a b).trans e) h
    cases h
  | deadline ctx r w t=>
    simp only[timerOp]at h;cases h;rfl
theorem serve_ge {p:Program}{m:Machine}{k:Nat}:sGe m.world.drawn (serve p m k):=by
  unfold serve;split
  · exact True.intro
  · exact Nat.le_refl _
  dsimp only
  split
  · exact True.intro
  exact Nat.le_refl _
theorem runT_m {p:Program}{m:Machine}{i:Nat}{l:Bool}:sGe m.world.drawn ((Go.runT p m i l).1):=by
  unfold Go.runT;dsimp only
  generalize hs:stepG p (i==0) _ m.world l=s
  have h:gGe m.world.drawn s:=by rw[<-hs];exact stepG_ge
  cases s with
  | comm g c b sh w es=>
    have h:m.world.drawn<=w.drawn:=h;have hc:=communicate_ge (p:=p) (rest:=m.rest) (gs:=(m.gs.swapAt! i {(default:Goroutine)with status:= .finished}).2) (i:=i) (g:=g) (cases:=c) (b:=b) (sh:=sh) (w:=w);dsimp only
    revert hc
    generalize communicate p m.rest _ i g c b sh w=q
    intro hc;obtain⟨r,more⟩:=q;cases r with
    |next m2=>exact Nat.le_trans h hc
    |ended=>exact True.intro
  | collect g w es=>
    have h:m.world.drawn<=w.drawn:=h;have hc:=look_ge (p:=p) (gs:=(m.gs.swapAt! i {(default:Goroutine)with status:= .finished}).2.setIfInBounds i g) (rest:=m.rest) (w:=w);dsimp only
    revert hc
    generalize look p _ m.rest w=q
    intro hc;cases q with
    |next m2=>exact Nat.le_trans h hc
    |ended=>exact True.intro
  | timer g op w es=>
    have h:m.world.drawn<=w.drawn:=h;dsimp only
    split
    · rename_i h2
      have e:=timerOp_ge h2;exact Nat.le_trans h (Nat.le_of_eq e.symm)
    all_goals first|exact True.intro|exact h
  | coroswitch g c ex w es=>
    have h:m.world.drawn<=w.drawn:=h;dsimp only
    repeat' split
    all_goals first|exact h|exact True.intro|(rename endThrow _ _ _=GStep.go _ _ _=>h9;unfold endThrow dieOf at h9;cases h9;exact h)
  | count g w es=>
    have h:m.world.drawn<=w.drawn:=h;dsimp only
    split
    · exact True.intro
    exact h
  |_=>first|exact h|exact True.intro
def mGe (d:Nat):Move->Prop
  | .goroutine m _=>d<=m.world.drawn
  | .machine s _=>sGe d s
theorem ite_mg {c:Prop}[Decidable c]{a b:Move}{d:Nat}(h1:mGe d a)(h2:mGe d b):mGe d (if c then a else b):=by
  split
  · exact h1
  exact h2
theorem pick_ge {p:Program}{rs:List Nat}{d:Nat}(m:Machine)(h:d<=m.world.drawn):mGe d (match (choose (.sched rs.length)).run p m.world with
      | .halt _ w=>Move.machine (.ended (.stuck "sched" "") w)
      | .ok k world=>
        if rs.length<=1 then .goroutine {m with world} (rs.getD k 0)else
        match (choose (.extern "sched.slice" 65536)).run p world with
        | .halt _ w=> .machine (.ended (.stuck "sched.slice" "") w)
        | .ok n world=> .goroutine {m with world,rest:={m.rest with slice:=if n=0 then none else some (rs.getD k 0,n)}} (rs.getD k 0)):=by
  split
  · exact True.intro
  rename_i h1;have h2:=run_ok h1;refine ite_mg (Nat.le_trans h h2) ?_;split
  · exact True.intro
  rename_i h3;have h4:=run_ok h3;exact Nat.le_trans h (Nat.le_trans h2 h4)
theorem serve_mono {p:Program}{m:Machine}{k d:Nat}(h:d<=m.world.drawn):sGe d (serve p m k):=by
  have hs:=serve_ge (p:=p) (m:=m) (k:=k);generalize serve p m k=q at hs
  cases q with
  |next m2=>exact Nat.le_trans h hs
  |ended=>exact True.intro
theorem askOn_ge {p:Program}{m:Machine}:mGe m.world.drawn (askOn p m):=by
  unfold askOn;dsimp only
  split
  · exact True.intro
  rename_i w1 h1;have h2:=run_ok h1;refine ite_mg (serve_mono h2) ?_;split
  · split
    · exact h2
    refine ite_mg h2 ?_;split
    · exact True.intro
    exact True.intro
  split
  · exact pick_ge {m with world:=w1} h2
  split
  · exact True.intro
  · rename_i w3 h3
    have h4:=run_ok h3;exact pick_ge {m with world:=w3} (Nat.le_trans h2 h4)
  · rename_i h3
    have h4:=run_ok h3;exact Nat.le_trans h2 h4
  rename_i h3;have h4:=run_ok h3;exact pick_ge _ (Nat.le_trans h2 h4)
theorem askOn_mono {p:Program}{m:Machine}{d:Nat}(h:d<=m.world.drawn):mGe d (askOn p m):=by
  have hs:=askOn_ge (p:=p) (m:=m);generalize askOn p m=q at hs
  cases q with
  |goroutine m2 i=>exact Nat.le_trans h hs
  | machine s ops=>
    cases s with
    |next m2=>exact Nat.le_trans h hs
    |ended=>exact True.intro
theorem ask_ge {p:Program}{m:Machine}:mGe m.world.drawn (ask p m):=by
  unfold ask;refine ite_mg ?_ askOn_ge;split
  · exact True.intro
  · rename_i w1 h1
    have h2:=run_ok h1;have hl:=look_ge (p:=p) (gs:=m.gs) (rest:=m.rest) (w:=w1);generalize look p m.gs m.rest w1=q at hl
    cases q with
    |next m2=>exact askOn_mono (Nat.le_trans h2 hl)
    |ended=>exact True.intro
  rename_i w1 _ h1;have h2:=run_ok h1;exact askOn_mono (m:={m with world:=w1}) h2
theorem move_ge {p:Program}{m:Machine}:mGe m.world.drawn (move p m):=by
  unfold move;split
  · refine ite_mg (Nat.le_refl _) True.intro
  split
  · refine ite_mg (Nat.le_refl _) ask_ge
  exact ask_ge
theorem step_ge {p:Program}{m:Machine}:sGe m.world.drawn (step p m):=by
  unfold step stepT;have h:=move_ge (p:=p) (m:=m);generalize move p m=q at h
  cases q with
  | goroutine m2 i=>
    have h2:=runT_m (p:=p) (m:=m2) (i:=i) (l:=true);dsimp only
    generalize (Go.runT p m2 i true).1=r at h2
    cases r with
    |next m3=>exact Nat.le_trans h h2
    |ended=>exact True.intro
  |machine s ops=>exact h
theorem steps_drawn {p:Program}{m m':Machine}(h:Steps p m m'):m.world.drawn<=m'.world.drawn:=by
  obtain⟨n,h⟩:=h;induction n generalizing m with
  | zero=>
    simp only[runN]at h;injection h with h
    rw[h];exact Nat.le_refl _
  | succ n ih=>
    simp only[runN]at h;have hs:=step_ge (p:=p) (m:=m);generalize step p m=q at h hs
    cases q with
    |next m2=>exact Nat.le_trans hs (ih h)
    |ended=>cases h
theorem Calls.drawn {P:Program}{f:FuncId}{args:Array Value}{w:World}{R:Ending->World->Prop}(h:Calls P f args w R)(hr:∀e w',R e w'->∃v,e= .returned v):
    Calls P f args w fun e w'=>R e w'/\w.drawn<=w'.drawn:=by
  intro cs;obtain⟨e,w',fr,h1,h2,h3⟩:=h cs;refine⟨e,w',fr,⟨h1,?_⟩,h2,h3⟩;obtain⟨v,rfl⟩:=hr e w' h1;exact steps_drawn h2
end
section
open Go.RowKit Go.Shelf Go.Lib Go.Sort
theorem ext_grow {W W':World}(h:Ext W W')(hd:W.drawn<=W'.drawn):∃q os',W'=grow (W.drewN q) os':=by
 refine⟨W'.drawn-W.drawn,W'.heap.extract W.heap.size W'.heap.size,?_⟩;have e:W'.heap=W.heap++W'.heap.extract W.heap.size W'.heap.size:=by
  have hs:=h.size;apply Array.ext_getElem?;intro i;rw[Array.getElem?_append];by_cases hi:i<W.heap.size
  ·rw[if_pos hi]
   exact h.block i hi
  rw[if_neg hi,Array.getElem?_extract];have hmin:min W'.heap.size W'.heap.size-W.heap.size=W'.heap.size-W.heap.size:=by omega
  by_cases h2:i<W'.heap.size
  ·rw[if_pos (by omega)]
   congr 1;omega
  rw[if_neg (by omega),Array.getElem?_eq_none (by omega)]
 have h1:=h.os;have h2:=h.tape;have h3:=h.output;cases W' with
 |mk hp tp dr o ou=>
  simp only at e h1 h2 h3 hd;subst h1;subst h2;subst h3;simp only[grow,World.drewN];rw[<-e];congr 1;omega
section
variable {α:Type} {enc:α->List Value} {k:Nat}
theorem flat_get! [Inhabited α](hk:∀x,(enc x).length=k)(h0:0<k)(xs:List α)(j:Nat)(hj:j<xs.length*k):(xs.flatMap enc)[j]?=some ((enc xs.toArray[j/k]!)[j%k]!):=by
 have h1:j/k<xs.length:=Nat.div_lt_of_lt_mul (by rw[Nat.mul_comm];exact hj);have e1:xs[j/k]?=some xs.toArray[j/k]! :=by
  rw[getElem!_pos xs.toArray (j/k) (by simpa using h1),List.getElem?_eq_getElem h1];simp
 have h2:j%k<(enc xs.toArray[j/k]!).length:=by rw[hk];exact Nat.mod_lt _ h0
 have h3:=flat_get hk xs (j/k) _ e1 (j%k) _ (List.getElem?_eq_getElem h2);rw[Nat.mul_comm,Nat.div_add_mod]at h3;rw[h3,getElem!_pos (enc xs.toArray[j/k]!) (j%k) h2]
theorem holdsK_row [Inhabited α](hk:∀x,(enc x).length=k)(h0:0<k){w:World}{g:Nat}{T:TypeId}{xs:List α}{rest:List Value}(hb:Blk w g T (xs.flatMap enc++rest).toArray):HoldsK enc k w g 0 xs.toArray:=by
  intro j hj;have hj2:j<xs.length*k:=by simpa using hj
  refine⟨?_,hb.frozen _⟩;have hj3:j<xs.toArray.size*k:=by simpa using hj2
  rw[Nat.zero_add,hb.cell,List.getElem?_toArray,List.getElem?_append_left (by rw[flat_length hk];exact hj2),flat_get! hk h0 xs j hj2,get_flatK enc k _ j hj3];rfl
theorem own_sortWorldK [Inhabited α](w:World)(g off m:Nat)(dk:Array α)(os:Array Obj)(_hg:g<w.heap.size):Own g w (sortWorldK enc k w g off m dk os):=by
  have hs:(putRowK enc k (Sort.ahead w m) g off dk).heap.size=w.heap.size:=size_putRowK enc k _ _ _ _;refine⟨rfl,rfl,rfl,?_,fun i hi hne=> ?_⟩
  · unfold sortWorldK
    rw[size_grow,hs];exact Nat.le_add_right _ _
  unfold sortWorldK;rw[heap_grow_old _ _ (by rw[hs];exact hi)];show(w.heap.modify g _)[i]?=_;rw[Array.getElem?_modify,if_neg (fun e=>hne (by rw[e]))]
theorem blk_sortWorldK [Inhabited α](hk:∀x,(enc x).length=k)(h0:0<k){w:World}{g:Nat}{T:TypeId}{xs ys:List α}{rest:List Value}(hb:Blk w g T (xs.flatMap enc++rest).toArray)(hl:ys.length=xs.length)(m:Nat)(os:Array Obj):
  Blk (sortWorldK enc k w g 0 m ys.toArray os) g T (ys.flatMap enc++rest).toArray:=by
 have hg:=hb.lt;have hs:(putRowK enc k (Sort.ahead w m) g 0 ys.toArray).heap.size=w.heap.size:=size_putRowK enc k _ _ _ _;unfold sortWorldK Blk;rw[heap_grow_old _ _ (by rw[hs];exact hg)];show(w.heap.modify g (onCells (putCells id 0 (flatK enc k ys.toArray))))[g]?=_;have hb2:w.heap[g]?=some (.cells (xs.flatMap enc++rest).toArray T (0,0)):=hb;rw[Array.getElem?_modify,if_pos rfl,hb2];simp only[Option.map_some,onCells];congr 2;apply Array.ext_getElem?;intro j;unfold putCells;rw[Array.getElem?_mapIdx,List.getElem?_toArray,List.getElem?_toArray];have hsz:(flatK enc k ys.toArray).size=ys.length*k:=by simp
 have hfx:(xs.flatMap enc).length=xs.length*k:=flat_length hk xs;have hfy:(ys.flatMap enc).length=ys.length*k:=flat_length hk ys;by_cases hj:j<ys.length*k
 ·have hjx:j<(xs.flatMap enc).length:=by rw[hfx,<-hl];exact hj
  rw[List.getElem?_append_left hjx,List.getElem?_eq_getElem hjx,List.getElem?_append_left (by rw[hfy];exact hj),flat_get! hk h0 ys j hj];simp only[Option.map_some];rw[if_pos (by rw[hsz];omega),Nat.sub_zero,get_flatK enc k _ j (by simpa using hj)];rfl
 have hneg:¬(0<=j/\j<0+(flatK enc k ys.toArray).size):=by rw[hsz];omega
 have hjx:(xs.flatMap enc).length<=j:=by rw[hfx,<-hl];omega
 rw[List.getElem?_append_right hjx,List.getElem?_append_right (by rw[hfy];omega),hfx,hfy,hl];cases (rest[j-xs.length*k]?)with
 |none=>rfl
 |some v=>simp only[Option.map_some];rw[if_neg hneg]
end
/-- The row is sorted: a permutation of what it held, none of whose elements is less than one before it. -/
theorem sortN_any {ρ:Ren}(LL:SlLaysF0.n6 Tryz.prog ρ)(k:Nat)(h0:0<k)(aE:∀w,(isAgg (ρ.t 24)).run Tryz.prog w= .ok true w)(zE:∀w,(Go.sizeOf (ρ.t 24)).run Tryz.prog w= .ok k w){α:Type}(enc:α->List Value)(hk:∀x,(enc x).length=k)
  (h1:∀x,∀v∈enc x,v.oneCell'=true)(hu:∀x,NoUL (enc x))(Ok:World->α->Prop)(hOk:∀{w w' x},Ok w x->Dig w w'->Ok w' x)(cf:α->α->Int)
  (hO1:∀x,¬cf x x<0)(hO2:∀x y z,cf x y<0->cf y z<0->cf x z<0)(hO3:∀x y z,¬cf x y<0->¬cf y z<0->¬cf x z<0)(f:Nat)(eg:∀args w,(callFunc f args).run Tryz.prog w= .ok (.enter f args) w)
  (hcmp:∀w x y,Ok w x->Ok w y->Calls Tryz.prog f #[.agg (enc x).toArray,.agg (enc y).toArray] w fun e w'=>e= .returned (.int .i64 (cf x y))/\Ext w w')
  (v:Value)(es:List α)(base:Nat)(T:TypeId)(w:World)(h:RowN w base T k v es.length (es.flatMap enc))(hok:∀e,e∈es->Ok w e)(hn:es.length<4611686018427387904):
  Calls Tryz.prog (ρ.f 6) #[v,.func (.func f) #[] #[]] w fun e w'=>e= .returned (.tuple #[])/\
   ∃es':List α,es'.Perm es/\es'.Pairwise (fun x y=>¬cf y x<0)/\RowN w' base T k v es'.length (es'.flatMap enc)/\w.grownBy w' v.ownBlock/\Dig w w':=by
 cases es with
 |nil=>
  obtain⟨A,c,rfl,_⟩:=RowN.form h;refine(AnyF.slices_SortFunc_none LL A c _ w).mono ?_;rintro e w' ⟨rfl,rfl⟩;exact⟨rfl,[],.refl _,.nil,h,World.grownBy.refl _ _,Dig.refl _⟩
 |cons e0 es0=>
  rcases h.2 with⟨_,hn0⟩|⟨g,cap,rest,rfl,hb,hg,hc1,hc2,hc3,hc4⟩
  ·simp at hn0
  have hxs:∃xs:List {e:α//Ok w e},xs.map Subtype.val=e0::es0:=by
   clear h hg hc1 hc3 hn hc4;generalize e0::es0=es at hok
   induction es with
   |nil=>exact⟨[],rfl⟩
   |cons e es ih=>
    obtain⟨xs,hx⟩:=ih (fun f hf=>hok f (by simp[hf]));exact⟨⟨e,hok e (by simp)⟩::xs,by rw[List.map_cons,hx]⟩
  obtain⟨xs,hxs⟩:=hxs;haveI:Inhabited {e:α//Ok w e}:=⟨⟨e0,hok e0 (by simp)⟩⟩
  have hfm:∀ys:List {e:α//Ok w e},ys.flatMap (fun x=>enc x.1)=(ys.map Subtype.val).flatMap enc:=fun ys=>by rw[List.flatMap_map]
  have hlen:xs.length=(e0::es0).length:=by rw[<-hxs,List.length_map]
  rw[<-hxs,<-hfm]at hg hc3 hc4;rw[<-hlen]at hn h hc1⊢;have hk':∀x: {e:α//Ok w e},(enc x.1).length=k:=fun x=>hk x.1
  have hswo:SWO (ltOf (fun x y: {e:α//Ok w e}=>cf x.1 y.1)):=
   ⟨fun x=>decide_eq_false (hO1 x.1),fun x y z a b=>decide_eq_true (hO2 x.1 y.1 z.1 (of_decide_eq_true a) (of_decide_eq_true b)),fun x y z a b=>decide_eq_false (hO3 x.1 y.1 z.1 (of_decide_eq_false a) (of_decide_eq_false b))⟩
  have hdig:∀(m:Nat) (os:Array Obj) (dk:Array {e:α//Ok w e}),Dig w (sortWorldK (fun x=>enc x.1) k w g 0 m dk os):=fun m os dk=>
   Dig.of_own hg hc4.arr (own_sortWorldK w g 0 m dk os hg.lt)
  have hlays:CmpLays Tryz.prog f #[] (fun x: {e:α//Ok w e}=>enc x.1) k (fun x y=>cf x.1 y.1) g 0 xs.toArray.size w:=by
   intro m os dk _ x y;have hd:=hdig m os dk;revert hd
   generalize sortWorldK (fun x: {e:α//Ok w e}=>enc x.1) k w g 0 m dk os=W
   intro hd;have hx:Ok W x.1:=hOk (w:=w) (w':=W) (x:=x.1) x.2 hd;have hy:Ok W y.1:=hOk (w:=w) (w':=W) (x:=y.1) y.2 hd;have hc:=Calls.drawn (hcmp W x.1 y.1 hx hy) (fun e w' he=>⟨_,he.1⟩);rw[Array.append_empty];exact hc.mono fun e w' he=>⟨he.1.1,ext_grow he.1.2 he.2⟩
  have hH:HoldsK (fun x: {e:α//Ok w e}=>enc x.1) k w g 0 xs.toArray:=holdsK_row (enc:=fun x: {e:α//Ok w e}=>enc x.1) hk' h0 (xs:=xs) (T:=T) (rest:=rest) hg;have hsz:xs.toArray.size<4611686018427387904:=by simpa using hn
  have hS:=AnyQ.slices_SortFunc LL k aE zE (fun x: {e:α//Ok w e}=>enc x.1) hk' (fun x=>h1 x.1) (fun x y=>cf x.1 y.1) hswo f #[] g 0 cap xs.toArray w eg hlays hH hg.lt hsz;rw[List.size_toArray]at hS;refine hS.mono ?_;rintro e w' ⟨rfl,d',n,os,hp,hs,rfl⟩;obtain⟨hp1,_,hp3⟩:=hp;have hl:d'.toList.length=xs.length:=by simpa using hp1
  have hperm:d'.toList.Perm xs:=by
   have e1:d'.extract 0 xs.length=d':=by
    have hsz:d'.size=xs.length:=by simpa using hp1
    rw[<-hsz];simp
   have e2:xs.toArray.extract 0 xs.length=xs.toArray:=by simp
   rw[e1,e2]at hp3;simpa using hp3
  have hb2:=blk_sortWorldK (k:=k) (enc:=fun x: {e:α//Ok w e}=>enc x.1) hk' h0 hg hl n os;rw[Array.toArray_toList]at hb2;have hml:(d'.toList.map Subtype.val).length=xs.length:=by rw[List.length_map,hl]
  have hfl:∀ys:List {e:α//Ok w e},(ys.flatMap (fun x=>enc x.1)).length=ys.length*k:=fun ys=>flat_length hk' ys
  refine⟨rfl,d'.toList.map Subtype.val,by rw[<-hxs];exact hperm.map _,?_,?_,?_,?_⟩
  ·rw[List.pairwise_map,List.pairwise_iff_getElem]
   intro i j hi hj hij;have h3:=hs i j (Nat.zero_le _) hij (by rw[hl]at hj;simpa using hj);have hi':i<d'.size:=by simpa using hi
   have hj':j<d'.size:=by simpa using hj
   rw[getElem!_pos d' i hi',getElem!_pos d' j hj']at h3;have h4:=of_decide_eq_false h3;simpa using h4
  ·rw[hml,<-hfm]
   refine⟨by rw[hfl,hl],.inr ⟨g,cap,rest,rfl,hb,hb2,hc1,hc2,?_,?_⟩⟩
   ·rw[hfl,hl,<-hfl];exact hc3
   refine NoUL.app ?_ hc4.right;intro z hz;obtain⟨x,_,hx⟩:=List.mem_flatMap.1 hz;exact hu x.1 z hx
  ·have ho:=own_sortWorldK (k:=k) (enc:=fun x: {e:α//Ok w e}=>enc x.1) w g 0 n d' os hg.lt
   simpa[Value.ownBlock,Own]using ho
  exact hdig n os d'
end
section
structure R1E where
  a:RV
  q:Rat
def R1E.cells (e:R1E):List Value:=[.bool e.a.n,.slice e.a.p e.a.l e.a.c,.bool e.a.m,.slice e.a.p2 e.a.l2 e.a.c2]
theorem R1E.len (e:R1E):e.cells.length=4:=rfl
theorem R1E.one (e:R1E):∀v,v∈e.cells->v.oneCell'=true:=by simp[R1E.cells,Value.oneCell']
theorem R1E.nou (e:R1E):NoUL e.cells:=by simp[R1E.cells,NoUL]
def R1E.Ok (L:Nat)(w:World)(e:R1E):Prop:=e.a.Is w e.q/\Nm.rl e.q<=L
theorem R1E.Ok.dig {L:Nat}{w w':World}{e:R1E}(h:e.Ok L w)(d:Dig w w'):e.Ok L w':=⟨h.1.dig d,h.2⟩
structure R2E where
  a:RV
  b:RV
  p:Rat
  q:Rat
def R2E.cells (e:R2E):List Value:=[.bool e.a.n,.slice e.a.p e.a.l e.a.c,.bool e.a.m,.slice e.a.p2 e.a.l2 e.a.c2,.bool e.b.n,.slice e.b.p e.b.l e.b.c,.bool e.b.m,.slice e.b.p2 e.b.l2 e.b.c2]
theorem R2E.len (e:R2E):e.cells.length=8:=rfl
theorem R2E.one (e:R2E):∀v,v∈e.cells->v.oneCell'=true:=by simp[R2E.cells,Value.oneCell']
theorem R2E.nou (e:R2E):NoUL e.cells:=by simp[R2E.cells,NoUL]
def R2E.Ok (L:Nat)(w:World)(e:R2E):Prop:=e.a.Is w e.p/\e.b.Is w e.q/\Nm.rl e.p<=L/\Nm.rl e.q<=L
theorem R2E.Ok.dig {L:Nat}{w w':World}{e:R2E}(h:e.Ok L w)(d:Dig w w'):e.Ok L w':=⟨h.1.dig d,h.2.1.dig d,h.2.2⟩
def R2E.vl (e:R2E):Rat×Rat:=(e.p,e.q)
def cmp2 (p q:Rat×Rat):Int:=if rcmp p.2 q.2≠0 then rcmp p.2 q.2 else rcmp p.1 q.1
theorem cmp2_lt {p q:Rat×Rat}:cmp2 p q<0↔p.2<q.2\/p.2=q.2/\p.1<q.1:=by
  unfold cmp2;by_cases h:rcmp p.2 q.2≠0
  · rw[if_pos h,rcmp_lt]
    have h2:p.2≠q.2:=fun e=>h (rcmp_eq.2 e)
    exact⟨.inl,fun k=>k.elim id (fun k=>absurd k.1 h2)⟩
  rw[if_neg h,rcmp_lt];have h2:p.2=q.2:=rcmp_eq.1 (Classical.not_not.1 h);constructor
  · exact fun k=> .inr ⟨h2,k⟩
  rintro(k|k)
  · rw[h2]at k;exact absurd k (Rat.not_lt.2 Rat.le_refl)
  exact k.2
theorem cmp2_eq {p q:Rat×Rat}:cmp2 p q=0↔p=q:=by
  unfold cmp2;by_cases h:rcmp p.2 q.2≠0
  · rw[if_pos h]
    exact⟨fun k=>absurd k h,fun k=>by rw[k]at h;exact absurd (rcmp_eq.2 rfl) h⟩
  rw[if_neg h,rcmp_eq];have h2:p.2=q.2:=rcmp_eq.1 (Classical.not_not.1 h);exact⟨fun k=>Prod.ext k h2,fun k=>by rw[k]⟩
theorem range_oneC {w:World}{g o:Nat}{v:Value}(h:w.cell? ⟨g,o,none⟩=some v):w.rangeAt g o [v]:=by
  intro j u hj;match j,hj with
  |0,hj=>simp at hj;subst hj;exact h
  |j+1,hj=>simp at hj
section
variable {α:Type} (eqv:α->α->Bool)
def compG (p:α):List α->List α
  | []=>[]
  |x::l=>if eqv x p then compG x l else x::compG x l
def compactV:List α->List α
  | []=>[]
  |x::l=>x::compG eqv x l
theorem compG_snoc (l:List α):∀(p:α) (q x:α),(p::l).getLast?=some q->compG eqv p (l++[x])=compG eqv p l++(if eqv x q then[]else[x]):=by
  induction l with
  | nil=>
    intro p q x h;simp at h;subst h;simp[compG]
  | cons y l ih=>
    intro p q x h;have h2:(y::l).getLast?=some q:=by simpa using h
    have h3:=ih y q x h2;simp only[List.cons_append,compG];split
    · exact h3
    rw[h3,List.cons_append]
theorem compactV_snoc {l:List α}{q x:α}(h:l.getLast?=some q):compactV eqv (l++[x])=compactV eqv l++(if eqv x q then[]else[x]):=by
  cases l with
  |nil=>simp at h
  | cons p l=>
    simp only[List.cons_append,compactV];rw[compG_snoc eqv l p q x h]
theorem compG_le (l:List α):∀p:α,(compG eqv p l).length<=l.length:=by
  induction l with
  |nil=>intro p;simp[compG]
  | cons y l ih=>
    intro p;unfold compG;have:=ih y;split
    · simp;omega
    simp;omega
theorem compactV_le (l:List α):(compactV eqv l).length<=l.length:=by
  cases l with
  |nil=>simp[compactV]
  |cons p l=>have:=compG_le eqv l p;simp[compactV];omega
theorem compG_sub (l:List α):∀(p z:α),z∈compG eqv p l->z∈l:=by
  induction l with
  |nil=>intro p z h;simp[compG]at h
  | cons y l ih=>
    intro p z h;unfold compG at h;split at h
    · exact List.mem_cons_of_mem _ (ih y z h)
    rcases List.mem_cons.1 h with h|h
    · rw[h];simp
    exact List.mem_cons_of_mem _ (ih y z h)
theorem compactV_sub {l:List α}{z:α}(h:z∈compactV eqv l):z∈l:=by
  cases l with
  |nil=>simp[compactV]at h
  | cons p l=>
    rcases List.mem_cons.1 h with h|h
    · rw[h];simp
    exact List.mem_cons_of_mem _ (compG_sub eqv l p z h)
variable {eqv}
theorem compG_mem {β:Type}{key:α->β}(hk:∀x y,eqv x y=true->key x=key y)(l:List α):∀(p z:α),z∈p::l->∃y∈p::compG eqv p l,key y=key z:=by
 induction l with
 |nil=>intro p z h;exact⟨z,by simpa[compG]using h,rfl⟩
 |cons x l ih=>
  intro p z h;rcases List.mem_cons.1 h with rfl|h
  ·exact⟨z,by simp,rfl⟩
  obtain⟨y,h1,h2⟩:=ih x z h;unfold compG;split
  ·rename_i he
   rcases List.mem_cons.1 h1 with rfl|h1
   ·exact⟨p,by simp,by rw[<-h2,hk _ _ he]⟩
   exact⟨y,List.mem_cons_of_mem _ h1,h2⟩
  exact⟨y,List.mem_cons_of_mem _ h1,h2⟩
theorem compactV_mem {β:Type}{key:α->β}(hk:∀x y,eqv x y=true->key x=key y){l:List α}{z:α}(h:z∈l):∃y∈compactV eqv l,key y=key z:=by
  cases l with
  |nil=>simp at h
  |cons p l=>exact compG_mem hk l p z h
theorem compG_sorted {lt le:α->α->Prop}(ht:∀a b c,le a b->lt b c->lt a c)(h1:∀x y,le y x->eqv x y=false->lt y x)(h2:∀x y,eqv x y=true->∀z,lt x z->lt y z)(l:List α):∀p:α,(p::l).Pairwise le->(p::compG eqv p l).Pairwise lt/\∀z,z∈compG eqv p l->lt p z:=by
 induction l with
 |nil=>intro p _;simp[compG]
 |cons x l ih=>
  intro p hp;have hp1:=List.pairwise_cons.1 hp;obtain⟨h3,h4⟩:=ih x hp1.2;have hpx:=hp1.1 x (by simp);unfold compG;split
  ·rename_i he
   have h5:∀z,z∈compG eqv x l->lt p z:=fun z hz=>h2 _ _ he z (h4 z hz)
   exact⟨List.pairwise_cons.2 ⟨h5,(List.pairwise_cons.1 h3).2⟩,h5⟩
  rename_i he;have hlt:=h1 x p hpx (by simpa using he);have h5:∀z,z∈x::compG eqv x l->lt p z:=fun z hz=>by
   rcases List.mem_cons.1 hz with rfl|hz
   ·exact hlt
   exact ht p x z hpx (h4 z hz)
  exact⟨List.pairwise_cons.2 ⟨h5,h3⟩,h5⟩
theorem compactV_sorted {lt le:α->α->Prop}(ht:∀a b c,le a b->lt b c->lt a c)(h1:∀x y,le y x->eqv x y=false->lt y x)(h2:∀x y,eqv x y=true->∀z,lt x z->lt y z){l:List α}(hl:l.Pairwise le):(compactV eqv l).Pairwise lt:=by
  cases l with
  |nil=>exact .nil
  |cons p l=>exact(compG_sorted ht h1 h2 l p hl).1
end
theorem strict_unique {α:Type}{lt:α->α->Prop}(hi:∀a,¬lt a a)(ht:∀a b c,lt a b->lt b c->lt a c):∀{l m:List α},l.Pairwise lt->m.Pairwise lt->(∀z,z∈l↔z∈m)->l=m
 | [],[],_,_,_=>rfl
 | [],y::m,_,_,h=>by have:=(h y).2 (by simp);simp at this
 |x::l,[],_,_,h=>by have:=(h x).1 (by simp);simp at this
 |x::l,y::m,hl,hm,h=>by
  have hl1:=List.pairwise_cons.1 hl;have hm1:=List.pairwise_cons.1 hm;have e:x=y:=by
   rcases List.mem_cons.1 ((h x).1 (by simp))with e|hx
   ·exact e
   rcases List.mem_cons.1 ((h y).2 (by simp))with e|hy
   ·exact e.symm
   exact absurd (ht _ _ _ (hl1.1 y hy) (hm1.1 x hx)) (hi x)
  subst e;rw[strict_unique hi ht hl1.2 hm1.2 (fun z=>by
   constructor
   ·intro hz
    rcases List.mem_cons.1 ((h z).1 (List.mem_cons_of_mem _ hz))with e|h2
    ·subst e;exact absurd (hl1.1 z hz) (hi z)
    exact h2
   intro hz;rcases List.mem_cons.1 ((h z).2 (List.mem_cons_of_mem _ hz))with e|h2
   ·subst e;exact absurd (hm1.1 z hz) (hi z)
   exact h2)]
theorem ev_drop {P:Program}{ρ:Operand->Value}{o:Oper}{w:World}{g n c size k d c2:Nat}{z:Int}{t e:TypeId}{x y:Operand}(ho:o.op= .slice t x (some y) none none)(ht:P.underlying t=some (.slice e))(hs:(P.info? e).map (·.size)=some size)
  (hx:ρ x= .slice (some ⟨g,0,none⟩) n c)(hy:ρ y= .int .i64 z)(hz:z=(k:Int))(hn:n=k+d)(hd:0<d)(hc:c=k+c2)(hc2:d<=c2):(execOp ρ o).run P w= .ok (.value (.slice (some ⟨g,k*size,none⟩) d c2)) w:=by
 subst hz;subst hn;subst hc;have hel:P.elem t=e:=by simp[Program.elem,ht]
 have h1:P.underlying t=some (.slice (P.elem t)):=by rw[hel];exact ht
 unfold execOp;simp only[ho,hx,hy,Option.map_some,Option.map_none,Sem.run_bind,run_sliceAt_slice _ _ _ _ _ _ h1,run_slice_l w t _ _ _ h1 .i64 (k:Int) (by omega) (by omega:(k:Int)<=((k+d:Nat):Int)),hel];cases hq:P.info? e with
 |none=>simp[hq]at hs
 |some i=>
  have h2:i.size=size:=by simpa[hq]using hs
  have h3:k+d-k=d:=by omega
  have h4:k+c2-k=c2:=by omega
  simp[sizeOf,typeInfo,hq,sliced,h2,h3,h4,Int.toNat_natCast,show¬c2=0 by omega,Addr.add_lit]
theorem elem_off {w:World}{g a b c:Nat}{cs:List Value}(h:w.rangeAt g ((a+b)*c) cs):w.rangeAt g (a*c+b*c) cs:=by rw[Nat.add_mul]at h;exact h
theorem get_of_drop {α:Type}{l m:List α}{i x:Nat}(h:l.drop i=m.drop i)(hx:i<=x):l[x]?=m[x]?:=by
  have e1:(l.drop i)[x-i]?=(m.drop i)[x-i]?:=by rw[h]
  rw[List.getElem?_drop,List.getElem?_drop]at e1;rwa[show i+(x-i)=x by omega]at e1
theorem Fr.grownBy {r:Option Nat}{w w':World}(h:Fr (fun k=>r=some k) w w'):w.grownBy w' r:=⟨h.os,h.tape,h.output,h.size,fun k hk hne=>h.block k hk (fun e=>hne e.symm)⟩
theorem trunc (w:World)(b:Nat)(h:b<=w.heap.size):∃w0,Ext w0 w/\w0.heap.size=b:=
  ⟨{w with heap:=w.heap.extract 0 b},⟨rfl,rfl,rfl,by rw[show({w with heap:=w.heap.extract 0 b}:World).heap.size=min b w.heap.size-0 from Array.size_extract];omega,fun k hk=>by
    have hk2:k<b:=by simp at hk;omega
    simp[show k<min b w.heap.size by omega]⟩,by simp;omega⟩
theorem Hp.one {w0 w:World}{t:TypeId}{size n:Nat}{v:Value}{xs:List Value}(x:Ext w0 w)(h:RowN w w0.heap.size t size v n xs):Hp w0 w [.row t size v n xs]:=
  ((Hp.start w0).step x).add h (fun i f hf=>by simp at hf)
theorem take_set_snoc {α:Type}{l:List α}{k:Nat}{e:α}(h:k<l.length):(l.set k e).take (k+1)=l.take k++[e]:=by
  rw[List.take_add_one,List.take_set_of_le (Nat.le_refl k)];simp[h]
theorem compact_step {α:Type}{eqv:α->α->Bool}{es:List α}{j:Nat}{e f:α}(he:es[j+1]?=some e)(hf:es[j]?=some f):compactV eqv (es.take (j+1+1))=compactV eqv (es.take (j+1))++(if eqv e f then[]else[e]):=by
  have h1:es.take (j+1+1)=es.take (j+1)++[e]:=by rw[List.take_add_one,he];rfl
  rw[h1];refine compactV_snoc eqv ?_;rw[List.take_add_one,hf];simp
theorem ev_head {P:Program}{ρ:Operand->Value}{o:Oper}{w:World}{g n c size k:Nat}{z:Int}{t e:TypeId}{x y:Operand}(ho:o.op= .slice t x none (some y) none)(ht:P.underlying t=some (.slice e))(hs:(P.info? e).map (·.size)=some size)
  (hx:ρ x= .slice (some ⟨g,0,none⟩) n c)(hy:ρ y= .int .i64 z)(hz:z=(k:Int))(hk:k<=n)(hn:n<=c)(hc:0<c):(execOp ρ o).run P w= .ok (.value (.slice (some ⟨g,0,none⟩) k c)) w:=by
 subst hz;have hel:P.elem t=e:=by simp[Program.elem,ht]
 have h1:P.underlying t=some (.slice (P.elem t)):=by rw[hel];exact ht
 unfold execOp;simp only[ho,hx,hy,Option.map_some,Option.map_none,Sem.run_bind,run_sliceAt_slice _ _ _ _ _ _ h1,run_slice_h w t _ _ _ h1 .i64 (k:Int) (by omega) (by omega:(k:Int)<=(c:Int)),hel];cases hq:P.info? e with
 |none=>simp[hq]at hs
 |some i=>
  have h2:i.size=size:=by simpa[hq]using hs
  simp[sizeOf,typeInfo,hq,sliced,h2,Int.toNat_natCast,show¬c=0 by omega,Addr.add_lit]
theorem RowN.cut {w:World}{base:Nat}{t:TypeId}{size g n cap k:Nat}{xs:List Value}(h:RowN w base t size (.slice (some ⟨g,0,none⟩) n cap) n xs)(hk:k<=n):RowN w base t size (.slice (some ⟨g,0,none⟩) k cap) k (xs.take (k*size)):=by
 obtain⟨h1,⟨hv,_⟩|⟨g',cap',rest,hv,a,hb,h3,h4,h5,h6⟩⟩:=h
 ·cases hv
 injection hv with e1 e2 e3
 injection e1 with e1
 injection e1 with e1
 subst e1;subst e3;have hl:k*size<=xs.length:=by rw[h1];exact Nat.mul_le_mul_right _ hk
 have e:xs.take (k*size)++(xs.drop (k*size)++rest)=xs++rest:=by rw[<-List.append_assoc,List.take_append_drop]
 refine⟨by rw[List.length_take];omega,.inr ⟨g,cap,xs.drop (k*size)++rest,rfl,a,by rw[e];exact hb,by omega,h4,?_,by rw[e];exact h6⟩⟩;rw[List.length_take,List.length_append,List.length_drop];omega
theorem mv_clear {α:Type}{f:α->List Value}{P:Program}{w0 w:World}{m:List Ent}{ix:Nat}{a:Act}{Q:Exit->Act->World->Prop}{rest:List Oper}{op:Oper}{ops:Array Oper}(hw:Region.wanted op (yielded ops a.tmps)=true)(x:Operand)(ty:TypeId)(ho:op.op= .call {callee:= .builtin .clear,args:=#[x],argTypes:=#[ty]})
  {g n cap size:Nat}{t:TypeId}{es:List α}(hH:Hp w0 w m)(hi:m[ix]?=some (.row t size (.slice (some ⟨g,0,none⟩) n cap) n (es.flatMap f)))(hc:∀x,(f x).length=size)(hl:es.length=n)(k c:Nat)(hk:k<n)(hx:a.eval x= .slice (some ⟨g,k*size,none⟩) (n-k) c)
  (ht:P.underlying ty=some (.slice t))(z:Value)(hz:∀w,(zeroValue t).run P w= .ok z w)(hzs:z.cells.size=size)(h1:∀v,v∈z.cells.toList->v.oneCell'=true)(hn:NoUL z.cells.toList)(h0:0<size)
  (h:∀w',Hp w0 w' (m.set ix (.row t size (.slice (some ⟨g,0,none⟩) k cap) k ((es.take k).flatMap f)))->Dig w w'->Own g w w'->wpList P ops Q rest (a.put op.dst (.tuple #[])) w'):wpList P ops Q (op::rest) a w:=by
 have hzl:(Builtin.zeroCells z.cells (n-k)).size=(n-k)*size:=by rw[size_zeroCells,hzs]
 have hfl:(es.flatMap f).length=n*size:=by rw[flat_length hc,hl]
 have hks:k*size+(n-k)*size=n*size:=by rw[<-Nat.add_mul];congr 1;omega
 have hth:w.there g (k*size) ((n-k)*size):=(hH.row hi).there (k*size) ((n-k)*size) (by rw[hfl];omega);have hnz:NoUL (Builtin.zeroCells z.cells (n-k)).toList:=noUL_zero _ _ (by omega) hn;have hone:∀v,v∈(Builtin.zeroCells z.cells (n-k)).toList->v.oneCell'=true:=by
  intro v hv;unfold Builtin.zeroCells at hv;simp only[Array.toList_map,List.mem_map]at hv;obtain⟨i,_,rfl⟩:=hv;have hlt:i%z.cells.size<z.cells.size:=Nat.mod_lt _ (by omega);rw[getElem!_pos z.cells _ hlt];exact h1 _ (by simp)
 have hst:=run_storeCells_cells (P:=P) g (k*size) (Builtin.zeroCells z.cells (n-k)).toList 0 w (fun j hj=>by simpa using(hth j (by simpa[hzl]using hj)).1) (fun j hj=>by simpa using(hth j (by simpa[hzl]using hj)).2) hone;have hrun:(Builtin.clear_ #[ty] op.type #[.slice (some ⟨g,k*size,none⟩) (n-k) c]).run P w= .ok (.tuple #[]) (w.setCells g (k*size) (Builtin.zeroCells z.cells (n-k)).toList):=by
  obtain⟨d,hd⟩:∃d,n-k=d+1:=⟨n-k-1,by omega⟩;rw[hd]at hst⊢;simp[Builtin.clear_,run_underlying ht,hz,hst]
 have hset:=(hH.row hi).setPart (k*size) (Builtin.zeroCells z.cells (n-k)).toList (by rw[hfl,Array.length_toList,hzl];omega) hnz;have hcut:=hset.cut (Nat.le_of_lt hk);have e:((es.flatMap f).take (k*size)++(Builtin.zeroCells z.cells (n-k)).toList++(es.flatMap f).drop (k*size+(Builtin.zeroCells z.cells (n-k)).toList.length)).take (k*size)=(es.take k).flatMap f:=by
  have hkl:((es.flatMap f).take (k*size)).length=k*size:=by rw[List.length_take,hfl];exact Nat.min_eq_left (Nat.mul_le_mul_right _ (by omega))
  rw[List.append_assoc,List.take_append_of_le_length (by omega),List.take_of_length_le (by omega),flat_take hc]
 rw[e]at hcut;have hgr:w.grownBy (w.setCells g (k*size) (Builtin.zeroCells z.cells (n-k)).toList) (some g):=own_setCells _ _ _ _;have hnew:=hH.turn (r:=some g) (e':= .row t size (.slice (some ⟨g,0,none⟩) k cap) k ((es.take k).flatMap f)) hi (fun k hk=>by simpa[Ent.own,Value.ownBlock]using hk) hgr hcut (fun k hk=> .inl hk);have hdig:Dig w (w.setCells g (k*size) (Builtin.zeroCells z.cells (n-k)).toList):=by
  refine Dig.grown (hH.row hi) ?_;exact hgr
 have h2:=h _ hnew hdig hgr;refine wpList_if hw ?_;unfold Oper.wp;simp[execOp,ho,resolve,invoke,builtin,hx,hrun,Result.andThen];exact h2
end
section
attribute [local go_sem ↓] Go.wp_at_zero Go.wp_at_succ run_max_ii run_min_ii
theorem compare2_any (L:Nat)(hL:L<=60000)(w:World)(e f:R2E)(he:e.Ok L w)(hf:f.Ok L w):
  Calls Tryz.prog 56 #[.agg #[.bool e.a.n,.slice e.a.p e.a.l e.a.c,.bool e.a.m,.slice e.a.p2 e.a.l2 e.a.c2,.bool e.b.n,.slice e.b.p e.b.l e.b.c,.bool e.b.m,.slice e.b.p2 e.b.l2 e.b.c2],.agg #[.bool f.a.n,.slice f.a.p f.a.l f.a.c,.bool f.a.m,.slice f.a.p2 f.a.l2 f.a.c2,.bool f.b.n,.slice f.b.p f.b.l f.b.c,.bool f.b.m,.slice f.b.p2 f.b.l2 f.b.c2]] w fun x w'=>x= .returned (.int .i64 (cmp2 e.vl f.vl))/\Ext w w':=by
 have REa:=zH he.1;have REb:=zH he.2.1;have BREa:=zH he.2.2.1;have BREb:=zH he.2.2.2;have RFa:=zH hf.1;have RFb:=zH hf.2.1;have BRFa:=zH hf.2.2.1;have BRFb:=zH hf.2.2.2;clear he hf;go_enter Tryz.func56,Tryz.ntmps56
 have H0:=zH (Hp.start w);go_upto_region 0 with fail
 refine wl ?_;refine aA' 61 [.bool e.a.n,.slice e.a.p e.a.l e.a.c,.bool e.a.m,.slice e.a.p2 e.a.l2 e.a.c2,.bool e.b.n,.slice e.b.p e.b.l e.b.c,.bool e.b.m,.slice e.b.p2 e.b.l2 e.b.c2] H0.out ?_;intro X1 w2 H3 _;refine aA' 61 [.bool f.a.n,.slice f.a.p f.a.l f.a.c,.bool f.a.m,.slice f.a.p2 f.a.l2 f.a.c2,.bool f.b.n,.slice f.b.p f.b.l f.b.c,.bool f.b.m,.slice f.b.p2 f.b.l2 f.b.c2] H3.out ?_;intro X6 w7 H8 _;refine zq (.int .i64 0) ?_;go_upto_region 1 with fail
 refine wl ?_;refine zI1 (Hp.start _) _ ?_;refine zd X1 (4) (rc e.b) (H8.out.range (i:=0) rR 4 4) Tryz.underlying30 ?_;refine zI1 (Hp.start _) _ ?_;refine zd X6 (4) (rc f.b) (H8.out.range (i:=1) rR 4 4) Tryz.underlying30 ?_;refine aC H8.out (pCmp (L:=60000) (RV.Is.nin (REb.out.dig H8.out.dig0) (Nat.le_trans BREb.out (by omega))) (RV.Is.nin (RFb.out.dig H8.out.dig0) (Nat.le_trans BRFb.out (by omega))) (by omega)) ?_;intro w14 H15 _;refine zq (.int .i64 (rcmp e.q f.q)) ?_;rcases emH (e.q≠f.q)with CN|CN
 ·go_upto_region 2 with fail
  refine wl ?_;refine zq (.int .i64 (rcmp e.q f.q)) ?_;refine zp (.bool true) (by exact ezn (e:=(dec_t (fun hh=>CN.out (rcmp_eq_i.1 hh))))) ?_;go_upto_region 3 with fail
  refine wl ?_;refine zI2 (Hp.start _) (.int .i64 (rcmp e.q f.q)) (.int .i64 (rcmp e.q f.q)) ?_;go_wp2_with fail
  go_ret
  exact⟨by rw[show cmp2 e.vl f.vl=rcmp e.q f.q from if_pos (fun h_=>CN.out (rcmp_eq.1 h_))];rfl,H15.out.ext⟩
 go_upto_region 2 with fail
 refine wl ?_;refine zq (.int .i64 (rcmp e.q f.q)) ?_;refine zp (.bool false) (by exact ezn (e:=(dec_f (fun hh=>hh (rcmp_eq_i.2 (Classical.not_not.1 CN.out)))))) ?_;go_upto_region 4 with fail
 refine wl ?_;refine zI1 (Hp.start _) _ ?_;refine zd X1 (0) (rc e.a) (H15.out.range (i:=0) rR 0 4) Tryz.underlying30 ?_;refine zI1 (Hp.start _) _ ?_;refine zd X6 (0) (rc f.a) (H15.out.range (i:=1) rR 0 4) Tryz.underlying30 ?_;refine aC H15.out (pCmp (L:=60000) (RV.Is.nin (REa.out.dig H15.out.dig0) (Nat.le_trans BREa.out (by omega))) (RV.Is.nin (RFa.out.dig H15.out.dig0) (Nat.le_trans BRFa.out (by omega))) (by omega)) ?_;intro w27 H28 _;refine zq (.int .i64 (rcmp e.p f.p)) ?_;go_wp2_with fail
 go_ret
 exact⟨by rw[show cmp2 e.vl f.vl=rcmp e.p f.p from if_neg (fun h_=>CN.out (fun h2_=>h_ (rcmp_eq.2 h2_)))];rfl,H28.out.ext⟩
theorem risEq_any (L:Nat)(hL:L<=60000)(Bc:Nat)(w:World)(e f:R1E)(he:e.Ok L w)(hf:f.Ok L w)(hc:w.cell? ⟨Bc,0,none⟩=some (.func (.func 17) #[] #[])):
  Calls Tryz.prog 87 #[.agg #[.bool e.a.n,.slice e.a.p e.a.l e.a.c,.bool e.a.m,.slice e.a.p2 e.a.l2 e.a.c2],.agg #[.bool f.a.n,.slice f.a.p f.a.l f.a.c,.bool f.a.m,.slice f.a.p2 f.a.l2 f.a.c2],.pointer (some ⟨Bc,0,none⟩)] w fun x w'=>x= .returned (.bool (decide (e.q=f.q)))/\Ext w w':=by
 have RE:=zH he.1;have BRE:=zH he.2;have RF:=zH hf.1;have BRF:=zH hf.2;have HC:=zH hc;clear he hf hc;go_enter Tryz.func87,Tryz.ntmps87
 have H0:=zH (Hp.start w);go_upto_region 0 with fail
 refine wl ?_;refine aA' 30 (rc e.a) H0.out ?_;intro X31 w32 H33 _;refine aA' 30 (rc f.a) H33.out ?_;intro X36 w37 H38 _;refine zq (.bool false) ?_;rcases emH (e.q=f.q)with CQ|CQ
 ·go_upto_region 1 with fail
  refine wl ?_;refine ze Bc 0 (.func (.func 17) #[] #[]) (range_oneC (H38.out.ext.get HC.out)) ?_;refine zI2 H38.out _ _ ?_;refine aC H38.out (pCmp (L:=60000) (RV.Is.nin (RE.out.dig H38.out.dig0) (Nat.le_trans BRE.out (by omega))) (RV.Is.nin (RF.out.dig H38.out.dig0) (Nat.le_trans BRF.out (by omega))) (by omega)) ?_;intro w43 H44 _;refine zp (.bool true) (by exact ezq (e:=(dec_t (rcmp_eq_i.2 CQ.out)))) ?_;refine zq (.bool true) ?_;go_wp2_with fail
  go_ret
  exact⟨by rw[decide_eq_true CQ.out];rfl,H44.out.ext⟩
 go_upto_region 1 with fail
 refine wl ?_;refine ze Bc 0 (.func (.func 17) #[] #[]) (range_oneC (H38.out.ext.get HC.out)) ?_;refine zI2 H38.out _ _ ?_;refine aC H38.out (pCmp (L:=60000) (RV.Is.nin (RE.out.dig H38.out.dig0) (Nat.le_trans BRE.out (by omega))) (RV.Is.nin (RF.out.dig H38.out.dig0) (Nat.le_trans BRF.out (by omega))) (by omega)) ?_;intro w48 H49 _;refine zp (.bool false) (by exact ezq (e:=(dec_f (fun hh=>CQ.out (rcmp_eq_i.1 hh))))) ?_;refine zq (.bool false) ?_;go_wp2_with fail
 go_ret
 exact⟨by rw[decide_eq_false CQ.out];rfl,H49.out.ext⟩
theorem intEq_any (L:Nat)(hL:L<=60000)(w:World)(e f:R2E)(he:e.Ok L w)(hf:f.Ok L w):
  Calls Tryz.prog 58 #[.agg #[.bool e.a.n,.slice e.a.p e.a.l e.a.c,.bool e.a.m,.slice e.a.p2 e.a.l2 e.a.c2,.bool e.b.n,.slice e.b.p e.b.l e.b.c,.bool e.b.m,.slice e.b.p2 e.b.l2 e.b.c2],.agg #[.bool f.a.n,.slice f.a.p f.a.l f.a.c,.bool f.a.m,.slice f.a.p2 f.a.l2 f.a.c2,.bool f.b.n,.slice f.b.p f.b.l f.b.c,.bool f.b.m,.slice f.b.p2 f.b.l2 f.b.c2]] w fun x w'=>x= .returned (.bool (decide (e.vl=f.vl)))/\Ext w w':=by
 have REa:=zH he.1;have REb:=zH he.2.1;have BREa:=zH he.2.2.1;have BREb:=zH he.2.2.2;have RFa:=zH hf.1;have RFb:=zH hf.2.1;have BRFa:=zH hf.2.2.1;have BRFb:=zH hf.2.2.2;clear he hf;go_enter Tryz.func58,Tryz.ntmps58
 have H0:=zH (Hp.start w);go_upto_region 0 with fail
 refine wl ?_;refine aA' 61 [.bool e.a.n,.slice e.a.p e.a.l e.a.c,.bool e.a.m,.slice e.a.p2 e.a.l2 e.a.c2,.bool e.b.n,.slice e.b.p e.b.l e.b.c,.bool e.b.m,.slice e.b.p2 e.b.l2 e.b.c2] H0.out ?_;intro X53 w54 H55 _;refine aA' 61 [.bool f.a.n,.slice f.a.p f.a.l f.a.c,.bool f.a.m,.slice f.a.p2 f.a.l2 f.a.c2,.bool f.b.n,.slice f.b.p f.b.l f.b.c,.bool f.b.m,.slice f.b.p2 f.b.l2 f.b.c2] H55.out ?_;intro X58 w59 H60 _;refine zq (.bool false) ?_;rcases emH (e.vl=f.vl)with CQ|CQ
 ·go_upto_region 1 with fail
  refine wl ?_;refine zI2 H60.out _ _ ?_;refine aC H60.out (compare2_any L hL _ e f ⟨(REa.out.dig H60.out.dig0),(REb.out.dig H60.out.dig0),BREa.out,BREb.out⟩ ⟨(RFa.out.dig H60.out.dig0),(RFb.out.dig H60.out.dig0),BRFa.out,BRFb.out⟩) ?_;intro w65 H66 _;refine zp (.bool true) (by exact ezq (e:=(dec_t (cmp2_eq.2 CQ.out)))) ?_;refine zq (.bool true) ?_;go_wp2_with fail
  go_ret
  exact⟨by rw[decide_eq_true CQ.out];rfl,H66.out.ext⟩
 go_upto_region 1 with fail
 refine wl ?_;refine zI2 H60.out _ _ ?_;refine aC H60.out (compare2_any L hL _ e f ⟨(REa.out.dig H60.out.dig0),(REb.out.dig H60.out.dig0),BREa.out,BREb.out⟩ ⟨(RFa.out.dig H60.out.dig0),(RFb.out.dig H60.out.dig0),BRFa.out,BRFb.out⟩) ?_;intro w70 H71 _;refine zp (.bool false) (by exact ezq (e:=(dec_f (fun h_=>CQ.out (cmp2_eq.1 h_))))) ?_;refine zq (.bool false) ?_;go_wp2_with fail
 go_ret
 exact⟨by rw[decide_eq_false CQ.out];rfl,H71.out.ext⟩
theorem cptR1_any (L:Nat)(hL:L<=60000)(Bc:Nat)(v:Value)(es:List R1E)(base:Nat)(w:World)(h:RowN w base 30 4 v es.length (es.flatMap R1E.cells))(hbase:base<=w.heap.size)(hok:∀e,e∈es->e.Ok L w)(hc:w.cell? ⟨Bc,0,none⟩=some (.func (.func 17) #[] #[]))(hB:¬v.ownBlock=some Bc)(hn:es.length<=100000000):
  Calls Tryz.prog 86 #[v,.func (.func 87) #[] #[.pointer (some ⟨Bc,0,none⟩)]] w fun x w'=>∃v',x= .returned v'/\RowN w' base 30 4 v' (compactV (fun x y:R1E=>decide (x.q=y.q)) es).length ((compactV (fun x y:R1E=>decide (x.q=y.q)) es).flatMap R1E.cells)/\w.grownBy w' v.ownBlock/\Dig w w'/\v'.ownBlock=v.ownBlock:=by
 obtain⟨w0,hx0,rfl⟩:=trunc w base hbase;have HOK:=zH hok;have HC:=zH hc;have HB:=zH hB;clear hc hB hok;rcases h.2 with⟨rfl,h0⟩|⟨g,cap,rest,rfl,hb,hg,hc1,hc2,hc3,hc4⟩
 ·have he:es=[]:=List.eq_nil_of_length_eq_zero h0
  subst he;go_enter Tryz.func86,Tryz.ntmps86
  go_wp2_with fail
  go_ret
  exact⟨_,rfl,h,World.grownBy.refl _ _,Dig.refl _,rfl⟩
 have H0:=zH (Hp.one hx0 h);have HCN:=zH hc1;clear h hx0 hb hg hc2 hc3 hc4;have HFR:=zH (show Fr (fun kz=>Value.ownBlock (.slice (some ⟨g,0,none⟩) es.length cap)=some kz) w w from Fr.of_ext (Ext.refl w));go_enter Tryz.func86,Tryz.ntmps86
 go_upto_region 0 with fail
 refine wl ?_;refine zI1 (Hp.start _) _ ?_;by_cases c2:es.length<2
 ·have HS:=zH c2
  clear c2;go_upto_region 1 with fail
  refine wl ?_;refine zI2 (Hp.start _) _ (.int .i64 ((es.length:Nat):Int)) ?_;refine zp (.bool true) (by exact ezl (e:=(dec_t (by have ob0:=HS.out;omega)))) ?_;go_upto_region 2 with fail
  refine wl ?_;refine zI2 (Hp.start _) _ _ ?_;have hcv:compactV (fun x y:R1E=>decide (x.q=y.q)) es=es:=by have hs:=HS.out;match es,hs with| [],_=>rfl| [x],_=>rfl|x::y::l,hs=>exact absurd hs (by simp)
  go_wp2_with fail
  go_ret
  exact⟨_,rfl,by rw[hcv];exact H0.out.row (i:=0) (by rfl),World.grownBy.refl _ _,Dig.refl _,rfl⟩
 have HS:=zH c2;clear c2;go_upto_region 1 with fail
 refine wl ?_;refine zI2 (Hp.start _) _ (.int .i64 ((es.length:Nat):Int)) ?_;refine zp (.bool false) (by exact ezl (e:=(dec_f (by have ob0:=HS.out;omega)))) ?_;go_upto_region 3 with fail
 refine wl ?_;refine zq (.int .i64 1) ?_;go_wp2_with fail
 go_loopg [5] (es.length) (fun cq v12 wr=>∃(j:Nat),cq=es.length-j/\v12= .int .i64 ((j+1:Nat):Int)/\(j+1<=es.length)/\(compactV (fun x y:R1E=>decide (x.q=y.q)) (es.take (j+1))=es.take (j+1))/\(Fr (fun kz=>Value.ownBlock (.slice (some ⟨g,0,none⟩) es.length cap)=some kz) w wr)/\Hp w0 wr [.row 30 4 (.slice (some ⟨g,0,none⟩) es.length cap) (es.length) (List.flatMap R1E.cells es)]/\Dig w wr)
 case atStart=>exact⟨0,rfl,rfl,(by have h_:=HS.out;omega),(by have hs:=HS.out;match es,hs with| [],hs=>exact absurd hs (by decide)|x::l,_=>rfl),HFR.out,H0.out,Dig.refl _⟩
 obtain⟨j,rfl,rfl,q_HK,q_HCV,q_HFR,hh_,hd_⟩:=hrel;generalize wr=w13 at*
 have HK:=zH q_HK;clear q_HK;have HCV:=zH q_HCV;clear q_HCV;have HFR:=zH q_HFR;clear q_HFR;have H15:=zH hh_;have D15:=zH hd_;clear hh_ hd_;rcases emH (j+1<es.length)with HLT|HLT
 ·go_upto_region 4 with fail
  refine wl ?_;refine zI3 (Hp.start _) (.int .i64 ((j+1:Nat):Int)) _ (.int .i64 ((es.length:Nat):Int)) ?_;refine zp (.bool true) (by exact ezl (e:=(dec_t (by have ob0:=HK.out;have ob1:=HLT.out;omega)))) ?_;obtain⟨e,he⟩:∃e,es[j+1]?=some e:=⟨_,List.getElem?_eq_getElem HLT.out⟩;obtain⟨f,hf⟩:∃f,es[j]?=some f:=⟨_,List.getElem?_eq_getElem (by have h_:=HLT.out;omega)⟩;have HQe:=zH he;have ho_:=HOK.out e (List.mem_of_getElem? he);have HAe:=zH ho_.1;have BAe:=zH ho_.2;clear he ho_;have HQf:=zH hf;have ho_:=HOK.out f (List.mem_of_getElem? hf);have HAf:=zH ho_.1;have BAf:=zH ho_.2;clear hf ho_;have HST:=zH (compact_step (eqv:=(fun x y:R1E=>decide (x.q=y.q))) HQe.out HQf.out);rcases emH (e.q=f.q)with HEQ|HEQ
  ·go_upto_region 6 with fail
   refine zy ?_;have H22:=zH (H15.out.step (Ext.refl w13).drew);have D22:=zH (Dig.of_ext (w:=w13) zb);have K24:=zH (HFR.out.trans (Fr.of_ext (Ext.refl w13).drew));refine zJ3 (Hp.start _) zb (bs 11 7) 0 1 2 _ _ (.int .i64 ((j+1:Nat):Int)) ?_;refine zo 3 (bs 11 15) (v:= .pointer (some ⟨g,(j+1)*4,none⟩)) zb ?_ (hv:=by intro w hSw;exact ezi (k:=j+1) Tryz.underlying47 (l:=(by have h_:=HLT.out;omega)) (f:=(Nat.zero_add _).symm));refine zg 4 (bs 11 31) g ((j+1)*4) (rc e.a) (H15.out.elem (f:=R1E.cells) (i:=0) rR R1E.len HQe.out) Tryz.underlying30 zb ?_;refine zJ2 (Hp.start _) zb (bs 11 127) 5 6 _ (.int .i64 ((j+1:Nat):Int)) ?_;refine zu 7 (bs 11 255) (v:= .int .i64 (j:Int)) zb ?_ (hv:=by intro w hSw;exact ez2 (by have ob0:=HK.out;have ob1:=HLT.out;omega));refine zo 8 (bs 11 511) (v:= .pointer (some ⟨g,j*4,none⟩)) zb ?_ (hv:=by intro w hSw;exact ezi (k:=j) Tryz.underlying47 (l:=(by have h_:=HLT.out;omega)) (f:=(Nat.zero_add _).symm));refine zg 9 (bs 11 1023) g (j*4) (rc f.a) (H15.out.elem (f:=R1E.cells) (i:=0) rR R1E.len HQf.out) Tryz.underlying30 zb ?_;have DD34:=tD D15 D22;refine mC 10 (bs 11 2047) (risEq_any L hL Bc _ e f ⟨(HAe.out.dig DD34.out),BAe.out⟩ ⟨(HAf.out.dig DD34.out),BAf.out⟩ (K24.out.cell HC.out HB.out)) ?_;rintro e w33 ⟨rfl,hx⟩;have H35:=zH (H22.out.step hx);have D35:=zH (show Dig w13.drew w33 from Dig.of_ext hx);have K37:=zH (K24.out.trans (Fr.of_ext hx));have S38:=zH (zb.trans hx);clear hx;refine⟨.bool true,by rw[decide_eq_true HEQ.out],S38.out,?_⟩;try simp only[Act.put,zA,zB,zC]
   refine wpAnyH_done kR ?_ _;obtain⟨d,hd⟩:∃d,es.length=j+1+d:=⟨es.length-(j+1),by have h_:=HLT.out;omega⟩;obtain⟨c2,hc2⟩:∃c2,cap=j+1+c2:=⟨cap-(j+1),by have h_:=HLT.out;have h2_:=HCN.out;omega⟩;have HD:=zH hd;have HC2:=zH hc2;clear hd hc2;go_upto_region 7 with fail
   refine wl ?_;refine zI2 (Hp.start _) _ (.int .i64 ((j+1:Nat):Int)) ?_;refine zp (.slice (some ⟨g,(j+1)*4,none⟩) d c2) (by exact ev_drop rR Tryz.underlying47 kR rR rR (by first|rfl|omega) HD.out (by have ob0:=HK.out;have ob1:=HLT.out;have ob2:=HD.out;have ob3:=HC2.out;have ob4:=HCN.out;omega) HC2.out (by have ob0:=HK.out;have ob1:=HLT.out;have ob2:=HD.out;have ob3:=HC2.out;have ob4:=HCN.out;omega)) ?_;refine zq (.slice (some ⟨g,(j+1)*4,none⟩) d c2) ?_;go_upto_region 8 with fail
   refine wl ?_;refine zq (.int .i64 1) ?_;go_wp2_with fail
   go_loopg [5,7] (d) (fun cq v44 v45 wr=>∃(i:Nat) (k:Nat) (ds:List R1E),cq=d-i/\v44= .int .i64 (k:Int)/\v45= .int .i64 ((i+1:Nat):Int)/\(i+1<=d)/\(k<j+1+(i+1))/\(ds.length=es.length)/\(ds.take k=compactV (fun x y:R1E=>decide (x.q=y.q)) (es.take (j+1+(i+1))))/\(ds.drop (j+1+i)=es.drop (j+1+i))/\(Fr (fun kz=>Value.ownBlock (.slice (some ⟨g,0,none⟩) es.length cap)=some kz) w wr)/\Hp w0 wr [.row 30 4 (.slice (some ⟨g,0,none⟩) es.length cap) (es.length) (List.flatMap R1E.cells ds)]/\Dig w33 wr)
   case atStart=>exact⟨0,j+1,es,rfl,rfl,rfl,(by have h_:=HLT.out;have h2_:=HD.out;omega),(by omega),rfl,(by rw[show j+1+(0+1)=j+1+1 by omega,HST.out,if_pos (decide_eq_true HEQ.out),List.append_nil];exact HCV.out.symm),rfl,K37.out,H35.out,Dig.refl _⟩
   obtain⟨i,k,ds,rfl,rfl,rfl,q_HI,q_HKI,q_HDL,q_HD2,q_HD3,q_HFR,hh_,hd_⟩:=hrel;generalize wr=w46 at*
   have HI:=zH q_HI;clear q_HI;have HKI:=zH q_HKI;clear q_HKI;have HDL:=zH q_HDL;clear q_HDL;have HD2:=zH q_HD2;clear q_HD2;have HD3:=zH q_HD3;clear q_HD3;have HFR:=zH q_HFR;clear q_HFR;have H48:=zH hh_;have D48:=zH hd_;clear hh_ hd_ H35;rcases emH (i+1<d)with HLT2|HLT2
   ·go_upto_region 9 with fail
    refine wl ?_;refine zI3 (Hp.start _) (.int .i64 ((i+1:Nat):Int)) (.slice (some ⟨g,(j+1)*4,none⟩) d c2) (.int .i64 (d:Int)) ?_;refine zp (.bool true) (by exact ezl (e:=(dec_t (by have ob0:=HI.out;have ob1:=HKI.out;have ob2:=HD.out;have ob3:=HC2.out;have ob4:=HCN.out;have ob5:=HDL.out;have ob6:=HLT2.out;omega)))) ?_;obtain⟨e2,he2⟩:∃e2,es[j+1+i+1]?=some e2:=⟨_,List.getElem?_eq_getElem (by have h_:=HLT2.out;have h2_:=HD.out;omega)⟩;obtain⟨f2,hf2⟩:∃f2,es[j+1+i]?=some f2:=⟨_,List.getElem?_eq_getElem (by have h_:=HLT2.out;have h2_:=HD.out;omega)⟩;have HQe2:=zH he2;have ho_:=HOK.out e2 (List.mem_of_getElem? he2);have HAe2:=zH ho_.1;have BAe2:=zH ho_.2;clear he2 ho_;have HQf2:=zH hf2;have ho_:=HOK.out f2 (List.mem_of_getElem? hf2);have HAf2:=zH ho_.1;have BAf2:=zH ho_.2;clear hf2 ho_;have HRe2:=zH (show ds[j+1+(i+1)]?=some e2 from(get_of_drop HD3.out (by omega)).trans HQe2.out);have HRf2:=zH (show ds[j+1+i]?=some f2 from(get_of_drop HD3.out (by omega)).trans HQf2.out);have HST2:=zH (compact_step (eqv:=(fun x y:R1E=>decide (x.q=y.q))) HQe2.out HQf2.out);rcases emH (e2.q=f2.q)with HEQ2|HEQ2
    ·go_upto_region 11 with fail
     refine zy ?_;have H55:=zH (H48.out.step (Ext.refl w46).drew);have D55:=zH (Dig.of_ext (w:=w46) zb);have K57:=zH (HFR.out.trans (Fr.of_ext (Ext.refl w46).drew));refine zJ3 (Hp.start _) zb (bs 12 7) 0 1 2 _ (.slice (some ⟨g,(j+1)*4,none⟩) d c2) (.int .i64 ((i+1:Nat):Int)) ?_;refine zo 3 (bs 12 15) (v:= .pointer (some ⟨g,(j+1)*4+(i+1)*4,none⟩)) zb ?_ (hv:=by intro w hSw;exact ezi (k:=i+1) Tryz.underlying47 (l:=(by have h_:=HLT2.out;omega)) (f:=rfl));refine zg 4 (bs 12 31) g ((j+1)*4+(i+1)*4) (rc e2.a) (elem_off (H48.out.elem (f:=R1E.cells) (i:=0) rR R1E.len HRe2.out)) Tryz.underlying30 zb ?_;refine zJ2 (Hp.start _) zb (bs 12 127) 5 6 (.slice (some ⟨g,(j+1)*4,none⟩) d c2) (.int .i64 ((i+1:Nat):Int)) ?_;refine zu 7 (bs 12 255) (v:= .int .i64 (i:Int)) zb ?_ (hv:=by intro w hSw;exact ez2 (by have ob0:=HI.out;have ob1:=HKI.out;have ob2:=HD.out;have ob3:=HC2.out;have ob4:=HCN.out;have ob5:=HDL.out;have ob6:=HLT2.out;omega));refine zo 8 (bs 12 511) (v:= .pointer (some ⟨g,(j+1)*4+i*4,none⟩)) zb ?_ (hv:=by intro w hSw;exact ezi (k:=i) Tryz.underlying47 (l:=(by have h_:=HLT2.out;omega)) (f:=rfl));refine zg 9 (bs 12 1023) g ((j+1)*4+i*4) (rc f2.a) (elem_off (H48.out.elem (f:=R1E.cells) (i:=0) rR R1E.len HRf2.out)) Tryz.underlying30 zb ?_;have DD67:=tD (tD (tD DD34 D35) D48) D55;refine mC 10 (bs 12 2047) (risEq_any L hL Bc _ e2 f2 ⟨(HAe2.out.dig DD67.out),BAe2.out⟩ ⟨(HAf2.out.dig DD67.out),BAf2.out⟩ (K57.out.cell HC.out HB.out)) ?_;rintro e w66 ⟨rfl,hx⟩;have H68:=zH (H55.out.step hx);have D68:=zH (show Dig w46.drew w66 from Dig.of_ext hx);have K70:=zH (K57.out.trans (Fr.of_ext hx));have S71:=zH (zb.trans hx);clear hx;refine⟨.bool true,by rw[decide_eq_true HEQ2.out],S71.out,?_⟩;try simp only[Act.put,zA,zB,zC]
     refine zx 11 (bs 12 4095) (.bool false) S71.out ?_;refine wpAnyH_done kR ?_ _;go_upto_region 10 with fail
     refine wl ?_;refine zq (.int .i64 ((i+1:Nat):Int)) ?_;refine zp (.int .i64 ((i+2:Nat):Int)) (by exact ez1 (by have ob0:=HI.out;have ob1:=HKI.out;have ob2:=HD.out;have ob3:=HC2.out;have ob4:=HCN.out;have ob5:=HDL.out;have ob6:=HLT2.out;omega)) ?_;refine zq (.int .i64 ((i+2:Nat):Int)) ?_;have DD76:=tD (tD D48 D55) D68;go_wp2_with fail
     go_roundg (d-(i+1))
     case measure=>exact(by have ob0:=HI.out;have ob1:=HKI.out;have ob2:=HD.out;have ob3:=HC2.out;have ob4:=HCN.out;have ob5:=HDL.out;have ob6:=HLT2.out;have ob8:=(show i<d from by have h_:=HLT2.out;omega);omega)
     case rel=>exact⟨i+1,k,ds,rfl,rfl,(by go_num),HLT2.out,(by have h_:=HKI.out;omega),HDL.out,(by rw[show j+1+(i+1+1)=j+1+i+1+1 by omega,HST2.out,if_pos (decide_eq_true HEQ2.out),List.append_nil];exact HD2.out),(by rw[show j+1+(i+1)=(j+1+i)+1 by omega,<-List.drop_drop,HD3.out,List.drop_drop]),K70.out,H68.out,DD76.out⟩
    go_upto_region 11 with fail
    refine zy ?_;have H77:=zH (H48.out.step (Ext.refl w46).drew);have D77:=zH (Dig.of_ext (w:=w46) zb);have K79:=zH (HFR.out.trans (Fr.of_ext (Ext.refl w46).drew));refine zJ3 (Hp.start _) zb (bs 12 7) 0 1 2 _ (.slice (some ⟨g,(j+1)*4,none⟩) d c2) (.int .i64 ((i+1:Nat):Int)) ?_;refine zo 3 (bs 12 15) (v:= .pointer (some ⟨g,(j+1)*4+(i+1)*4,none⟩)) zb ?_ (hv:=by intro w hSw;exact ezi (k:=i+1) Tryz.underlying47 (l:=(by have h_:=HLT2.out;omega)) (f:=rfl));refine zg 4 (bs 12 31) g ((j+1)*4+(i+1)*4) (rc e2.a) (elem_off (H48.out.elem (f:=R1E.cells) (i:=0) rR R1E.len HRe2.out)) Tryz.underlying30 zb ?_;refine zJ2 (Hp.start _) zb (bs 12 127) 5 6 (.slice (some ⟨g,(j+1)*4,none⟩) d c2) (.int .i64 ((i+1:Nat):Int)) ?_;refine zu 7 (bs 12 255) (v:= .int .i64 (i:Int)) zb ?_ (hv:=by intro w hSw;exact ez2 (by have ob0:=HI.out;have ob1:=HKI.out;have ob2:=HD.out;have ob3:=HC2.out;have ob4:=HCN.out;have ob5:=HDL.out;have ob6:=HLT2.out;omega));refine zo 8 (bs 12 511) (v:= .pointer (some ⟨g,(j+1)*4+i*4,none⟩)) zb ?_ (hv:=by intro w hSw;exact ezi (k:=i) Tryz.underlying47 (l:=(by have h_:=HLT2.out;omega)) (f:=rfl));refine zg 9 (bs 12 1023) g ((j+1)*4+i*4) (rc f2.a) (elem_off (H48.out.elem (f:=R1E.cells) (i:=0) rR R1E.len HRf2.out)) Tryz.underlying30 zb ?_;have DD89:=tD (tD (tD DD34 D35) D48) D77;refine mC 10 (bs 12 2047) (risEq_any L hL Bc _ e2 f2 ⟨(HAe2.out.dig DD89.out),BAe2.out⟩ ⟨(HAf2.out.dig DD89.out),BAf2.out⟩ (K79.out.cell HC.out HB.out)) ?_;rintro e w88 ⟨rfl,hx⟩;have H90:=zH (H77.out.step hx);have D90:=zH (show Dig w46.drew w88 from Dig.of_ext hx);have K92:=zH (K79.out.trans (Fr.of_ext hx));have S93:=zH (zb.trans hx);clear hx;refine⟨.bool false,by rw[decide_eq_false HEQ2.out],S93.out,?_⟩;try simp only[Act.put,zA,zB,zC]
    refine zx 11 (bs 12 4095) (.bool true) S93.out ?_;refine wpAnyH_done kR ?_ _;go_upto_region 12 with fail
    refine wl ?_;refine zI4 (Hp.start _) _ (.int .i64 (k:Int)) (.slice (some ⟨g,(j+1)*4,none⟩) d c2) (.int .i64 ((i+1:Nat):Int)) ?_;refine zp (.pointer (some ⟨g,(j+1)*4+(i+1)*4,none⟩)) (by exact ezi (k:=i+1) Tryz.underlying47 (l:=(by have h_:=HLT2.out;omega)) (f:=rfl)) ?_;refine zd g ((j+1)*4+(i+1)*4) (rc e2.a) (elem_off (H90.out.elem (f:=R1E.cells) (i:=0) rR R1E.len HRe2.out)) Tryz.underlying30 ?_;refine zp (.pointer (some ⟨g,k*4,none⟩)) (by exact ezi (k:=k) Tryz.underlying47 (l:=(by have h_:=HKI.out;have h1_:=HLT2.out;have h2_:=HD.out;omega)) (f:=(Nat.zero_add _).symm)) ?_;refine mv_stElem (f:=R1E.cells) rR _ _ _ rR H90.out (ix:=0) rR R1E.len k e2 (by have h_:=HKI.out;have h1_:=HLT2.out;have h2_:=HD.out;have h3_:=HDL.out;omega) [.bool e2.a.n,.slice e2.a.p e2.a.l e2.a.c,.bool e2.a.m,.slice e2.a.p2 e2.a.l2 e2.a.c2] rR (k*4) rR rR rR kR (by simp[Value.oneCell']) (by simp[NoUL]) ?_;intro w102 hh hd ho;have H103:=hN hh;have D103:=zH (hd);have K105:=zH (K92.out.trans_new ho (fun j hj=> .inl hj));clear hh hd ho
    (try simp only[Act.put])
    go_upto_region 13 with fail
    refine wl ?_;refine zq (.int .i64 (k:Int)) ?_;refine zp (.int .i64 ((k+1:Nat):Int)) (by exact ez1 (by have ob0:=HI.out;have ob1:=HKI.out;have ob2:=HD.out;have ob3:=HC2.out;have ob4:=HCN.out;have ob5:=HDL.out;have ob6:=HLT2.out;omega)) ?_;refine zq (.int .i64 ((k+1:Nat):Int)) ?_;go_upto_region 10 with fail
    refine wl ?_;refine zq (.int .i64 ((i+1:Nat):Int)) ?_;refine zp (.int .i64 ((i+2:Nat):Int)) (by exact ez1 (by have ob0:=HI.out;have ob1:=HKI.out;have ob2:=HD.out;have ob3:=HC2.out;have ob4:=HCN.out;have ob5:=HDL.out;have ob6:=HLT2.out;omega)) ?_;refine zq (.int .i64 ((i+2:Nat):Int)) ?_;have DD112:=tD (tD (tD D48 D77) D90) D103;go_wp2_with fail
    go_roundg (d-(i+1))
    case measure=>exact(by have ob0:=HI.out;have ob1:=HKI.out;have ob2:=HD.out;have ob3:=HC2.out;have ob4:=HCN.out;have ob5:=HDL.out;have ob6:=HLT2.out;have ob8:=(show i<d from by have h_:=HLT2.out;omega);omega)
    case rel=>exact⟨i+1,k+1,(ds.set k e2),rfl,(by go_num),(by go_num),HLT2.out,(by have h_:=HKI.out;omega),(by rw[List.length_set];exact HDL.out),(by rw[show j+1+(i+1+1)=j+1+i+1+1 by omega,HST2.out,if_neg (by rw[decide_eq_false HEQ2.out];decide),take_set_snoc (by have h_:=HKI.out;have h1_:=HLT2.out;have h2_:=HD.out;have h3_:=HDL.out;omega)];exact congrArg (· ++[e2]) HD2.out),(by rw[List.drop_set_of_lt (by have h_:=HKI.out;omega),show j+1+(i+1)=(j+1+i)+1 by omega,<-List.drop_drop,HD3.out,List.drop_drop]),K105.out,H103.out,DD112.out⟩
   go_upto_region 9 with fail
   refine wl ?_;refine zI3 (Hp.start _) (.int .i64 ((i+1:Nat):Int)) (.slice (some ⟨g,(j+1)*4,none⟩) d c2) (.int .i64 (d:Int)) ?_;refine zp (.bool false) (by exact ezl (e:=(dec_f (by have ob0:=HI.out;have ob1:=HKI.out;have ob2:=HD.out;have ob3:=HC2.out;have ob4:=HCN.out;have ob5:=HDL.out;have ob6:=HLT2.out;omega)))) ?_;have hid_:i+1=d:=by have h_:=HLT2.out;have h2_:=HI.out;omega
   have HTK:=zH (show ds.take k=compactV (fun x y:R1E=>decide (x.q=y.q)) es from by rw[HD2.out,show j+1+(i+1)=es.length by rw[HD.out];omega,List.take_of_length_le (Nat.le_refl _)]);obtain⟨d3,hd3⟩:∃d3,es.length=k+d3:=⟨es.length-k,by have h_:=HKI.out;have h2_:=HD.out;omega⟩;obtain⟨c3,hc3⟩:∃c3,cap=k+c3:=⟨cap-k,by have h_:=HKI.out;have h2_:=HD.out;have h3_:=HCN.out;omega⟩;have HD4:=zH hd3;have HC3:=zH hc3;have hd0:0<d3:=by have h_:=HKI.out;have h2_:=HD.out;omega
   have HD0:=zH hd0;clear hd3 hc3 hid_ hd0;go_upto_region 14 with fail
   refine wl ?_;refine zI2 (Hp.start _) _ (.int .i64 (k:Int)) ?_;refine zp (.slice (some ⟨g,k*4,none⟩) d3 c3) (by exact ev_drop rR Tryz.underlying47 kR rR rR (by first|rfl|omega) HD4.out HD0.out HC3.out (by have ob0:=HI.out;have ob1:=HKI.out;have ob2:=HD.out;have ob3:=HC2.out;have ob4:=HCN.out;have ob5:=HDL.out;have ob6:=HLT2.out;have ob7:=HD4.out;have ob8:=HC3.out;have ob9:=HD0.out;omega)) ?_;refine mv_clear (f:=R1E.cells) rR _ 47 rR H48.out (ix:=0) rR R1E.len HDL.out k c3 (by have h_:=HD4.out;have h2_:=HD0.out;omega) (by rw[show es.length-k=d3 by have h_:=HD4.out;omega];rfl) Tryz.underlying47 (.agg z4) Tryz.zeroValue30 rfl (by simp[Value.cells,Value.oneCell']) (by simp[Value.cells,NoUL]) dC ?_;intro w120 hh hd ho;have H121:=hN hh;have D121:=zH (hd);have K123:=zH (HFR.out.trans_new ho (fun j hj=> .inl hj));clear hh hd ho
   (try simp only[Act.put])
   go_upto_region 15 with fail
   refine wl ?_;refine zI2 (Hp.start _) _ (.int .i64 (k:Int)) ?_;refine zp (.slice (some ⟨g,0,none⟩) k cap) (by exact ev_head (size:=4) rR Tryz.underlying47 kR rR rR (by first|rfl|omega) (by have h_:=HD4.out;omega) HCN.out (by have h_:=HC3.out;have h2_:=HD4.out;have h3_:=HCN.out;have h4_:=HD0.out;omega)) ?_;refine zI1 (Hp.start _) _ ?_;have HRW:=zH (H121.out.row (i:=0) (by rfl));have hlen:(ds.take k).length=k:=by rw[List.length_take,HDL.out,HD4.out];omega
   rw[HTK.out]at hlen HRW;go_wp2_with fail
   go_ret
   exact⟨_,rfl,by rw[hlen];exact HRW.out,K123.out.grownBy,((((D15.out.trans D22.out).trans D35.out).trans D48.out).trans D121.out),rfl⟩
  go_upto_region 6 with fail
  refine zy ?_;have H128:=zH (H15.out.step (Ext.refl w13).drew);have D128:=zH (Dig.of_ext (w:=w13) zb);have K130:=zH (HFR.out.trans (Fr.of_ext (Ext.refl w13).drew));refine zJ3 (Hp.start _) zb (bs 11 7) 0 1 2 _ _ (.int .i64 ((j+1:Nat):Int)) ?_;refine zo 3 (bs 11 15) (v:= .pointer (some ⟨g,(j+1)*4,none⟩)) zb ?_ (hv:=by intro w hSw;exact ezi (k:=j+1) Tryz.underlying47 (l:=(by have h_:=HLT.out;omega)) (f:=(Nat.zero_add _).symm));refine zg 4 (bs 11 31) g ((j+1)*4) (rc e.a) (H15.out.elem (f:=R1E.cells) (i:=0) rR R1E.len HQe.out) Tryz.underlying30 zb ?_;refine zJ2 (Hp.start _) zb (bs 11 127) 5 6 _ (.int .i64 ((j+1:Nat):Int)) ?_;refine zu 7 (bs 11 255) (v:= .int .i64 (j:Int)) zb ?_ (hv:=by intro w hSw;exact ez2 (by have ob0:=HK.out;have ob1:=HLT.out;omega));refine zo 8 (bs 11 511) (v:= .pointer (some ⟨g,j*4,none⟩)) zb ?_ (hv:=by intro w hSw;exact ezi (k:=j) Tryz.underlying47 (l:=(by have h_:=HLT.out;omega)) (f:=(Nat.zero_add _).symm));refine zg 9 (bs 11 1023) g (j*4) (rc f.a) (H15.out.elem (f:=R1E.cells) (i:=0) rR R1E.len HQf.out) Tryz.underlying30 zb ?_;have DD140:=tD D15 D128;refine mC 10 (bs 11 2047) (risEq_any L hL Bc _ e f ⟨(HAe.out.dig DD140.out),BAe.out⟩ ⟨(HAf.out.dig DD140.out),BAf.out⟩ (K130.out.cell HC.out HB.out)) ?_;rintro e w139 ⟨rfl,hx⟩;have H141:=zH (H128.out.step hx);have D141:=zH (show Dig w13.drew w139 from Dig.of_ext hx);have K143:=zH (K130.out.trans (Fr.of_ext hx));have S144:=zH (zb.trans hx);clear hx;refine⟨.bool false,by rw[decide_eq_false HEQ.out],S144.out,?_⟩;try simp only[Act.put,zA,zB,zC]
  refine wpAnyH_done kR ?_ _;go_upto_region 5 with fail
  refine wl ?_;refine zq (.int .i64 ((j+1:Nat):Int)) ?_;refine zp (.int .i64 ((j+2:Nat):Int)) (by exact ez1 (by have ob0:=HK.out;have ob1:=HLT.out;omega)) ?_;refine zq (.int .i64 ((j+2:Nat):Int)) ?_;have DD148:=tD DD140 D141;go_wp2_with fail
  go_roundg (es.length-(j+1))
  case measure=>exact(by have ob0:=HK.out;have ob1:=HLT.out;have ob3:=(show j<es.length from by have h_:=HLT.out;omega);omega)
  case rel=>exact⟨j+1,rfl,(by go_num),HLT.out,(by rw[HST.out,if_neg (by rw[decide_eq_false HEQ.out];decide),HCV.out,List.take_add_one (i:=j+1),HQe.out];rfl),K143.out,H141.out,DD148.out⟩
 go_upto_region 4 with fail
 refine wl ?_;refine zI3 (Hp.start _) (.int .i64 ((j+1:Nat):Int)) _ (.int .i64 ((es.length:Nat):Int)) ?_;refine zp (.bool false) (by exact ezl (e:=(dec_f (by have ob0:=HK.out;have ob1:=HLT.out;omega)))) ?_;go_upto_region 16 with fail
 refine wl ?_;refine zI2 (Hp.start _) _ _ ?_;have hcv:compactV (fun x y:R1E=>decide (x.q=y.q)) es=es:=by have h_:=HCV.out;rwa[show j+1=es.length by have h2_:=HLT.out;have h3_:=HK.out;omega,List.take_of_length_le (Nat.le_refl _)]at h_
 go_wp2_with fail
 go_ret
 exact⟨_,rfl,by rw[hcv];exact H15.out.row (i:=0) (by rfl),HFR.out.grownBy,D15.out,rfl⟩
end
section
open Go.Shelf Go.RowKit
def sortRat_ren:Go.Shelf.Ren:=⟨fun|6=>85|15=>89|14=>109|28=>118|29=>119|20=>132|21=>133|22=>134|23=>135|24=>136|25=>137|26=>138|27=>139|46=>150|47=>141|48=>142|49=>151|50=>152|57=>156|n=>n,fun|22=>47|24=>30|25=>48|3=>3|39=>104|0=>0|53=>96|55=>102|4=>4|46=>130|45=>129|50=>134|5=>5|9=>9|66=>150|70=>154|76=>160|77=>161|n=>n,fun|n=>n⟩
theorem sortRat:Go.Proofs.SlLaysF0.n6 Tryz.prog sortRat_ren:={
 mixed:=by kernel_rfl
 f6:=⟨Tryz.f85.name,by decide,Tryz.func85.trans (congrArg some (by kernel_rfl))⟩
 f14:=⟨Tryz.f109.name,by decide,Tryz.func109.trans (congrArg some (by kernel_rfl))⟩
 f15:=Tryz.func89.trans (congrArg some (by kernel_rfl))
 f20:=⟨Tryz.f132.name,by decide,Tryz.func132.trans (congrArg some (by kernel_rfl))⟩
 f21:=⟨Tryz.f133.name,by decide,Tryz.func133.trans (congrArg some (by kernel_rfl))⟩
 f22:=⟨Tryz.f134.name,by decide,Tryz.func134.trans (congrArg some (by kernel_rfl))⟩
 f23:=⟨Tryz.f135.name,by decide,Tryz.func135.trans (congrArg some (by kernel_rfl))⟩
 f24:=⟨Tryz.f136.name,by decide,Tryz.func136.trans (congrArg some (by kernel_rfl))⟩
 f25:=⟨Tryz.f137.name,by decide,Tryz.func137.trans (congrArg some (by kernel_rfl))⟩
 f26:=⟨Tryz.f138.name,by decide,Tryz.func138.trans (congrArg some (by kernel_rfl))⟩
 f27:=⟨Tryz.f139.name,by decide,Tryz.func139.trans (congrArg some (by kernel_rfl))⟩
 f28:=Tryz.func118.trans (congrArg some (by kernel_rfl))
 f29:=Tryz.func119.trans (congrArg some (by kernel_rfl))
 f46:=⟨Tryz.f150.name,by decide,Tryz.func150.trans (congrArg some (by kernel_rfl))⟩
 f47:=Tryz.func141.trans (congrArg some (by kernel_rfl))
 f48:=Tryz.func142.trans (congrArg some (by kernel_rfl))
 f49:=⟨Tryz.f151.name,by decide,Tryz.func151.trans (congrArg some (by kernel_rfl))⟩
 f50:=⟨Tryz.f152.name,by decide,Tryz.func152.trans (congrArg some (by kernel_rfl))⟩
 f57:=⟨Tryz.f156.name,by decide,Tryz.func156.trans (congrArg some (by kernel_rfl))⟩
 t0:=Tryz.underlying0
 a0:=Tryz.isAgg0
 z0:=Tryz.sizeOf0
 v0:=Tryz.zeroValue0
 t3:=Tryz.underlying3
 a3:=Tryz.isAgg3
 z3:=Tryz.sizeOf3
 v3:=Tryz.zeroValue3
 t4:=Tryz.underlying4
 a4:=Tryz.isAgg4
 z4:=Tryz.sizeOf4
 v4:=Tryz.zeroValue4
 t5:=Tryz.underlying5
 a5:=Tryz.isAgg5
 z5:=Tryz.sizeOf5
 v5:=Tryz.zeroValue5
 t9:=Tryz.underlying9
 a9:=Tryz.isAgg9
 z9:=Tryz.sizeOf9
 v9:=Tryz.zeroValue9
 t22:=Tryz.underlying47
 a22:=Tryz.isAgg47
 z22:=Tryz.sizeOf47
 v22:=Tryz.zeroValue47
 t25:=Tryz.underlying48
 a25:=Tryz.isAgg48
 z25:=Tryz.sizeOf48
 v25:=Tryz.zeroValue48
 t39:=Tryz.underlying104
 a39:=Tryz.isAgg104
 z39:=Tryz.sizeOf104
 v39:=Tryz.zeroValue104
 t45:=Tryz.underlying129
 a45:=Tryz.isAgg129
 z45:=Tryz.sizeOf129
 v45:=Tryz.zeroValue129
 t46:=Tryz.underlying130
 a46:=Tryz.isAgg130
 z46:=Tryz.sizeOf130
 v46:=Tryz.zeroValue130
 t50:=Tryz.underlying134
 a50:=Tryz.isAgg134
 z50:=Tryz.sizeOf134
 v50:=Tryz.zeroValue134
 t53:=Tryz.underlying96
 a53:=Tryz.isAgg96
 z53:=Tryz.sizeOf96
 v53:=Tryz.zeroValue96
 t55:=Tryz.underlying102
 a55:=Tryz.isAgg102
 z55:=Tryz.sizeOf102
 v55:=Tryz.zeroValue102
 t66:=Tryz.underlying150
 a66:=Tryz.isAgg150
 z66:=Tryz.sizeOf150
 v66:=Tryz.zeroValue150
 t70:=Tryz.underlying154
 a70:=Tryz.isAgg154
 z70:=Tryz.sizeOf154
 v70:=Tryz.zeroValue154
 t76:=Tryz.underlying160
 a76:=Tryz.isAgg160
 z76:=Tryz.sizeOf160
 v76:=Tryz.zeroValue160
 t77:=Tryz.underlying161
 a77:=Tryz.isAgg161
 z77:=Tryz.sizeOf161
 v77:=Tryz.zeroValue161}
def sortRR_ren:Go.Shelf.Ren:=⟨fun|6=>55|15=>89|14=>88|28=>118|29=>119|20=>110|21=>111|22=>112|23=>113|24=>114|25=>115|26=>116|27=>117|46=>140|47=>141|48=>142|49=>143|50=>144|57=>153|n=>n,fun|22=>56|24=>61|25=>91|3=>3|39=>104|0=>0|53=>96|55=>102|4=>4|46=>130|45=>129|50=>134|5=>5|9=>9|66=>150|70=>154|76=>160|77=>161|n=>n,fun|n=>n⟩
theorem sortRR:Go.Proofs.SlLaysF0.n6 Tryz.prog sortRR_ren:={
 mixed:=by kernel_rfl
 f6:=⟨Tryz.f55.name,by decide,Tryz.func55.trans (congrArg some (by kernel_rfl))⟩
 f14:=⟨Tryz.f88.name,by decide,Tryz.func88.trans (congrArg some (by kernel_rfl))⟩
 f15:=Tryz.func89.trans (congrArg some (by kernel_rfl))
 f20:=⟨Tryz.f110.name,by decide,Tryz.func110.trans (congrArg some (by kernel_rfl))⟩
 f21:=⟨Tryz.f111.name,by decide,Tryz.func111.trans (congrArg some (by kernel_rfl))⟩
 f22:=⟨Tryz.f112.name,by decide,Tryz.func112.trans (congrArg some (by kernel_rfl))⟩
 f23:=⟨Tryz.f113.name,by decide,Tryz.func113.trans (congrArg some (by kernel_rfl))⟩
 f24:=⟨Tryz.f114.name,by decide,Tryz.func114.trans (congrArg some (by kernel_rfl))⟩
 f25:=⟨Tryz.f115.name,by decide,Tryz.func115.trans (congrArg some (by kernel_rfl))⟩
 f26:=⟨Tryz.f116.name,by decide,Tryz.func116.trans (congrArg some (by kernel_rfl))⟩
 f27:=⟨Tryz.f117.name,by decide,Tryz.func117.trans (congrArg some (by kernel_rfl))⟩
 f28:=Tryz.func118.trans (congrArg some (by kernel_rfl))
 f29:=Tryz.func119.trans (congrArg some (by kernel_rfl))
 f46:=⟨Tryz.f140.name,by decide,Tryz.func140.trans (congrArg some (by kernel_rfl))⟩
 f47:=Tryz.func141.trans (congrArg some (by kernel_rfl))
 f48:=Tryz.func142.trans (congrArg some (by kernel_rfl))
 f49:=⟨Tryz.f143.name,by decide,Tryz.func143.trans (congrArg some (by kernel_rfl))⟩
 f50:=⟨Tryz.f144.name,by decide,Tryz.func144.trans (congrArg some (by kernel_rfl))⟩
 f57:=⟨Tryz.f153.name,by decide,Tryz.func153.trans (congrArg some (by kernel_rfl))⟩
 t0:=Tryz.underlying0
 a0:=Tryz.isAgg0
 z0:=Tryz.sizeOf0
 v0:=Tryz.zeroValue0
 t3:=Tryz.underlying3
 a3:=Tryz.isAgg3
 z3:=Tryz.sizeOf3
 v3:=Tryz.zeroValue3
 t4:=Tryz.underlying4
 a4:=Tryz.isAgg4
 z4:=Tryz.sizeOf4
 v4:=Tryz.zeroValue4
 t5:=Tryz.underlying5
 a5:=Tryz.isAgg5
 z5:=Tryz.sizeOf5
 v5:=Tryz.zeroValue5
 t9:=Tryz.underlying9
 a9:=Tryz.isAgg9
 z9:=Tryz.sizeOf9
 v9:=Tryz.zeroValue9
 t22:=Tryz.underlying56
 a22:=Tryz.isAgg56
 z22:=Tryz.sizeOf56
 v22:=Tryz.zeroValue56
 t25:=Tryz.underlying91
 a25:=Tryz.isAgg91
 z25:=Tryz.sizeOf91
 v25:=Tryz.zeroValue91
 t39:=Tryz.underlying104
 a39:=Tryz.isAgg104
 z39:=Tryz.sizeOf104
 v39:=Tryz.zeroValue104
 t45:=Tryz.underlying129
 a45:=Tryz.isAgg129
 z45:=Tryz.sizeOf129
 v45:=Tryz.zeroValue129
 t46:=Tryz.underlying130
 a46:=Tryz.isAgg130
 z46:=Tryz.sizeOf130
 v46:=Tryz.zeroValue130
 t50:=Tryz.underlying134
 a50:=Tryz.isAgg134
 z50:=Tryz.sizeOf134
 v50:=Tryz.zeroValue134
 t53:=Tryz.underlying96
 a53:=Tryz.isAgg96
 z53:=Tryz.sizeOf96
 v53:=Tryz.zeroValue96
 t55:=Tryz.underlying102
 a55:=Tryz.isAgg102
 z55:=Tryz.sizeOf102
 v55:=Tryz.zeroValue102
 t66:=Tryz.underlying150
 a66:=Tryz.isAgg150
 z66:=Tryz.sizeOf150
 v66:=Tryz.zeroValue150
 t70:=Tryz.underlying154
 a70:=Tryz.isAgg154
 z70:=Tryz.sizeOf154
 v70:=Tryz.zeroValue154
 t76:=Tryz.underlying160
 a76:=Tryz.isAgg160
 z76:=Tryz.sizeOf160
 v76:=Tryz.zeroValue160
 t77:=Tryz.underlying161
 a77:=Tryz.isAgg161
 z77:=Tryz.sizeOf161
 v77:=Tryz.zeroValue161}
theorem sortR1_any (L:Nat)(hL:L<=60000)(v:Value)(es:List R1E)(base:Nat)(w:World)(h:RowN w base 30 4 v es.length (es.flatMap R1E.cells))(hok:∀e,e∈es->e.Ok L w)(hn:es.length<=100000000):
  Calls Tryz.prog 85 #[v,.func (.func 17) #[] #[]] w fun e w'=>e= .returned (.tuple #[])/\
   ∃es':List R1E,es'.Perm es/\es'.Pairwise (fun x y=>x.q<=y.q)/\RowN w' base 30 4 v es'.length (es'.flatMap R1E.cells)/\w.grownBy w' v.ownBlock/\Dig w w':=by
 have hc:=sortN_any sortRat 4 (by decide) Tryz.isAgg30 Tryz.sizeOf30 R1E.cells R1E.len R1E.one R1E.nou (fun w e=>e.Ok L w) (fun h d=>h.dig d) (fun x y=>rcmp x.q y.q)
  (fun x h=>Rat.not_lt.2 Rat.le_refl (rcmp_lt.1 h)) (fun x y z h1 h2=>rcmp_lt.2 (by have a:=rcmp_lt.1 h1;have b:=rcmp_lt.1 h2;grind))
  (fun x y z h1 h2 h3=>by have k1:=Rat.not_lt.1 (fun h=>h1 (rcmp_lt.2 h));have k2:=Rat.not_lt.1 (fun h=>h2 (rcmp_lt.2 h));exact Rat.not_lt.2 (Rat.le_trans k2 k1) (rcmp_lt.1 h3))
  17 (enters_of Tryz.func17 (by kernel_rfl) rfl)
  (fun w x y hx hy=>(pCmp (L:=60000) (RV.Is.nin hx.1 (Nat.le_trans hx.2 hL)) (RV.Is.nin hy.1 (Nat.le_trans hy.2 hL)) (by omega):Calls _ _ _ _ _)) v es base 30 w h hok (by omega)
 refine hc.mono ?_;rintro e w' ⟨rfl,es',h1,h2,h3⟩;exact⟨rfl,es',h1,h2.imp (fun h=>Rat.not_lt.1 (fun k=>h (rcmp_lt.2 k))),h3⟩
theorem sortR2_any (L:Nat)(_hL:L<=60000)(hcmp:∀(w:World) (e f:R2E),e.Ok L w->f.Ok L w->Calls Tryz.prog 56 #[.agg e.cells.toArray,.agg f.cells.toArray] w fun x w'=>x= .returned (.int .i64 (cmp2 e.vl f.vl))/\Ext w w')
  (v:Value)(es:List R2E)(base:Nat)(w:World)(h:RowN w base 61 8 v es.length (es.flatMap R2E.cells))(hok:∀e,e∈es->e.Ok L w)(hn:es.length<=100000000):
  Calls Tryz.prog 55 #[v,.func (.func 56) #[] #[]] w fun e w'=>e= .returned (.tuple #[])/\
   ∃es':List R2E,es'.Perm es/\es'.Pairwise (fun x y=>¬cmp2 y.vl x.vl<0)/\RowN w' base 61 8 v es'.length (es'.flatMap R2E.cells)/\w.grownBy w' v.ownBlock/\Dig w w':=by
 exact sortN_any sortRR 8 (by decide) Tryz.isAgg61 Tryz.sizeOf61 R2E.cells R2E.len R2E.one R2E.nou (fun w e=>e.Ok L w) (fun h d=>h.dig d) (fun x y=>cmp2 x.vl y.vl)
  (fun x h=>by rw[cmp2_eq.2 rfl]at h;exact absurd h (by decide)) (fun x y z h1 h2=>by rw[cmp2_lt]at*;grind) (fun x y z h1 h2=>by rw[cmp2_lt]at*;grind)
  56 (enters_of Tryz.func56 (by kernel_rfl) rfl) hcmp v es base 61 w h hok (by omega)
end
section
attribute [local go_sem ↓] Go.wp_at_zero Go.wp_at_succ run_max_ii run_min_ii
theorem rising_any (L:Nat)(hL:L<=60000)(v:Value)(es:List R1E)(base:Nat)(w:World)(h:RowN w base 30 4 v es.length (es.flatMap R1E.cells))(hbase:base<=w.heap.size)(hok:∀e,e∈es->e.Ok L w)(hn:es.length<=100000000):
  Calls Tryz.prog 51 #[v,.func (.func 17) #[] #[]] w fun x w'=>∃(v':Value) (es':List R1E),x= .returned v'/\RowN w' base 30 4 v' es'.length (es'.flatMap R1E.cells)/\w.grownBy w' v.ownBlock/\Dig w w'/\v'.ownBlock=v.ownBlock/\
   (es'.map R1E.q).Pairwise (· < ·)/\(∀x,x∈es'.map R1E.q↔x∈es.map R1E.q)/\(∀e,e∈es'->e∈es):=by
 obtain⟨w0,hx0,rfl⟩:=trunc w base hbase;obtain⟨A,c,rfl,_⟩:=RowN.form h;have HOK:=zH hok;have H0:=zH (Hp.one hx0 h);have HFR:=zH (show Fr (fun kz=>Value.ownBlock (.slice A es.length c)=some kz) w w from Fr.of_ext (Ext.refl w));clear h hx0 hok;go_enter Tryz.func51,Tryz.ntmps51
 go_upto_region 0 with fail
 refine wl ?_;refine aA 48 [.func (.func 17) #[] #[]] H0.out ?_;intro X1 w2 H4 hx hge;have D4:=zH (Dig.of_ext hx);have K6:=zH (HFR.out.trans (Fr.of_ext hx));clear hx hge;refine zI1 (Hp.start _) _ ?_;go_upto_region 1 with fail
 refine wl ?_;refine zI2 H4.out _ _ ?_;refine zc (sortR1_any L hL (.slice A es.length c) es _ _ (H4.out.row (i:=0) rR) (fun e he=>(HOK.out e he).dig D4.out) hn) ?_;rintro e w10 ⟨rfl,es1,hp1,hs1,hr1,hg1,hd1⟩;have HP1:=zH hp1;have HS1:=zH hs1;rw[hp1.length_eq]at hr1;have hh:=H4.out.turn (i:=0) (e:= .row 30 4 (.slice A es.length c) es.length (es.flatMap R1E.cells)) (e':= .row 30 4 (.slice A es.length c) es.length (es1.flatMap R1E.cells)) (by rfl) (fun k h=>h) hg1 hr1 (fun k hk=> .inl hk);have H11:=hN hh;have D11:=zH (show Dig w2 w10 from hd1);have K13:=zH (K6.out.trans_new hg1 (fun j hj=> .inl hj));have hx:=True.intro;clear hh hr1 hg1 hd1 hp1 hs1 hx;refine zn ?_;go_upto_region 2 with fail
 refine wl ?_;refine zI2 (Hp.start _) _ _ ?_;refine zc (cptR1_any L hL X1 (.slice A es.length c) es1 _ _ (by rw[HP1.out.length_eq];exact H11.out.row (i:=0) rR) H11.out.ext.size (fun e he=>(HOK.out e (HP1.out.mem_iff.1 he)).dig (D4.out.trans D11.out)) (H11.out.cell (i:=1) rR 0 rR) (H11.out.offRow (i:=1) (j:=0) rR rR dC rR) (by rw[HP1.out.length_eq];exact hn)) ?_;rintro e w16 ⟨v2,rfl,hr2,hg2,hd2,hb2⟩;have K17:=zH (K13.out.trans_new hg2 (fun j hj=> .inl hj));have hx:=True.intro;clear hx;refine zn ?_;refine zq (v2) ?_;go_wp2_with fail
 go_ret
 have hst:(compactV (fun x y:R1E=>decide (x.q=y.q)) es1).Pairwise (fun x y=>x.q<y.q):=compactV_sorted (le:=fun x y=>x.q<=y.q) (fun a b c h1 h2=>by grind) (fun x y h1 h2=>by have h3:=of_decide_eq_false h2;grind) (fun x y h1 z h2=>by have h3:=of_decide_eq_true h1;grind) HS1.out;refine⟨_,compactV (fun x y:R1E=>decide (x.q=y.q)) es1,rfl,hr2,K17.out.grownBy,(D4.out.trans D11.out).trans hd2,hb2,?_,fun x=>⟨fun hx=> ?_,fun hx=> ?_⟩,fun e he=>HP1.out.mem_iff.1 (compactV_sub _ he)⟩
 ·rw[List.pairwise_map];exact hst
 ·obtain⟨e,he,rfl⟩:=List.mem_map.1 hx
  exact List.mem_map_of_mem (HP1.out.mem_iff.1 (compactV_sub _ he))
 obtain⟨e,he,rfl⟩:=List.mem_map.1 hx;obtain⟨f,hf,h2⟩:=compactV_mem (eqv:=(fun x y:R1E=>decide (x.q=y.q))) (key:=R1E.q) (fun x y h=>of_decide_eq_true h) (HP1.out.mem_iff.2 he);exact List.mem_map.2 ⟨f,hf,h2⟩
def PutRet (L:Nat)(y lo hi:Rat)(Bo:Nat)(A:Option Addr)(n c:Nat)(es:List R1E)(w0 w w':World):Prop:=
  ∃ (A':Option Addr) (c' n':Nat) (es':List R1E),Hp w0 w' [.blk Bo 47 [.slice A' n' c'],.row 30 4 (.slice A' n' c') n' (List.flatMap R1E.cells es')]/\Dig w w'/\Fr (fun kz=>kz=Bo\/Value.ownBlock (.slice A n c)=some kz) w w'/\
    (∀k,Value.ownBlock (.slice A' n' c')=some k->Value.ownBlock (.slice A n c)=some k\/w.heap.size<=k)/\es'.map R1E.q=es.map R1E.q++(if lo<y/\y<hi then[y]else[])/\n'=es'.length/\n'<=n+1/\∀e,e∈es'->e.Ok L w'
theorem put_any (L:Nat)(hL:L<=60000)(ry rl rh:RV)(y lo hi:Rat)(Xl Xh Bo:Nat)(A:Option Addr)(n c:Nat)(es:List R1E)(w0 w:World)(hh:Hp w0 w [.blk Bo 47 [.slice A n c],.row 30 4 (.slice A n c) n (List.flatMap R1E.cells es)])
  (hy:ry.Is w y)(h1:Nm.rl y<=L)(hl:rl.Is w lo)(hh2:rh.Is w hi)(hl2:Nm.rl lo<=L)(hh3:Nm.rl hi<=L)(hrl:w.rangeAt Xl 0 [.bool rl.n,.slice rl.p rl.l rl.c,.bool rl.m,.slice rl.p2 rl.l2 rl.c2])(hrh:w.rangeAt Xh 0 [.bool rh.n,.slice rh.p rh.l rh.c,.bool rh.m,.slice rh.p2 rh.l2 rh.c2])
  (hnl:¬(Xl=Bo\/Value.ownBlock (.slice A n c)=some Xl))(hnh:¬(Xh=Bo\/Value.ownBlock (.slice A n c)=some Xh))(hn:n=es.length)(hn2:n<=90000000)(hok:∀e,e∈es->e.Ok L w):
  Calls Tryz.prog 50 #[.agg #[.bool ry.n,.slice ry.p ry.l ry.c,.bool ry.m,.slice ry.p2 ry.l2 ry.c2],.pointer (some ⟨Xl,0,none⟩),.pointer (some ⟨Xh,0,none⟩),.pointer (some ⟨Bo,0,none⟩)] w fun e w'=>e= .returned (.tuple #[])/\PutRet L y lo hi Bo A n c es w0 w w':=by
 have RY:=zH hy;have BY:=zH h1;have RL:=zH hl;have RH:=zH hh2;have BL:=zH hl2;have BH:=zH hh3;have GL:=zH hrl;have GH:=zH hrh;have NL:=zH hnl;have NH:=zH hnh;have HN:=zH hn;have HOK:=zH hok;have H0:=zH hh;have HN2:=zH hn2;clear hy h1 hl hh2 hl2 hh3 hrl hrh hnl hnh hn hn2 hok hh;have HFR:=zH (show Fr (fun kz=>kz=Bo\/Value.ownBlock (.slice A n c)=some kz) w w from Fr.of_ext (Ext.refl w));go_enter Tryz.func50,Tryz.ntmps50
 go_upto_region 0 with fail
 refine wl ?_;refine aA 30 (rc ry) H0.out ?_;intro X1 w2 H4 hx hge;have D4:=zH (Dig.of_ext hx);have K6:=zH (HFR.out.trans (Fr.of_ext hx));clear hx hge;rcases emH (lo<y/\y<hi)with CL|CL
 ·go_upto_region 1 with fail
  refine wl ?_;refine zd Xl (0) (rc rl) (K6.out.range GL.out NL.out) Tryz.underlying30 ?_;refine zI1 H4.out _ ?_;refine zc (pCmp (L:=60000) (RV.Is.nin (RL.out.dig D4.out) (Nat.le_trans BL.out (by omega))) (RV.Is.nin (RY.out.dig D4.out) (Nat.le_trans BY.out (by omega))) (by omega)) ?_;rintro e w9 ⟨rfl,hx⟩;have H10:=zH (H4.out.step hx);have D10:=zH (Dig.of_ext hx);have K12:=zH (K6.out.trans (Fr.of_ext hx));clear hx;refine zn ?_;refine zp (.bool true) (by exact ezl (e:=(dec_t (rcmp_lt.2 CL.out.1)))) ?_;refine zI2 H10.out (.bool true) _ ?_;refine zd Xh (0) (rc rh) (K12.out.range GH.out NH.out) Tryz.underlying30 ?_;have DD16:=tD D4 D10;refine zc (pCmp (L:=60000) (RV.Is.nin (RY.out.dig DD16.out) (Nat.le_trans BY.out (by omega))) (RV.Is.nin (RH.out.dig DD16.out) (Nat.le_trans BH.out (by omega))) (by omega)) ?_;rintro e w15 ⟨rfl,hx⟩;have H17:=zH (H10.out.step hx);have D17:=zH (Dig.of_ext hx);have K19:=zH (K12.out.trans (Fr.of_ext hx));clear hx;refine zn ?_;refine zp (.bool true) (by exact ezl (e:=(dec_t (rcmp_lt.2 CL.out.2)))) ?_;refine zq (.bool true) ?_;go_upto_region 2 with fail
  refine wl ?_;refine zI2 H17.out _ _ ?_;refine zp (w':=(w15.alloc (.cells ([.bool ry.n,.slice ry.p ry.l ry.c,.bool ry.m,.slice ry.p2 ry.l2 ry.c2]:List Value).toArray 30))) (.slice (some ⟨w15.heap.size,0,none⟩) 1 1) (by go_simp) ?_;refine mv_app rR _ _ _ rR elRat rR H17.out (ix:=1) rR 1 1 [.bool ry.n,.slice ry.p ry.l ry.c,.bool ry.m,.slice ry.p2 ry.l2 ry.c2] rR rfl (by simp[Value.oneCell']) (by simp[NoUL]) dC (by unfold maxLen;exact(by have ob0:=HN2.out;omega)) (by have ob0:=HN2.out;omega) ?_;intro g23 cp24 w22 hf hh hd hg;have Fg23:=zH hf;clear hf;rw[show List.flatMap R1E.cells es++[.bool ry.n,.slice ry.p ry.l ry.c,.bool ry.m,.slice ry.p2 ry.l2 ry.c2]=_ from flat_snoc R1E.cells _ (⟨ry,y⟩:R1E)]at hh;have H25:=hN hh;have D25:=zH (hd);have K27:=zH (show Fr (fun kz=>kz=Bo\/Value.ownBlock (.slice A n c)=some kz) w w22 from(K19.out.trans (Fr.of_ext ((Ext.refl _).alloc _))).trans_new hg (fun j hj=> .inl (.inr hj)));clear hh hd hg;try simp only[Act.put,zA,zB,zC]
  refine aU 0 (.slice (some ⟨g23,0,none⟩) (n+1) cp24) H25.out ?_;intro w28 H29 hd ho;have D29:=zH (hd);have K31:=zH (K27.out.trans_new ho (fun j hj=> .inl (.inl (by injection hj with hj;exact hj.symm))));clear hd ho;have DD32:=tD (tD (tD DD16 D17) D25) D29;go_wp2_with fail
  first|refine bodyPost_end (v:= .tuple #[]) (results_none rfl _ _ _) rfl ?_|refine bodyPost_ret (v:= .tuple #[]) (results_none rfl _ _ _) rfl ?_
  exact⟨rfl,some ⟨g23,0,none⟩,cp24,n+1,es++[(⟨ry,y⟩:R1E)],H29.out.take 2,((((D4.out.trans D10.out).trans D17.out).trans D25.out).trans D29.out),K31.out,(fun k_ hk_=>by have e_:g23=k_:=(by simpa[Value.ownBlock]using hk_);subst e_;exact Fg23.out.imp id (fun h_=>Nat.le_trans K19.out.size h_)),(by rw[List.map_append,if_pos CL.out];rfl),(by rw[List.length_append,<-HN.out];rfl),Nat.le_refl _,(fun g_ hg_=>(List.mem_append.1 hg_).elim (fun hg_=>(HOK.out g_ hg_).dig ((((D4.out.trans D10.out).trans D17.out).trans D25.out).trans D29.out)) (fun hg_=>by rw[List.mem_singleton.1 hg_];exact⟨(RY.out.dig DD32.out),BY.out⟩))⟩
 rcases emH (lo<y)with C1|C1
 ·go_upto_region 1 with fail
  refine wl ?_;refine zd Xl (0) (rc rl) (K6.out.range GL.out NL.out) Tryz.underlying30 ?_;refine zI1 H4.out _ ?_;refine zc (pCmp (L:=60000) (RV.Is.nin (RL.out.dig D4.out) (Nat.le_trans BL.out (by omega))) (RV.Is.nin (RY.out.dig D4.out) (Nat.le_trans BY.out (by omega))) (by omega)) ?_;rintro e w34 ⟨rfl,hx⟩;have H35:=zH (H4.out.step hx);have D35:=zH (Dig.of_ext hx);have K37:=zH (K6.out.trans (Fr.of_ext hx));clear hx;refine zn ?_;refine zp (.bool true) (by exact ezl (e:=(dec_t (rcmp_lt.2 C1.out)))) ?_;refine zI2 H35.out (.bool true) _ ?_;refine zd Xh (0) (rc rh) (K37.out.range GH.out NH.out) Tryz.underlying30 ?_;have DD41:=tD D4 D35;refine zc (pCmp (L:=60000) (RV.Is.nin (RY.out.dig DD41.out) (Nat.le_trans BY.out (by omega))) (RV.Is.nin (RH.out.dig DD41.out) (Nat.le_trans BH.out (by omega))) (by omega)) ?_;rintro e w40 ⟨rfl,hx⟩;have H42:=zH (H35.out.step hx);have D42:=zH (Dig.of_ext hx);have K44:=zH (K37.out.trans (Fr.of_ext hx));clear hx;refine zn ?_;refine zp (.bool false) (by exact ezl (e:=(dec_f (fun hh=>(fun h_=>CL.out ⟨C1.out,h_⟩) (rcmp_lt.1 hh))))) ?_;refine zq (.bool false) ?_;go_wp2_with fail
  first|refine bodyPost_end (v:= .tuple #[]) (results_none rfl _ _ _) rfl ?_|refine bodyPost_ret (v:= .tuple #[]) (results_none rfl _ _ _) rfl ?_
  exact⟨rfl,A,c,n,es,H42.out.take 2,((D4.out.trans D35.out).trans D42.out),K44.out,(fun k_ hk_=> .inl hk_),(by rw[if_neg CL.out,List.append_nil]),HN.out,Nat.le_succ _,(fun g_ hg_=>(HOK.out g_ hg_).dig ((D4.out.trans D35.out).trans D42.out))⟩
 go_upto_region 1 with fail
 refine wl ?_;refine zd Xl (0) (rc rl) (K6.out.range GL.out NL.out) Tryz.underlying30 ?_;refine zI1 H4.out _ ?_;refine zc (pCmp (L:=60000) (RV.Is.nin (RL.out.dig D4.out) (Nat.le_trans BL.out (by omega))) (RV.Is.nin (RY.out.dig D4.out) (Nat.le_trans BY.out (by omega))) (by omega)) ?_;rintro e w47 ⟨rfl,hx⟩;have H48:=zH (H4.out.step hx);have D48:=zH (Dig.of_ext hx);have K50:=zH (K6.out.trans (Fr.of_ext hx));clear hx;refine zn ?_;refine zp (.bool false) (by exact ezl (e:=(dec_f (fun hh=>C1.out (rcmp_lt.1 hh))))) ?_;refine zI6 (Hp.start _) (.bool false) _ _ _ _ (.bool false) ?_;go_wp2_with fail
 first|refine bodyPost_end (v:= .tuple #[]) (results_none rfl _ _ _) rfl ?_|refine bodyPost_ret (v:= .tuple #[]) (results_none rfl _ _ _) rfl ?_
 exact⟨rfl,A,c,n,es,H48.out.take 2,(D4.out.trans D48.out),K50.out,(fun k_ hk_=> .inl hk_),(by rw[if_neg CL.out,List.append_nil]),HN.out,Nat.le_succ _,(fun g_ hg_=>(HOK.out g_ hg_).dig (D4.out.trans D48.out))⟩
end
section
theorem ptAt_range {w:World}{g o:Nat}{r:Ring}{k:Nat}{p:Int×Int}(h:PtsAt w g o r)(hp:r[k]?=some p):w.rangeAt g (o+k*2) [.int .i64 p.1,.int .i64 p.2]:=by
  obtain⟨hk,rfl⟩:=List.getElem?_eq_some_iff.1 hp;have h2:=h k hk;intro j v hj;match j,hj with
  |0,hj=>simp at hj;subst hj;have h3:=h2.1;simpa[List.getD_eq_getElem?_getD,hk]using h3
  |1,hj=>simp at hj;subst hj;have h3:=h2.2;simpa[List.getD_eq_getElem?_getD,hk,Nat.add_assoc]using h3
  |j+2,hj=>simp at hj
theorem okR_al {rs:List Ring}{r:Ring}(h:okR rs=true)(hr:r∈rs):okAll r=true:=by
  unfold okR at h;rw[Bool.and_eq_true]at h;exact List.all_eq_true.1 h.2 r hr
theorem okR_ptk {rs:List Ring}{r:Ring}{i k:Nat}{p:Int×Int}(h:okR rs=true)(hr:rs[i]?=some r)(hp:r[k]?=some p):okP p:=by
  have h2:=okR_al h (List.mem_of_getElem? hr);unfold okAll at h2;exact List.all_eq_true.1 h2 p (List.mem_of_getElem? hp)
theorem evP_take {a b:Int×Int}{rs:List Ring}{r:Ring}{i:Nat}(h:rs[i]?=some r):evP a b (rs.take (i+1))=evP a b (rs.take i)++r.flatMap (fun p=>btw a.2 b.2 (p.2:Rat)):=by
  unfold evP;rw[List.take_add_one,h,List.flatMap_append];simp
theorem Hp.litRow17 {w0 w:World}{m:List Ent}{i X n size:Nat}{t:TypeId}{cs:List Value}(h:Hp w0 w m)(hi:m[i]?=some (.blk X t cs))(hl:cs.length=n*size)(hn:n<=maxLen):RowN w w0.heap.size t size (.slice (some ⟨X,0,none⟩) n n) n cs:=
  ⟨hl,.inr ⟨X,n,[],rfl,h.ge hi rfl,by rw[List.append_nil];exact h.blk hi,Nat.le_refl _,hn,by simp[hl],by rw[List.append_nil];exact h.noU hi⟩⟩
theorem Dig.keptQ {w w':World}{r:Option Nat}(hg:w.grownBy w' r)(hr:∀k,r=some k->∃o:Obj,w.heap[k]?=some o/\o.isCells=false):Dig w w':=by
 intro v xs h;obtain⟨p,cap,rfl,hc,hd,hp⟩:=h;refine⟨p,cap,rfl,hc,hd,fun h0=> ?_⟩;obtain⟨b,o,rfl,hb⟩:=hp h0;refine⟨b,o,rfl,fun i hi=> ?_⟩;have h1:=hb i hi;have hne:¬(some b=r):=fun e=>by
  obtain⟨ob,h2,h3⟩:=hr b e.symm;cases ob with
  |cells cs t fz=>cases h3
  |_=>simp[World.cell?,h2]at h1
 rw[World.cell?_of_block (hg.block b (World.block_lt_of_cell? w ⟨b,o+i,none⟩ h1) hne)];exact h1
theorem Hp.keptQ {w0 w w':World}{m:List Ent}{r:Option Nat}(h:Hp w0 w m)(hg:w.grownBy w' r)(hr:∀k,r=some k->w0.heap.size<=k/\∃o:Obj,w.heap[k]?=some o/\o.isCells=false):Hp w0 w' m:=by
 refine⟨h.ext.grown hg (fun k hk=>(hr k hk).1),fun i e he=>(h.all i e he).kept hg (fun k hk hrk=> ?_),h.apart⟩;obtain⟨o,h2,h3⟩:=(hr k hrk).2;cases e with
 |blk g t cs=>
  injection hk with hk
  subst hk;have:=h.blk he;unfold Blk at this;rw[h2]at this;injection this with this
  rw[this]at h3;cases h3
 |row t size v n xs=>
  obtain⟨h4,⟨rfl,_⟩|⟨g,cap,rest,rfl,a,hb,c⟩⟩:=h.row he
  ·simp[Ent.own,Value.ownBlock]at hk
  have hk:g=k:=by simpa[Ent.own,Value.ownBlock]using hk
  subst hk;unfold Blk at hb;rw[h2]at hb;injection hb with hb
  rw[hb]at h3;cases h3
theorem lit2_get {w0 w:World}{m:List Ent}{i X:Nat}{t:TypeId}{p q:Int}(h:Hp w0 w m)(hi:m[i]?=some (.blk X t [.int .i64 p,.int .i64 q]))(k:Nat)(hk:k<2):w.rangeAt X k [.int .i64 (if k=0 then p else q)]:=by
  have:k=0\/k=1:=by omega
  rcases this with rfl|rfl
  · exact h.range hi 0 1
  exact h.range hi 1 1
theorem AtRet.yes {C:Prop}{q:Rat}{w w':World}{e:Ending}(h:AtRet C q w e w')(hc:C):∃r:RV,e= .returned (.tuple #[.agg #[.bool r.n,.slice r.p r.l r.c,.bool r.m,.slice r.p2 r.l2 r.c2],.bool true])/\r.Is w' q/\Ext w w':=by
  obtain⟨⟨r,_,h1,h2⟩|⟨h1,_⟩,hx⟩:=h
  · exact⟨r,h1,h2,hx⟩
  exact absurd hc h1
theorem AtRet.no {C:Prop}{q:Rat}{w w':World}{e:Ending}(h:AtRet C q w e w')(hc:¬C):e= .returned (.tuple #[.agg z4,.bool false])/\Ext w w':=by
  obtain⟨⟨r,h0,h1,h2⟩|⟨_,h1⟩,hx⟩:=h
  · exact absurd h0 hc
  exact⟨h1,hx⟩
theorem SegRet.yes {a b c d:Int×Int}{w w':World}{e:Ending}(h:SegRet a b c d w e w')(hc:segN a b c d=1):∃r s:RV,e= .returned (.tuple #[.agg #[.bool r.n,.slice r.p r.l r.c,.bool r.m,.slice r.p2 r.l2 r.c2],.agg #[.bool s.n,.slice s.p s.l s.c,.bool s.m,.slice s.p2 s.l2 s.c2],.int .i64 1])/\r.Is w' (segX a b c d)/\s.Is w' (segY a b c d)/\Ext w w':=by
  obtain⟨⟨r,s,_,h1,h2,h3⟩|⟨h1,_⟩,hx⟩:=h
  · exact⟨r,s,h1,h2,h3,hx⟩
  exact absurd hc h1
theorem SegRet.no {a b c d:Int×Int}{w w':World}{e:Ending}(h:SegRet a b c d w e w')(hc:¬segN a b c d=1):e= .returned (.tuple #[.agg z4,.agg z4,.int .i64 (segN a b c d)])/\Ext w w':=by
  obtain⟨⟨r,s,h0,h1,h2,h3⟩|⟨_,h1⟩,hx⟩:=h
  · exact absurd h0 hc
  exact⟨h1,hx⟩
theorem yatL_yes {e:Edge}{x:Int}(h:yatC e.1 e.2 x):yatL e x=[yatQ e.1 e.2 x]:=if_pos h
theorem yatL_no {e:Edge}{x:Int}(h:¬yatC e.1 e.2 x):yatL e x=[]:=if_neg h
theorem segL_yes {o e:Edge}(h:segN o.1 o.2 e.1 e.2=1):segL o e=[segY o.1 o.2 e.1 e.2]:=if_pos h
theorem segL_no {o e:Edge}(h:¬segN o.1 o.2 e.1 e.2=1):segL o e=[]:=if_neg h
def yatP (a b:Int×Int)(e:Edge)(k:Nat):List Rat:=(if 1<=k then(yatL e a.1).flatMap (btw a.2 b.2)else[])++(if 2<=k then(yatL e b.1).flatMap (btw a.2 b.2)else[])
theorem yatP_succ (a b:Int×Int)(e:Edge)(k:Nat)(hk:k<2):yatP a b e (k+1)=yatP a b e k++(yatL e (if k=0 then a.1 else b.1)).flatMap (btw a.2 b.2):=by
  have:k=0\/k=1:=by omega
  rcases this with rfl|rfl<;>simp[yatP]
theorem Fr.trans_fr {G G':Nat->Prop}{a b c:World}(h:Fr G a b)(k:Fr G' b c)(hG:∀j,G' j->G j\/a.heap.size<=j):Fr G a c:=
  ⟨k.os.trans h.os,k.tape.trans h.tape,k.output.trans h.output,Nat.le_trans h.size k.size,fun i hi hn=>(k.block i (Nat.lt_of_lt_of_le hi h.size) (fun g=>(hG i g).elim hn (fun h2=>by omega))).trans (h.block i hi hn)⟩
theorem Hp.addTyp3 {w0 w:World}{m:List Ent}{X Y B:Nat}{T:TypeId}{zs us:List Value}(h:Hp w0 w m)(B1:Blk w X T zs.toArray)(B2:Blk w Y T us.toArray)(hne:X≠Y)(hB:w0.heap.size<=B)(z1:B<=X)(z2:B<=Y)(n1:NoUL zs)(n2:NoUL us)
  (ht:∀e,e∈m->e.typ≠T\/∀k,e.own=some k->k<B):Hp w0 w (m++[.blk X T zs]++[.blk Y T us]):=by
 have h1:Hp w0 w (m++[.blk X T zs]):=h.add ⟨Nat.le_trans hB z1,B1,n1⟩ (fun i f hf k hk e=>by
  injection e with e
  subst e;rcases ht f (List.mem_of_getElem? hf)with h2|h2
  ·exact h2 (h.typ hf B1 hk)
  have:=h2 _ hk;omega)
 refine h1.add ⟨Nat.le_trans hB z2,B2,n2⟩ (fun i f hf k hk e=> ?_);injection e with e
 subst e;rcases List.mem_append.1 (List.mem_of_getElem? hf)with hm|hm
 ·obtain⟨j,hj⟩:=List.mem_iff_getElem?.1 hm
  rcases ht f hm with h2|h2
  ·exact h2 (h.typ hj B2 hk)
  have:=h2 _ hk;omega
 simp at hm;subst hm;injection hk with hk
 exact hne hk
def bodyPostQ (F:Fence)(n:Nat)(P:Program)(fn:Func)(R:Ending->World->Prop):Exit->Act->World->Prop
  | .normal,a,w| .ret,a,w=>LeavesInM F n P fn a.tmps R a.defers .returning w
  |_,_,_=>False
theorem bodyPostQ.m {F:Fence}{n:Nat}{P:Program}{fn:Func}{R:Ending->World->Prop}:∀e a w,bodyPostQ F n P fn R e a w->bodyPostM F n P fn R e a w:=by
  intro e a w h;cases e<;>first|exact h|exact h.elim
end
section
attribute [local go_sem ↓] Go.wp_at_zero Go.wp_at_succ run_max_ii run_min_ii
structure EdE where
  a:Int×Int
  b:Int×Int
  r:Nat
  i:Nat
  n:Nat
def EdE.cells (e:EdE):List Value:=[.int .i64 e.a.1,.int .i64 e.a.2,.int .i64 e.b.1,.int .i64 e.b.2,.int .i64 (e.r:Int),.int .i64 (e.i:Int),.int .i64 (e.n:Int)]
theorem EdE.len (e:EdE):e.cells.length=7:=rfl
theorem EdE.nou (e:EdE):NoUL e.cells:=by simp[EdE.cells,NoUL]
def EdE.Bd (e:EdE):Prop:=okP e.a/\okP e.b/\e.r<=1048576/\e.i<e.n/\e.n<=4096
def EdE.e (x:EdE):Edge:=(x.a,x.b)
def adjB (x y:EdE):Bool:=decide (x.r=y.r)&&(decide ((x.i+1)%x.n=y.i)||decide ((y.i+1)%y.n=x.i))
def djB (x y:EdE):Bool:=decide (max x.a.1 x.b.1<min y.a.1 y.b.1)||(decide (max y.a.1 y.b.1<min x.a.1 x.b.1)||(decide (max x.a.2 x.b.2<min y.a.2 y.b.2)||decide (max y.a.2 y.b.2<min x.a.2 x.b.2)))
theorem adjacent_any (ex ey:EdE)(w:World)(hx:ex.Bd)(hy:ey.Bd):
  Calls Tryz.prog 53 #[.agg #[.int .i64 ex.a.1,.int .i64 ex.a.2,.int .i64 ex.b.1,.int .i64 ex.b.2,.int .i64 ((ex.r:Nat):Int),.int .i64 ((ex.i:Nat):Int),.int .i64 ((ex.n:Nat):Int)],.agg #[.int .i64 ey.a.1,.int .i64 ey.a.2,.int .i64 ey.b.1,.int .i64 ey.b.2,.int .i64 ((ey.r:Nat):Int),.int .i64 ((ey.i:Nat):Int),.int .i64 ((ey.n:Nat):Int)]] w fun e w'=>e= .returned (.bool (adjB ex ey))/\Ext w w':=by
 have hx1:=hx.2.2;have hy1:=hy.2.2;obtain⟨j1,hj1⟩:∃j,(ex.i+1)%ex.n=j:=⟨_,rfl⟩;obtain⟨j2,hj2⟩:∃j,(ey.i+1)%ey.n=j:=⟨_,rfl⟩;have HJ1:=zH hj1;have HJ2:=zH hj2;have HM1:=zH (show Int.tmod (((ex.i+1:Nat):Int)) ((ex.n:Nat):Int)=(j1:Int)from by rw[<-hj1];rfl);have HM2:=zH (show Int.tmod (((ey.i+1:Nat):Int)) ((ey.n:Nat):Int)=(j2:Int)from by rw[<-hj2];rfl);have hj1b:j1<ex.n:=by rw[<-hj1];exact Nat.mod_lt _ (by omega)
 have hj2b:j2<ey.n:=by rw[<-hj2];exact Nat.mod_lt _ (by omega)
 clear hj1 hj2 hx hy;obtain⟨xr,xi,xn⟩:=hx1;obtain⟨yr,yi,yn⟩:=hy1;go_enter Tryz.func53,Tryz.ntmps53
 have H0:=zH (Hp.start w);go_upto_region 0 with fail
 refine wl ?_;refine aA' 89 [.int .i64 ex.a.1,.int .i64 ex.a.2,.int .i64 ex.b.1,.int .i64 ex.b.2,.int .i64 ((ex.r:Nat):Int),.int .i64 ((ex.i:Nat):Int),.int .i64 ((ex.n:Nat):Int)] H0.out ?_;intro X1 w2 H3 _;refine aA' 89 [.int .i64 ey.a.1,.int .i64 ey.a.2,.int .i64 ey.b.1,.int .i64 ey.b.2,.int .i64 ((ey.r:Nat):Int),.int .i64 ((ey.i:Nat):Int),.int .i64 ((ey.n:Nat):Int)] H3.out ?_;intro X6 w7 H8 _;refine zq (.bool false) ?_;rcases emH (ex.r=ey.r)with C1|C1
 ·rcases emH (j1=ey.i)with C2|C2
  ·go_upto_region 1 with fail
   refine zy ?_;have H14:=zH (H8.out.step (Ext.refl w7).drew);refine zJ4 H8.out zb (bs 28 15) 0 1 2 3 _ _ _ _ ?_;refine zu 4 (bs 28 31) (v:= .bool true) zb ?_ (hv:=by intro w hSw;exact ezq (e:=(dec_t (by have h_:=C1.out;omega))));refine zJ3 H8.out zb (bs 28 255) 5 6 7 (.bool true) _ _ ?_;refine zu 8 (bs 28 511) (v:= .int .i64 ((ex.i+1:Nat):Int)) zb ?_ (hv:=by intro w hSw;exact ez1 (by omega));refine zJ2 H8.out zb (bs 28 2047) 9 10 _ _ ?_;refine zu 11 (bs 28 4095) (v:= .int .i64 (j1:Int)) zb ?_ (hv:=by intro w hSw;exact ev_rem rR rR rR (by omega) HM1.out (by omega) (by omega));refine zJ2 H8.out zb (bs 28 16383) 12 13 _ _ ?_;refine zu 14 (bs 28 32767) (v:= .bool true) zb ?_ (hv:=by intro w hSw;exact ezq (e:=(dec_t (by have h_:=C2.out;omega))));refine zJ8 (Hp.start _) zb (bs 28 8388607) 15 16 17 18 19 20 21 22 (.bool true) _ _ _ _ _ _ _ ?_;refine zJ5 (Hp.start _) zb (bs 28 268435455) 23 24 25 26 27 _ _ (.bool true) (.bool true) (.bool true) ?_;refine wpAnyH_done kR ?_ _;go_wp2_with fail
   go_ret
   exact⟨by rw[show adjB ex ey=true from by unfold adjB;rw[HJ1.out,HJ2.out];simp[C1.out,C2.out]];rfl,H14.out.ext⟩
  rcases emH (j2=ex.i)with C3|C3
  ·go_upto_region 1 with fail
   refine zy ?_;have H31:=zH (H8.out.step (Ext.refl w7).drew);refine zJ4 H8.out zb (bs 28 15) 0 1 2 3 _ _ _ _ ?_;refine zu 4 (bs 28 31) (v:= .bool true) zb ?_ (hv:=by intro w hSw;exact ezq (e:=(dec_t (by have h_:=C1.out;omega))));refine zJ3 H8.out zb (bs 28 255) 5 6 7 (.bool true) _ _ ?_;refine zu 8 (bs 28 511) (v:= .int .i64 ((ex.i+1:Nat):Int)) zb ?_ (hv:=by intro w hSw;exact ez1 (by omega));refine zJ2 H8.out zb (bs 28 2047) 9 10 _ _ ?_;refine zu 11 (bs 28 4095) (v:= .int .i64 (j1:Int)) zb ?_ (hv:=by intro w hSw;exact ev_rem rR rR rR (by omega) HM1.out (by omega) (by omega));refine zJ2 H8.out zb (bs 28 16383) 12 13 _ _ ?_;refine zu 14 (bs 28 32767) (v:= .bool false) zb ?_ (hv:=by intro w hSw;exact ezq (e:=(dec_f (by have h_:=C2.out;omega))));refine zJ3 H8.out zb (bs 28 262143) 15 16 17 (.bool false) _ _ ?_;refine zu 18 (bs 28 524287) (v:= .int .i64 ((ey.i+1:Nat):Int)) zb ?_ (hv:=by intro w hSw;exact ez1 (by omega));refine zJ2 H8.out zb (bs 28 2097151) 19 20 _ _ ?_;refine zu 21 (bs 28 4194303) (v:= .int .i64 (j2:Int)) zb ?_ (hv:=by intro w hSw;exact ev_rem rR rR rR (by omega) HM2.out (by omega) (by omega));refine zJ2 H8.out zb (bs 28 16777215) 22 23 _ _ ?_;refine zu 24 (bs 28 33554431) (v:= .bool true) zb ?_ (hv:=by intro w hSw;exact ezq (e:=(dec_t (by have h_:=C3.out;omega))));refine zJ3 (Hp.start _) zb (bs 28 268435455) 25 26 27 (.bool true) (.bool true) (.bool true) ?_;refine wpAnyH_done kR ?_ _;go_wp2_with fail
   go_ret
   exact⟨by rw[show adjB ex ey=true from by unfold adjB;rw[HJ1.out,HJ2.out];simp[C1.out,C3.out]];rfl,H31.out.ext⟩
  go_upto_region 1 with fail
  refine zy ?_;have H53:=zH (H8.out.step (Ext.refl w7).drew);refine zJ4 H8.out zb (bs 28 15) 0 1 2 3 _ _ _ _ ?_;refine zu 4 (bs 28 31) (v:= .bool true) zb ?_ (hv:=by intro w hSw;exact ezq (e:=(dec_t (by have h_:=C1.out;omega))));refine zJ3 H8.out zb (bs 28 255) 5 6 7 (.bool true) _ _ ?_;refine zu 8 (bs 28 511) (v:= .int .i64 ((ex.i+1:Nat):Int)) zb ?_ (hv:=by intro w hSw;exact ez1 (by omega));refine zJ2 H8.out zb (bs 28 2047) 9 10 _ _ ?_;refine zu 11 (bs 28 4095) (v:= .int .i64 (j1:Int)) zb ?_ (hv:=by intro w hSw;exact ev_rem rR rR rR (by omega) HM1.out (by omega) (by omega));refine zJ2 H8.out zb (bs 28 16383) 12 13 _ _ ?_;refine zu 14 (bs 28 32767) (v:= .bool false) zb ?_ (hv:=by intro w hSw;exact ezq (e:=(dec_f (by have h_:=C2.out;omega))));refine zJ3 H8.out zb (bs 28 262143) 15 16 17 (.bool false) _ _ ?_;refine zu 18 (bs 28 524287) (v:= .int .i64 ((ey.i+1:Nat):Int)) zb ?_ (hv:=by intro w hSw;exact ez1 (by omega));refine zJ2 H8.out zb (bs 28 2097151) 19 20 _ _ ?_;refine zu 21 (bs 28 4194303) (v:= .int .i64 (j2:Int)) zb ?_ (hv:=by intro w hSw;exact ev_rem rR rR rR (by omega) HM2.out (by omega) (by omega));refine zJ2 H8.out zb (bs 28 16777215) 22 23 _ _ ?_;refine zu 24 (bs 28 33554431) (v:= .bool false) zb ?_ (hv:=by intro w hSw;exact ezq (e:=(dec_f (by have h_:=C3.out;omega))));refine zJ3 (Hp.start _) zb (bs 28 268435455) 25 26 27 (.bool false) (.bool false) (.bool false) ?_;refine wpAnyH_done kR ?_ _;go_wp2_with fail
  go_ret
  exact⟨by rw[show adjB ex ey=false from by unfold adjB;rw[HJ1.out,HJ2.out];simp[C1.out,C2.out,C3.out]];rfl,H53.out.ext⟩
 go_upto_region 1 with fail
 refine zy ?_;have H75:=zH (H8.out.step (Ext.refl w7).drew);refine zJ4 H8.out zb (bs 28 15) 0 1 2 3 _ _ _ _ ?_;refine zu 4 (bs 28 31) (v:= .bool false) zb ?_ (hv:=by intro w hSw;exact ezq (e:=(dec_f (by have h_:=C1.out;omega))));refine zJ8 (Hp.start _) zb (bs 28 8191) 5 6 7 8 9 10 11 12 (.bool false) _ _ _ _ _ _ _ ?_;refine zJ8 (Hp.start _) zb (bs 28 2097151) 13 14 15 16 17 18 19 20 _ _ _ _ _ _ _ _ ?_;refine zJ7 (Hp.start _) zb (bs 28 268435455) 21 22 23 24 25 26 27 _ _ _ _ _ (.bool false) (.bool false) ?_;refine wpAnyH_done kR ?_ _;go_wp2_with fail
 go_ret
 exact⟨by rw[show adjB ex ey=false from by unfold adjB;rw[HJ1.out,HJ2.out];simp[C1.out]];rfl,H75.out.ext⟩
theorem disjoint_any (ex ey:EdE)(w:World):
  Calls Tryz.prog 54 #[.agg #[.int .i64 ex.a.1,.int .i64 ex.a.2,.int .i64 ex.b.1,.int .i64 ex.b.2,.int .i64 ((ex.r:Nat):Int),.int .i64 ((ex.i:Nat):Int),.int .i64 ((ex.n:Nat):Int)],.agg #[.int .i64 ey.a.1,.int .i64 ey.a.2,.int .i64 ey.b.1,.int .i64 ey.b.2,.int .i64 ((ey.r:Nat):Int),.int .i64 ((ey.i:Nat):Int),.int .i64 ((ey.n:Nat):Int)]] w fun e w'=>e= .returned (.bool (djB ex ey))/\Ext w w':=by
 go_enter Tryz.func54,Tryz.ntmps54
 have H0:=zH (Hp.start w);go_upto_region 0 with fail
 refine wl ?_;refine aA' 89 [.int .i64 ex.a.1,.int .i64 ex.a.2,.int .i64 ex.b.1,.int .i64 ex.b.2,.int .i64 ((ex.r:Nat):Int),.int .i64 ((ex.i:Nat):Int),.int .i64 ((ex.n:Nat):Int)] H0.out ?_;intro X83 w84 H85 _;refine aA' 89 [.int .i64 ey.a.1,.int .i64 ey.a.2,.int .i64 ey.b.1,.int .i64 ey.b.2,.int .i64 ((ey.r:Nat):Int),.int .i64 ((ey.i:Nat):Int),.int .i64 ((ey.n:Nat):Int)] H85.out ?_;intro X88 w89 H90 _;refine zq (.bool false) ?_;rcases emH (max ex.a.1 ex.b.1<min ey.a.1 ey.b.1)with C0|C0
 ·go_upto_region 1 with fail
  refine wl ?_;simp only[List.append_eq,List.cons_append,List.nil_append];refine zI8 H90.out _ _ _ _ _ _ (.int .i64 (max ex.a.1 ex.b.1)) _ ?_;refine zI6 H90.out _ _ _ _ _ (.int .i64 (min ey.a.1 ey.b.1)) ?_;refine zp (.bool true) (by exact ezl (e:=(dec_t C0.out))) ?_;refine zq (.bool true) ?_;with_reducible refine mv_skip ?_ ?_
  ·rfl
  try simp only[Act.put,zA,zB,zC]
  with_reducible refine mv_skip ?_ ?_
  ·rfl
  try simp only[Act.put,zA,zB,zC]
  with_reducible refine mv_skip ?_ ?_
  ·rfl
  try simp only[Act.put,zA,zB,zC]
  with_reducible refine mv_skip ?_ ?_
  ·rfl
  try simp only[Act.put,zA,zB,zC]
  with_reducible refine mv_skip ?_ ?_
  ·rfl
  try simp only[Act.put,zA,zB,zC]
  with_reducible refine mv_skip ?_ ?_
  ·rfl
  try simp only[Act.put,zA,zB,zC]
  with_reducible refine mv_skip ?_ ?_
  ·rfl
  try simp only[Act.put,zA,zB,zC]
  with_reducible refine mv_skip ?_ ?_
  ·rfl
  try simp only[Act.put,zA,zB,zC]
  with_reducible refine mv_skip ?_ ?_
  ·rfl
  try simp only[Act.put,zA,zB,zC]
  with_reducible refine mv_skip ?_ ?_
  ·rfl
  try simp only[Act.put,zA,zB,zC]
  with_reducible refine mv_skip ?_ ?_
  ·rfl
  try simp only[Act.put,zA,zB,zC]
  with_reducible refine mv_skip ?_ ?_
  ·rfl
  try simp only[Act.put,zA,zB,zC]
  with_reducible refine mv_skip ?_ ?_
  ·rfl
  try simp only[Act.put,zA,zB,zC]
  with_reducible refine mv_skip ?_ ?_
  ·rfl
  try simp only[Act.put,zA,zB,zC]
  with_reducible refine mv_skip ?_ ?_
  ·rfl
  try simp only[Act.put,zA,zB,zC]
  refine zI2 (Hp.start _) (.bool true) (.bool true) ?_;with_reducible refine mv_skip ?_ ?_
  ·rfl
  try simp only[Act.put,zA,zB,zC]
  with_reducible refine mv_skip ?_ ?_
  ·rfl
  try simp only[Act.put,zA,zB,zC]
  with_reducible refine mv_skip ?_ ?_
  ·rfl
  try simp only[Act.put,zA,zB,zC]
  with_reducible refine mv_skip ?_ ?_
  ·rfl
  try simp only[Act.put,zA,zB,zC]
  with_reducible refine mv_skip ?_ ?_
  ·rfl
  try simp only[Act.put,zA,zB,zC]
  with_reducible refine mv_skip ?_ ?_
  ·rfl
  try simp only[Act.put,zA,zB,zC]
  with_reducible refine mv_skip ?_ ?_
  ·rfl
  try simp only[Act.put,zA,zB,zC]
  with_reducible refine mv_skip ?_ ?_
  ·rfl
  try simp only[Act.put,zA,zB,zC]
  with_reducible refine mv_skip ?_ ?_
  ·rfl
  try simp only[Act.put,zA,zB,zC]
  with_reducible refine mv_skip ?_ ?_
  ·rfl
  try simp only[Act.put,zA,zB,zC]
  with_reducible refine mv_skip ?_ ?_
  ·rfl
  try simp only[Act.put,zA,zB,zC]
  with_reducible refine mv_skip ?_ ?_
  ·rfl
  try simp only[Act.put,zA,zB,zC]
  with_reducible refine mv_skip ?_ ?_
  ·rfl
  try simp only[Act.put,zA,zB,zC]
  with_reducible refine mv_skip ?_ ?_
  ·rfl
  try simp only[Act.put,zA,zB,zC]
  with_reducible refine mv_skip ?_ ?_
  ·rfl
  try simp only[Act.put,zA,zB,zC]
  refine zI2 (Hp.start _) (.bool true) (.bool true) ?_;with_reducible refine mv_skip ?_ ?_
  ·rfl
  try simp only[Act.put,zA,zB,zC]
  with_reducible refine mv_skip ?_ ?_
  ·rfl
  try simp only[Act.put,zA,zB,zC]
  with_reducible refine mv_skip ?_ ?_
  ·rfl
  try simp only[Act.put,zA,zB,zC]
  with_reducible refine mv_skip ?_ ?_
  ·rfl
  try simp only[Act.put,zA,zB,zC]
  with_reducible refine mv_skip ?_ ?_
  ·rfl
  try simp only[Act.put,zA,zB,zC]
  with_reducible refine mv_skip ?_ ?_
  ·rfl
  try simp only[Act.put,zA,zB,zC]
  with_reducible refine mv_skip ?_ ?_
  ·rfl
  try simp only[Act.put,zA,zB,zC]
  with_reducible refine mv_skip ?_ ?_
  ·rfl
  try simp only[Act.put,zA,zB,zC]
  with_reducible refine mv_skip ?_ ?_
  ·rfl
  try simp only[Act.put,zA,zB,zC]
  with_reducible refine mv_skip ?_ ?_
  ·rfl
  try simp only[Act.put,zA,zB,zC]
  with_reducible refine mv_skip ?_ ?_
  ·rfl
  try simp only[Act.put,zA,zB,zC]
  with_reducible refine mv_skip ?_ ?_
  ·rfl
  try simp only[Act.put,zA,zB,zC]
  with_reducible refine mv_skip ?_ ?_
  ·rfl
  try simp only[Act.put,zA,zB,zC]
  with_reducible refine mv_skip ?_ ?_
  ·rfl
  try simp only[Act.put,zA,zB,zC]
  with_reducible refine mv_skip ?_ ?_
  ·rfl
  try simp only[Act.put,zA,zB,zC]
  refine zI2 (Hp.start _) (.bool true) (.bool true) ?_;go_wp2_with fail
  go_ret
  exact⟨by rw[show djB ex ey=true from by unfold djB;simp only[decide_eq_true C0.out,Bool.true_or]];rfl,H90.out.ext⟩
 rcases emH (max ey.a.1 ey.b.1<min ex.a.1 ex.b.1)with C1|C1
 ·go_upto_region 1 with fail
  refine wl ?_;simp only[List.append_eq,List.cons_append,List.nil_append];refine zI8 H90.out _ _ _ _ _ _ (.int .i64 (max ex.a.1 ex.b.1)) _ ?_;refine zI6 H90.out _ _ _ _ _ (.int .i64 (min ey.a.1 ey.b.1)) ?_;refine zp (.bool false) (by exact ezl (e:=(dec_f C0.out))) ?_;refine zI8 H90.out (.bool false) _ _ _ _ _ _ (.int .i64 (max ey.a.1 ey.b.1)) ?_;refine zI7 H90.out _ _ _ _ _ _ (.int .i64 (min ex.a.1 ex.b.1)) ?_;refine zp (.bool true) (by exact ezl (e:=(dec_t C1.out))) ?_;refine zI2 (Hp.start _) (.bool true) (.bool true) ?_;with_reducible refine mv_skip ?_ ?_
  ·rfl
  try simp only[Act.put,zA,zB,zC]
  with_reducible refine mv_skip ?_ ?_
  ·rfl
  try simp only[Act.put,zA,zB,zC]
  with_reducible refine mv_skip ?_ ?_
  ·rfl
  try simp only[Act.put,zA,zB,zC]
  with_reducible refine mv_skip ?_ ?_
  ·rfl
  try simp only[Act.put,zA,zB,zC]
  with_reducible refine mv_skip ?_ ?_
  ·rfl
  try simp only[Act.put,zA,zB,zC]
  with_reducible refine mv_skip ?_ ?_
  ·rfl
  try simp only[Act.put,zA,zB,zC]
  with_reducible refine mv_skip ?_ ?_
  ·rfl
  try simp only[Act.put,zA,zB,zC]
  with_reducible refine mv_skip ?_ ?_
  ·rfl
  try simp only[Act.put,zA,zB,zC]
  with_reducible refine mv_skip ?_ ?_
  ·rfl
  try simp only[Act.put,zA,zB,zC]
  with_reducible refine mv_skip ?_ ?_
  ·rfl
  try simp only[Act.put,zA,zB,zC]
  with_reducible refine mv_skip ?_ ?_
  ·rfl
  try simp only[Act.put,zA,zB,zC]
  with_reducible refine mv_skip ?_ ?_
  ·rfl
  try simp only[Act.put,zA,zB,zC]
  with_reducible refine mv_skip ?_ ?_
  ·rfl
  try simp only[Act.put,zA,zB,zC]
  with_reducible refine mv_skip ?_ ?_
  ·rfl
  try simp only[Act.put,zA,zB,zC]
  with_reducible refine mv_skip ?_ ?_
  ·rfl
  try simp only[Act.put,zA,zB,zC]
  refine zI2 (Hp.start _) (.bool true) (.bool true) ?_;with_reducible refine mv_skip ?_ ?_
  ·rfl
  try simp only[Act.put,zA,zB,zC]
  with_reducible refine mv_skip ?_ ?_
  ·rfl
  try simp only[Act.put,zA,zB,zC]
  with_reducible refine mv_skip ?_ ?_
  ·rfl
  try simp only[Act.put,zA,zB,zC]
  with_reducible refine mv_skip ?_ ?_
  ·rfl
  try simp only[Act.put,zA,zB,zC]
  with_reducible refine mv_skip ?_ ?_
  ·rfl
  try simp only[Act.put,zA,zB,zC]
  with_reducible refine mv_skip ?_ ?_
  ·rfl
  try simp only[Act.put,zA,zB,zC]
  with_reducible refine mv_skip ?_ ?_
  ·rfl
  try simp only[Act.put,zA,zB,zC]
  with_reducible refine mv_skip ?_ ?_
  ·rfl
  try simp only[Act.put,zA,zB,zC]
  with_reducible refine mv_skip ?_ ?_
  ·rfl
  try simp only[Act.put,zA,zB,zC]
  with_reducible refine mv_skip ?_ ?_
  ·rfl
  try simp only[Act.put,zA,zB,zC]
  with_reducible refine mv_skip ?_ ?_
  ·rfl
  try simp only[Act.put,zA,zB,zC]
  with_reducible refine mv_skip ?_ ?_
  ·rfl
  try simp only[Act.put,zA,zB,zC]
  with_reducible refine mv_skip ?_ ?_
  ·rfl
  try simp only[Act.put,zA,zB,zC]
  with_reducible refine mv_skip ?_ ?_
  ·rfl
  try simp only[Act.put,zA,zB,zC]
  with_reducible refine mv_skip ?_ ?_
  ·rfl
  try simp only[Act.put,zA,zB,zC]
  refine zI2 (Hp.start _) (.bool true) (.bool true) ?_;go_wp2_with fail
  go_ret
  exact⟨by rw[show djB ex ey=true from by unfold djB;simp only[decide_eq_true C1.out,Bool.true_or,Bool.or_true]];rfl,H90.out.ext⟩
 rcases emH (max ex.a.2 ex.b.2<min ey.a.2 ey.b.2)with C2|C2
 ·go_upto_region 1 with fail
  refine wl ?_;simp only[List.append_eq,List.cons_append,List.nil_append];refine zI8 H90.out _ _ _ _ _ _ (.int .i64 (max ex.a.1 ex.b.1)) _ ?_;refine zI6 H90.out _ _ _ _ _ (.int .i64 (min ey.a.1 ey.b.1)) ?_;refine zp (.bool false) (by exact ezl (e:=(dec_f C0.out))) ?_;refine zI8 H90.out (.bool false) _ _ _ _ _ _ (.int .i64 (max ey.a.1 ey.b.1)) ?_;refine zI7 H90.out _ _ _ _ _ _ (.int .i64 (min ex.a.1 ex.b.1)) ?_;refine zp (.bool false) (by exact ezl (e:=(dec_f C1.out))) ?_;refine zI8 H90.out (.bool false) (.bool false) _ _ _ _ _ _ ?_;refine zI8 H90.out (.int .i64 (max ex.a.2 ex.b.2)) _ _ _ _ _ _ (.int .i64 (min ey.a.2 ey.b.2)) ?_;refine zp (.bool true) (by exact ezl (e:=(dec_t C2.out))) ?_;refine zI2 (Hp.start _) (.bool true) (.bool true) ?_;with_reducible refine mv_skip ?_ ?_
  ·rfl
  try simp only[Act.put,zA,zB,zC]
  with_reducible refine mv_skip ?_ ?_
  ·rfl
  try simp only[Act.put,zA,zB,zC]
  with_reducible refine mv_skip ?_ ?_
  ·rfl
  try simp only[Act.put,zA,zB,zC]
  with_reducible refine mv_skip ?_ ?_
  ·rfl
  try simp only[Act.put,zA,zB,zC]
  with_reducible refine mv_skip ?_ ?_
  ·rfl
  try simp only[Act.put,zA,zB,zC]
  with_reducible refine mv_skip ?_ ?_
  ·rfl
  try simp only[Act.put,zA,zB,zC]
  with_reducible refine mv_skip ?_ ?_
  ·rfl
  try simp only[Act.put,zA,zB,zC]
  with_reducible refine mv_skip ?_ ?_
  ·rfl
  try simp only[Act.put,zA,zB,zC]
  with_reducible refine mv_skip ?_ ?_
  ·rfl
  try simp only[Act.put,zA,zB,zC]
  with_reducible refine mv_skip ?_ ?_
  ·rfl
  try simp only[Act.put,zA,zB,zC]
  with_reducible refine mv_skip ?_ ?_
  ·rfl
  try simp only[Act.put,zA,zB,zC]
  with_reducible refine mv_skip ?_ ?_
  ·rfl
  try simp only[Act.put,zA,zB,zC]
  with_reducible refine mv_skip ?_ ?_
  ·rfl
  try simp only[Act.put,zA,zB,zC]
  with_reducible refine mv_skip ?_ ?_
  ·rfl
  try simp only[Act.put,zA,zB,zC]
  with_reducible refine mv_skip ?_ ?_
  ·rfl
  try simp only[Act.put,zA,zB,zC]
  refine zI2 (Hp.start _) (.bool true) (.bool true) ?_;go_wp2_with fail
  go_ret
  exact⟨by rw[show djB ex ey=true from by unfold djB;simp only[decide_eq_true C2.out,Bool.true_or,Bool.or_true]];rfl,H90.out.ext⟩
 rcases emH (max ey.a.2 ey.b.2<min ex.a.2 ex.b.2)with C3|C3
 ·go_upto_region 1 with fail
  refine wl ?_;simp only[List.append_eq,List.cons_append,List.nil_append];refine zI8 H90.out _ _ _ _ _ _ (.int .i64 (max ex.a.1 ex.b.1)) _ ?_;refine zI6 H90.out _ _ _ _ _ (.int .i64 (min ey.a.1 ey.b.1)) ?_;refine zp (.bool false) (by exact ezl (e:=(dec_f C0.out))) ?_;refine zI8 H90.out (.bool false) _ _ _ _ _ _ (.int .i64 (max ey.a.1 ey.b.1)) ?_;refine zI7 H90.out _ _ _ _ _ _ (.int .i64 (min ex.a.1 ex.b.1)) ?_;refine zp (.bool false) (by exact ezl (e:=(dec_f C1.out))) ?_;refine zI8 H90.out (.bool false) (.bool false) _ _ _ _ _ _ ?_;refine zI8 H90.out (.int .i64 (max ex.a.2 ex.b.2)) _ _ _ _ _ _ (.int .i64 (min ey.a.2 ey.b.2)) ?_;refine zp (.bool false) (by exact ezl (e:=(dec_f C2.out))) ?_;refine zI8 H90.out (.bool false) (.bool false) _ _ _ _ _ _ ?_;refine zI8 H90.out (.int .i64 (max ey.a.2 ey.b.2)) _ _ _ _ _ _ (.int .i64 (min ex.a.2 ex.b.2)) ?_;refine zp (.bool true) (by exact ezl (e:=(dec_t C3.out))) ?_;refine zI2 (Hp.start _) (.bool true) (.bool true) ?_;go_wp2_with fail
  go_ret
  exact⟨by rw[show djB ex ey=true from by unfold djB;simp only[decide_eq_true C3.out,Bool.or_true]];rfl,H90.out.ext⟩
 go_upto_region 1 with fail
 refine wl ?_;simp only[List.append_eq,List.cons_append,List.nil_append];refine zI8 H90.out _ _ _ _ _ _ (.int .i64 (max ex.a.1 ex.b.1)) _ ?_;refine zI6 H90.out _ _ _ _ _ (.int .i64 (min ey.a.1 ey.b.1)) ?_;refine zp (.bool false) (by exact ezl (e:=(dec_f C0.out))) ?_;refine zI8 H90.out (.bool false) _ _ _ _ _ _ (.int .i64 (max ey.a.1 ey.b.1)) ?_;refine zI7 H90.out _ _ _ _ _ _ (.int .i64 (min ex.a.1 ex.b.1)) ?_;refine zp (.bool false) (by exact ezl (e:=(dec_f C1.out))) ?_;refine zI8 H90.out (.bool false) (.bool false) _ _ _ _ _ _ ?_;refine zI8 H90.out (.int .i64 (max ex.a.2 ex.b.2)) _ _ _ _ _ _ (.int .i64 (min ey.a.2 ey.b.2)) ?_;refine zp (.bool false) (by exact ezl (e:=(dec_f C2.out))) ?_;refine zI8 H90.out (.bool false) (.bool false) _ _ _ _ _ _ ?_;refine zI8 H90.out (.int .i64 (max ey.a.2 ey.b.2)) _ _ _ _ _ _ (.int .i64 (min ex.a.2 ex.b.2)) ?_;refine zp (.bool false) (by exact ezl (e:=(dec_f C3.out))) ?_;refine qV (.bool false) ?_;refine zq (.bool false) ?_;have dj0:decide (max ex.a.1 ex.b.1<min ey.a.1 ey.b.1)=false:=decide_eq_false (by have h_:=C0.out;omega);have dj1:decide (max ey.a.1 ey.b.1<min ex.a.1 ex.b.1)=false:=decide_eq_false (by have h_:=C1.out;omega);have dj2:decide (max ex.a.2 ex.b.2<min ey.a.2 ey.b.2)=false:=decide_eq_false (by have h_:=C2.out;omega);have dj3:decide (max ey.a.2 ey.b.2<min ex.a.2 ex.b.2)=false:=decide_eq_false (by have h_:=C3.out;omega);go_wp2_with fail
 go_ret
 exact⟨by rw[show djB ex ey=false from by unfold djB;simp only[dj0,dj1,dj2,dj3,Bool.or_self]];rfl,H90.out.ext⟩
def conC (e:EdE)(p:Rat×Rat):Prop:=(((e.b.1-e.a.1):Int):Rat)*(p.2-(((e.a.2):Int):Rat))=(((e.b.2-e.a.2):Int):Rat)*(p.1-(((e.a.1):Int):Rat))/\(((0):Int):Rat)<=(((e.b.1-e.a.1):Int):Rat)*(p.1-(((e.a.1):Int):Rat))+(((e.b.2-e.a.2):Int):Rat)*(p.2-(((e.a.2):Int):Rat))/\(((e.b.1-e.a.1):Int):Rat)*(p.1-(((e.a.1):Int):Rat))+(((e.b.2-e.a.2):Int):Rat)*(p.2-(((e.a.2):Int):Rat))<=(((e.b.1-e.a.1):Int):Rat)*(((e.b.1-e.a.1):Int):Rat)+(((e.b.2-e.a.2):Int):Rat)*(((e.b.2-e.a.2):Int):Rat)
instance conC_dec (e:EdE) (p:Rat×Rat):Decidable (conC e p):=inferInstanceAs (Decidable (_/\_))
theorem contains17_any (L:Nat)(hL:L<=2000)(e:EdE)(p:R2E)(w:World)(he:e.Bd)(hp:p.Ok L w):
  Calls Tryz.prog 59 #[.agg #[.int .i64 e.a.1,.int .i64 e.a.2,.int .i64 e.b.1,.int .i64 e.b.2,.int .i64 ((e.r:Nat):Int),.int .i64 ((e.i:Nat):Int),.int .i64 ((e.n:Nat):Int)],.agg #[.bool p.a.n,.slice p.a.p p.a.l p.a.c,.bool p.a.m,.slice p.a.p2 p.a.l2 p.a.c2,.bool p.b.n,.slice p.b.p p.b.l p.b.c,.bool p.b.m,.slice p.b.p2 p.b.l2 p.b.c2]] w fun x w'=>x= .returned (.bool (decide (conC e p.vl)))/\Ext w w':=by
 have RPa:=zH hp.1;have RPb:=zH hp.2.1;have BRPa:=zH hp.2.2.1;have BRPb:=zH hp.2.2.2;have oa:=okP_out he.1;have ob:=okP_out he.2.1;clear he hp;go_enter Tryz.func59,Tryz.ntmps59
 have H0:=zH (Hp.start w);go_upto_region 0 with fail
 refine wl ?_;refine aA' 89 [.int .i64 e.a.1,.int .i64 e.a.2,.int .i64 e.b.1,.int .i64 e.b.2,.int .i64 ((e.r:Nat):Int),.int .i64 ((e.i:Nat):Int),.int .i64 ((e.n:Nat):Int)] H0.out ?_;intro X287 w288 H289 _;refine aA' 61 [.bool p.a.n,.slice p.a.p p.a.l p.a.c,.bool p.a.m,.slice p.a.p2 p.a.l2 p.a.c2,.bool p.b.n,.slice p.b.p p.b.l p.b.c,.bool p.b.m,.slice p.b.p2 p.b.l2 p.b.c2] H289.out ?_;intro X292 w293 H294 _;refine zq (.bool false) ?_;go_upto_region 1 with fail
 refine zy ?_;have H298:=zH (H294.out.step (Ext.refl w293).drew);refine zJ6 H294.out zb (bs 20 63) 0 1 2 3 4 5 _ _ _ _ _ _ ?_;refine zu 6 (bs 20 127) (v:= .int .i64 (e.b.1-e.a.1)) zb ?_ (hv:=by intro w hSw;exact ez2 (by omega));refine zJ6 H294.out zb (bs 20 16255) 8 9 10 11 12 13 _ _ _ _ _ _ ?_;refine zu 14 (bs 20 32639) (v:= .int .i64 (e.b.2-e.a.2)) zb ?_ (hv:=by intro w hSw;exact ez2 (by omega));refine tuple2 (f:=2) 7 15 16 17 18 26 5 6 30 z4 (fun v w=>∃c,v= .agg c/\NIs w c (((e.b.1-e.a.1):Int):Rat)) (fun v w=>∃c,v= .agg c/\NIs w c (((e.b.2-e.a.2):Int):Rat)) rfl rfl rfl rfl dC dC kR (fun _ hx=>zb.trans hx) (fun _ _ _ h e=>by obtain⟨c,h1,h2⟩:=h;exact⟨c,h1,h2.ext e⟩) (fun _ _ _ h e=>by obtain⟨c,h1,h2⟩:=h;exact⟨c,h1,h2.ext e⟩) ?ht310c1 ?ht310c2 ?ht310c3 ?ht310c4 ?ht310e _ _ _ _ kR rfl;case ht310c1=>
  intro v1 v2 v3 v4 w1 K hxq hSw hK;try simp only[Act.put,zA,zB,zC]
  rw[if_pos (by rfl)];refine wp_call_op (by go_simp) (pFrom (e.b.1-e.a.1) _ (by omega) (by omega)) ?_;rintro e w' ⟨c_,rfl,hc_,hx⟩;refine⟨_,rfl,?_⟩;have hk:=hK.out _ _ ⟨c_,rfl,hc_⟩ hx;try simp only[Act.put,zA,zB,zC]
  simp only[Act.put,zA,zB,zC]at hk;exact hk
 case ht310c2=>
  intro v1 v2 v3 v4 w1 K hxq hSw hK;try simp only[Act.put,zA,zB,zC]
  rw[if_pos (by rfl)];refine wp_call_op (by go_simp) (pFrom (e.b.2-e.a.2) _ (by omega) (by omega)) ?_;rintro e w' ⟨c_,rfl,hc_,hx⟩;refine⟨_,rfl,?_⟩;have hk:=hK.out _ _ ⟨c_,rfl,hc_⟩ hx;try simp only[Act.put,zA,zB,zC]
  simp only[Act.put,zA,zB,zC]at hk;exact hk
 case ht310c3=>
  intro v1 v2 v3 v4 w1 K hxq hSw hK;try simp only[Act.put,zA,zB,zC]
  go_simp
  have hk:=hK.out;simp only[Act.put,zA,zB,zC]at hk;exact hk
 case ht310c4=>
  intro v1 v2 v3 v4 w1 K hxq hSw hK;try simp only[Act.put,zA,zB,zC]
  go_simp
  have hk:=hK.out;simp only[Act.put,zA,zB,zC]at hk;exact hk
 case ht310e=>
 intro v1_ v2_ X313 Y314 w315 hx hSw xp1 xp2 xb1 xb2 xz1 xz2 n12;have hh:=H298.out.add2 hx xb1 xb2 xz1 xz2 n12 (by simp[NoUL]) (by simp[NoUL]);have H316:=hN hh;have S318:=zH (zb.trans hx);have G319:=zH (Nat.le_trans zb.size xz1);have G320:=zH (Nat.le_trans zb.size xz2);obtain⟨c_,rfl,hc_⟩:=xp1;obtain⟨r311,rfl,hr_⟩:=hc_;have R311:=zH hr_;have B311:=zH (rl_i64 (e.b.1-e.a.1) (by omega) (by omega));clear hr_;obtain⟨c_,rfl,hc_⟩:=xp2;obtain⟨r312,rfl,hr_⟩:=hc_;have R312:=zH hr_;have B312:=zH (rl_i64 (e.b.2-e.a.2) (by omega) (by omega));clear hr_ hh hx hSw xb1 xb2 xz1 xz2 n12
 (try simp only[zA,zB,zC])
 refine bS 2 18 (bs 20 524287) (rc r311) H316.out S318.out G319.out ?_;intro w321 H322 D322 S324;refine bS 3 19 (bs 20 1048575) (rc r312) H322.out S324.out G320.out ?_;intro w325 H326 D326 S328;refine wpAnyH_done kR ?_ _;go_upto_region 2 with fail
 refine zy ?_;have H329:=zH (H326.out.step (Ext.refl w325).drew);have D329:=zH (Dig.of_ext (w:=w325) zb);refine zJ1 (Hp.start _) zb (bs 18 1) 0 _ ?_;refine zg 1 (bs 18 3) X292 (0) (rc p.a) (H326.out.range (i:=1) rR 0 4) Tryz.underlying30 zb ?_;refine zJ4 H326.out zb (bs 18 159) 2 3 4 7 _ _ _ _ ?_;refine zg 8 (bs 18 415) X292 (4) (rc p.b) (H326.out.range (i:=1) rR 4 4) Tryz.underlying30 zb ?_;refine zJ3 H326.out zb (bs 18 3999) 9 10 11 _ _ _ ?_;refine FN.go2 (j1:=⟨14,some 7,30,[.bool false,.slice none 0 0,.bool false,.slice none 0 0]⟩) (j2:=⟨15,some 8,30,[.bool false,.slice none 0 0,.bool false,.slice none 0 0]⟩) (b:=w325) ?_ zb;refine gN 5 (bs 18 4031) (fk (fk trivial)) zb.size (fun xq hxq=>pFrom e.a.1 _ (by omega) (by omega)) (by rintro x_ e x2_ ⟨c_,rfl,hc_,hx⟩;exact hx) ?_;rintro xq e w337 hxq ⟨c_,rfl,hc_,hx⟩;replace hx:=hxq.trans hx;clear hxq;have H339:=zH (H329.out.step hx);have D339:=zH (show Dig w325.drew w337 from Dig.of_ext hx);have S341:=zH (zb.trans hx);obtain⟨r338,rfl,hr_⟩:=hc_;have R338:=zH hr_;have B338:=zH (rl_i64 e.a.1 (by omega) (by omega));clear hr_ hx;refine⟨_,rfl,?_⟩;try simp only[Act.put,zA,zB,zC]
 refine gN 6 (bs 18 4095) (fk (fk trivial)) S341.out.size (fun xq hxq=>pSub (L:=60000) (RV.Is.nin (RPa.out.dig (H339.out.dig0.trans (Dig.of_ext hxq))) (Nat.le_trans BRPa.out (by omega))) (RV.Is.nin (R338.out.dig (Dig.of_ext hxq)) (Nat.le_trans B338.out (by omega))) (by omega)) (by rintro x_ e x2_ ⟨c_,rfl,hc_,hx⟩;exact hx) ?_;rintro xq e w342 hxq ⟨c_,rfl,hc_,hx⟩;replace hx:=hxq.trans hx;clear hxq;have H344:=zH (H339.out.step hx);have D344:=zH (Dig.of_ext hx);have S346:=zH (S341.out.trans hx);obtain⟨r343,rfl,hr_⟩:=hc_;have R343:=zH hr_;clear hr_;have B343:=zH (show Nm.rl (p.p-(((e.a.1):Int):Rat))<=L+2+1 from by have h1:=BRPa.out;have h2:=B338.out;have h3:=Nm.rl_sub p.p (((e.a.1):Int):Rat);omega);clear hx;refine⟨_,rfl,?_⟩;try simp only[Act.put,zA,zB,zC]
 refine gN 12 (bs 18 8191) (fk (fk trivial)) S346.out.size (fun xq hxq=>pFrom e.a.2 _ (by omega) (by omega)) (by rintro x_ e x2_ ⟨c_,rfl,hc_,hx⟩;exact hx) ?_;rintro xq e w347 hxq ⟨c_,rfl,hc_,hx⟩;replace hx:=hxq.trans hx;clear hxq;have H349:=zH (H344.out.step hx);have D349:=zH (Dig.of_ext hx);have S351:=zH (S346.out.trans hx);obtain⟨r348,rfl,hr_⟩:=hc_;have R348:=zH hr_;have B348:=zH (rl_i64 e.a.2 (by omega) (by omega));clear hr_ hx;refine⟨_,rfl,?_⟩;try simp only[Act.put,zA,zB,zC]
 refine gN 13 (bs 18 16383) (fk (fk trivial)) S351.out.size (fun xq hxq=>pSub (L:=60000) (RV.Is.nin (RPb.out.dig (H349.out.dig0.trans (Dig.of_ext hxq))) (Nat.le_trans BRPb.out (by omega))) (RV.Is.nin (R348.out.dig (Dig.of_ext hxq)) (Nat.le_trans B348.out (by omega))) (by omega)) (by rintro x_ e x2_ ⟨c_,rfl,hc_,hx⟩;exact hx) ?_;rintro xq e w352 hxq ⟨c_,rfl,hc_,hx⟩;replace hx:=hxq.trans hx;clear hxq;have H354:=zH (H349.out.step hx);have D354:=zH (Dig.of_ext hx);have S356:=zH (S351.out.trans hx);obtain⟨r353,rfl,hr_⟩:=hc_;have R353:=zH hr_;clear hr_;have B353:=zH (show Nm.rl (p.q-(((e.a.2):Int):Rat))<=L+2+1 from by have h1:=BRPb.out;have h2:=B348.out;have h3:=Nm.rl_sub p.q (((e.a.2):Int):Rat);omega);clear hx;refine⟨_,rfl,?_⟩;try simp only[Act.put,zA,zB,zC]
 refine gE2 (bs 18 65535) (fk (fk trivial)) S356.out.size H326.out H354.out ?_;intro X357 X358 w359 hx hh hg0 hg1 hs;have H360:=hN hh;have D360:=zH (Dig.of_ext hx);have S362:=zH (show Ext w325 w359 from hs);have G363:=zH (show w325.heap.size<=X357 from hg0);have G364:=zH (show w325.heap.size<=X358 from hg1);clear hh hx hs hg0 hg1;try simp only[Act.put,zA,zB,zC]
 refine bS 4 16 (bs 18 131071) (rc r343) H360.out S362.out G363.out ?_;intro w365 H366 D366 S368;refine bS 5 17 (bs 18 262143) (rc r353) H366.out S368.out G364.out ?_;intro w369 H370 D370 S372;refine wpAnyH_done kR ?_ _;rcases emH (((((e.b.1-e.a.1):Int):Rat)*(p.q-(((e.a.2):Int):Rat)))≠((((e.b.2-e.a.2):Int):Rat)*(p.p-(((e.a.1):Int):Rat))))with C1|C1
 ·go_upto_region 3 with fail
  refine zy ?_;have H374:=zH (H370.out.step (Ext.refl w369).drew);have D374:=zH (Dig.of_ext (w:=w369) zb);refine zJ4 H370.out zb (bs 8 27) 0 1 3 4 _ _ _ _ ?_;have DD378:=tD (tD (tD (tD (tD (tD (tD (tD (tD (tD D322 D326) D329) D339) D344) D349) D354) D360) D366) D370) D374;have DD379:=tD (tD (tD D360 D366) D370) D374;refine mC 2 (bs 8 31) (pMul (L:=60000) (RV.Is.nin (R311.out.dig DD378.out) (Nat.le_trans B311.out (by omega))) (RV.Is.nin (R353.out.dig DD379.out) (Nat.le_trans B353.out (by omega))) (by omega)) ?_;rintro e w376 ⟨c_,rfl,hc_,hx⟩;have H380:=zH (H374.out.step hx);have D380:=zH (show Dig w369.drew w376 from Dig.of_ext hx);have S382:=zH (zb.trans hx);obtain⟨r377,rfl,hr_⟩:=hc_;have R377:=zH hr_;clear hr_;have B377:=zH (show Nm.rl ((((e.b.1-e.a.1):Int):Rat)*(p.q-(((e.a.2):Int):Rat)))<=2+(L+2+1)from by have h1:=B311.out;have h2:=B353.out;have h3:=Nm.rl_mul (((e.b.1-e.a.1):Int):Rat) (p.q-(((e.a.2):Int):Rat));omega);clear hx;refine zm S382.out ?_;have DD385:=tD DD378 D380;have DD386:=tD (tD (tD (tD (tD (tD D349 D354) D360) D366) D370) D374) D380;refine mC 5 (bs 8 63) (pMul (L:=60000) (RV.Is.nin (R312.out.dig DD385.out) (Nat.le_trans B312.out (by omega))) (RV.Is.nin (R343.out.dig DD386.out) (Nat.le_trans B343.out (by omega))) (by omega)) ?_;rintro e w383 ⟨c_,rfl,hc_,hx⟩;have H387:=zH (H380.out.step hx);have D387:=zH (Dig.of_ext hx);have S389:=zH (S382.out.trans hx);obtain⟨r384,rfl,hr_⟩:=hc_;have R384:=zH hr_;clear hr_;have B384:=zH (show Nm.rl ((((e.b.2-e.a.2):Int):Rat)*(p.p-(((e.a.1):Int):Rat)))<=2+(L+2+1)from by have h1:=B312.out;have h2:=B343.out;have h3:=Nm.rl_mul (((e.b.2-e.a.2):Int):Rat) (p.p-(((e.a.1):Int):Rat));omega);clear hx;refine zm S389.out ?_;refine mC 6 (bs 8 127) (pCmp (L:=60000) (RV.Is.nin (R377.out.dig D387.out) (Nat.le_trans B377.out (by omega))) (RV.Is.nin R384.out (Nat.le_trans B384.out (by omega))) (by omega)) ?_;rintro e w390 ⟨rfl,hx⟩;have H391:=zH (H387.out.step hx);have S393:=zH (S389.out.trans hx);clear hx;refine zm S393.out ?_;refine zu 7 (bs 8 255) (v:= .bool true) S393.out ?_ (hv:=by intro w hSw;exact ezn (e:=(dec_t (fun hh=>C1.out (rcmp_eq_i.1 hh)))));refine wpAnyH_done kR ?_ _;go_upto_region 4 with fail
  refine wl ?_;refine zq (.bool false) ?_;go_wp2_with fail
  go_ret
  exact⟨by rw[decide_eq_false (fun h_=>C1.out h_.1)];rfl,H391.out.ext⟩
 go_upto_region 3 with fail
 refine zy ?_;have H396:=zH (H370.out.step (Ext.refl w369).drew);have D396:=zH (Dig.of_ext (w:=w369) zb);refine zJ4 H370.out zb (bs 8 27) 0 1 3 4 _ _ _ _ ?_;have DD400:=tD (tD (tD (tD (tD (tD (tD (tD (tD (tD D322 D326) D329) D339) D344) D349) D354) D360) D366) D370) D396;have DD401:=tD (tD (tD D360 D366) D370) D396;refine mC 2 (bs 8 31) (pMul (L:=60000) (RV.Is.nin (R311.out.dig DD400.out) (Nat.le_trans B311.out (by omega))) (RV.Is.nin (R353.out.dig DD401.out) (Nat.le_trans B353.out (by omega))) (by omega)) ?_;rintro e w398 ⟨c_,rfl,hc_,hx⟩;have H402:=zH (H396.out.step hx);have D402:=zH (show Dig w369.drew w398 from Dig.of_ext hx);have S404:=zH (zb.trans hx);obtain⟨r399,rfl,hr_⟩:=hc_;have R399:=zH hr_;clear hr_;have B399:=zH (show Nm.rl ((((e.b.1-e.a.1):Int):Rat)*(p.q-(((e.a.2):Int):Rat)))<=2+(L+2+1)from by have h1:=B311.out;have h2:=B353.out;have h3:=Nm.rl_mul (((e.b.1-e.a.1):Int):Rat) (p.q-(((e.a.2):Int):Rat));omega);clear hx;refine zm S404.out ?_;have DD407:=tD DD400 D402;have DD408:=tD (tD (tD (tD (tD (tD D349 D354) D360) D366) D370) D396) D402;refine mC 5 (bs 8 63) (pMul (L:=60000) (RV.Is.nin (R312.out.dig DD407.out) (Nat.le_trans B312.out (by omega))) (RV.Is.nin (R343.out.dig DD408.out) (Nat.le_trans B343.out (by omega))) (by omega)) ?_;rintro e w405 ⟨c_,rfl,hc_,hx⟩;have H409:=zH (H402.out.step hx);have D409:=zH (Dig.of_ext hx);have S411:=zH (S404.out.trans hx);obtain⟨r406,rfl,hr_⟩:=hc_;have R406:=zH hr_;clear hr_;have B406:=zH (show Nm.rl ((((e.b.2-e.a.2):Int):Rat)*(p.p-(((e.a.1):Int):Rat)))<=2+(L+2+1)from by have h1:=B312.out;have h2:=B343.out;have h3:=Nm.rl_mul (((e.b.2-e.a.2):Int):Rat) (p.p-(((e.a.1):Int):Rat));omega);clear hx;refine zm S411.out ?_;refine mC 6 (bs 8 127) (pCmp (L:=60000) (RV.Is.nin (R399.out.dig D409.out) (Nat.le_trans B399.out (by omega))) (RV.Is.nin R406.out (Nat.le_trans B406.out (by omega))) (by omega)) ?_;rintro e w412 ⟨rfl,hx⟩;have H413:=zH (H409.out.step hx);have D413:=zH (Dig.of_ext hx);have S415:=zH (S411.out.trans hx);clear hx;refine zm S415.out ?_;refine zu 7 (bs 8 255) (v:= .bool false) S415.out ?_ (hv:=by intro w hSw;exact ezn (e:=(dec_f (fun hh=>hh (rcmp_eq_i.2 (Classical.not_not.1 C1.out))))));refine wpAnyH_done kR ?_ _;go_upto_region 5 with fail
 refine zy ?_;have H417:=zH (H413.out.step (Ext.refl w412).drew);have D417:=zH (Dig.of_ext (w:=w412) zb);refine zJ4 H413.out zb (bs 9 27) 0 1 3 4 _ _ _ _ ?_;refine gG 7 (some 9) 30 rz w412 H417.out ?_;have DD421:=tD (tD (tD DD407 D409) D413) D417;have DD422:=tD (tD (tD DD408 D409) D413) D417;refine gL 2 (bs 9 155) (bs 9 31) zb.size H417.out zb (fun xq hxq=>pMul (L:=60000) (RV.Is.nin (R311.out.dig (DD421.out.trans (Dig.of_ext hxq))) (Nat.le_trans B311.out (by omega))) (RV.Is.nin (R343.out.dig (DD422.out.trans (Dig.of_ext hxq))) (Nat.le_trans B343.out (by omega))) (by omega)) (by rintro x_ e x2_ ⟨c_,rfl,hc_,hx⟩;exact hx) ?_;rintro xq e w419 hxq ⟨c_,rfl,hc_,hx⟩;replace hx:=hxq.trans hx;clear hxq;have H423:=zH (H417.out.step hx);have D423:=zH (show Dig w412.drew w419 from Dig.of_ext hx);have S425:=zH (zb.trans hx);obtain⟨r420,rfl,hr_⟩:=hc_;have R420:=zH hr_;clear hr_;have B420:=zH (show Nm.rl ((((e.b.1-e.a.1):Int):Rat)*(p.p-(((e.a.1):Int):Rat)))<=2+(L+2+1)from by have h1:=B311.out;have h2:=B343.out;have h3:=Nm.rl_mul (((e.b.1-e.a.1):Int):Rat) (p.p-(((e.a.1):Int):Rat));omega);clear hx;refine⟨_,rfl,?_⟩;try simp only[Act.put,zA,zB,zC]
 have DD428:=tD DD421 D423;have DD429:=tD (tD (tD (tD (tD DD401 D402) D409) D413) D417) D423;refine gL 5 (bs 9 159) (bs 9 63) S425.out.size H423.out S425.out (fun xq hxq=>pMul (L:=60000) (RV.Is.nin (R312.out.dig (DD428.out.trans (Dig.of_ext hxq))) (Nat.le_trans B312.out (by omega))) (RV.Is.nin (R353.out.dig (DD429.out.trans (Dig.of_ext hxq))) (Nat.le_trans B353.out (by omega))) (by omega)) (by rintro x_ e x2_ ⟨c_,rfl,hc_,hx⟩;exact hx) ?_;rintro xq e w426 hxq ⟨c_,rfl,hc_,hx⟩;replace hx:=hxq.trans hx;clear hxq;have H430:=zH (H423.out.step hx);have D430:=zH (Dig.of_ext hx);have S432:=zH (S425.out.trans hx);obtain⟨r427,rfl,hr_⟩:=hc_;have R427:=zH hr_;clear hr_;have B427:=zH (show Nm.rl ((((e.b.2-e.a.2):Int):Rat)*(p.q-(((e.a.2):Int):Rat)))<=2+(L+2+1)from by have h1:=B312.out;have h2:=B353.out;have h3:=Nm.rl_mul (((e.b.2-e.a.2):Int):Rat) (p.q-(((e.a.2):Int):Rat));omega);clear hx;refine⟨_,rfl,?_⟩;try simp only[Act.put,zA,zB,zC]
 refine gL 6 (bs 9 191) (bs 9 127) S432.out.size H430.out S432.out (fun xq hxq=>pAdd (L:=60000) (RV.Is.nin (R420.out.dig (D430.out.trans (Dig.of_ext hxq))) (Nat.le_trans B420.out (by omega))) (RV.Is.nin (R427.out.dig (Dig.of_ext hxq)) (Nat.le_trans B427.out (by omega))) (by omega)) (by rintro x_ e x2_ ⟨c_,rfl,hc_,hx⟩;exact hx) ?_;rintro xq e w433 hxq ⟨c_,rfl,hc_,hx⟩;replace hx:=hxq.trans hx;clear hxq;have H435:=zH (H430.out.step hx);have D435:=zH (Dig.of_ext hx);have S437:=zH (S432.out.trans hx);obtain⟨r434,rfl,hr_⟩:=hc_;have R434:=zH hr_;clear hr_;have B434:=zH (show Nm.rl (((((e.b.1-e.a.1):Int):Rat)*(p.p-(((e.a.1):Int):Rat)))+((((e.b.2-e.a.2):Int):Rat)*(p.q-(((e.a.2):Int):Rat))))<=(2+(L+2+1))+(2+(L+2+1))+1 from by have h1:=B420.out;have h2:=B427.out;have h3:=Nm.rl_add ((((e.b.1-e.a.1):Int):Rat)*(p.p-(((e.a.1):Int):Rat))) ((((e.b.2-e.a.2):Int):Rat)*(p.q-(((e.a.2):Int):Rat)));omega);clear hx;refine⟨_,rfl,?_⟩;try simp only[Act.put,zA,zB,zC]
 refine gE (bs 9 255) S437.out.size H435.out S437.out ?_;intro X438 w439 hx hh hs hge;have H440:=hN hh;have D440:=zH (Dig.of_ext hx);have S442:=zH (show Ext w412 w439 from hs);have G443:=zH (show w412.heap.size<=X438 from hge);clear hh hx hge hs;try simp only[Act.put,zA,zB,zC]
 refine bS 6 8 (bs 9 511) (rc r434) H440.out S442.out G443.out ?_;intro w444 H445 D445 S447;refine wpAnyH_done kR ?_ _;go_upto_region 6 with fail
 refine zy ?_;have H448:=zH (H445.out.step (Ext.refl w444).drew);have D448:=zH (Dig.of_ext (w:=w444) zb);refine zJ4 H445.out zb (bs 9 27) 0 1 3 4 _ _ _ _ ?_;refine gG 7 (some 10) 30 rz w444 H448.out ?_;have DD452:=tD (tD (tD (tD (tD DD428 D430) D435) D440) D445) D448;refine gL 2 (bs 9 155) (bs 9 31) zb.size H448.out zb (fun xq hxq=>pMul (L:=60000) (RV.Is.nin (R311.out.dig (DD452.out.trans (Dig.of_ext hxq))) (Nat.le_trans B311.out (by omega))) (RV.Is.nin (R311.out.dig (DD452.out.trans (Dig.of_ext hxq))) (Nat.le_trans B311.out (by omega))) (by omega)) (by rintro x_ e x2_ ⟨c_,rfl,hc_,hx⟩;exact hx) ?_;rintro xq e w450 hxq ⟨c_,rfl,hc_,hx⟩;replace hx:=hxq.trans hx;clear hxq;have H453:=zH (H448.out.step hx);have D453:=zH (show Dig w444.drew w450 from Dig.of_ext hx);have S455:=zH (zb.trans hx);obtain⟨r451,rfl,hr_⟩:=hc_;have R451:=zH hr_;clear hr_;have B451:=zH (show Nm.rl ((((e.b.1-e.a.1):Int):Rat)*(((e.b.1-e.a.1):Int):Rat))<=2+2 from by have h1:=B311.out;have h2:=B311.out;have h3:=Nm.rl_mul (((e.b.1-e.a.1):Int):Rat) (((e.b.1-e.a.1):Int):Rat);omega);clear hx;refine⟨_,rfl,?_⟩;try simp only[Act.put,zA,zB,zC]
 have DD458:=tD DD452 D453;refine gL 5 (bs 9 159) (bs 9 63) S455.out.size H453.out S455.out (fun xq hxq=>pMul (L:=60000) (RV.Is.nin (R312.out.dig (DD458.out.trans (Dig.of_ext hxq))) (Nat.le_trans B312.out (by omega))) (RV.Is.nin (R312.out.dig (DD458.out.trans (Dig.of_ext hxq))) (Nat.le_trans B312.out (by omega))) (by omega)) (by rintro x_ e x2_ ⟨c_,rfl,hc_,hx⟩;exact hx) ?_;rintro xq e w456 hxq ⟨c_,rfl,hc_,hx⟩;replace hx:=hxq.trans hx;clear hxq;have H459:=zH (H453.out.step hx);have D459:=zH (Dig.of_ext hx);have S461:=zH (S455.out.trans hx);obtain⟨r457,rfl,hr_⟩:=hc_;have R457:=zH hr_;clear hr_;have B457:=zH (show Nm.rl ((((e.b.2-e.a.2):Int):Rat)*(((e.b.2-e.a.2):Int):Rat))<=2+2 from by have h1:=B312.out;have h2:=B312.out;have h3:=Nm.rl_mul (((e.b.2-e.a.2):Int):Rat) (((e.b.2-e.a.2):Int):Rat);omega);clear hx;refine⟨_,rfl,?_⟩;try simp only[Act.put,zA,zB,zC]
 refine gL 6 (bs 9 191) (bs 9 127) S461.out.size H459.out S461.out (fun xq hxq=>pAdd (L:=60000) (RV.Is.nin (R451.out.dig (D459.out.trans (Dig.of_ext hxq))) (Nat.le_trans B451.out (by omega))) (RV.Is.nin (R457.out.dig (Dig.of_ext hxq)) (Nat.le_trans B457.out (by omega))) (by omega)) (by rintro x_ e x2_ ⟨c_,rfl,hc_,hx⟩;exact hx) ?_;rintro xq e w462 hxq ⟨c_,rfl,hc_,hx⟩;replace hx:=hxq.trans hx;clear hxq;have H464:=zH (H459.out.step hx);have D464:=zH (Dig.of_ext hx);have S466:=zH (S461.out.trans hx);obtain⟨r463,rfl,hr_⟩:=hc_;have R463:=zH hr_;clear hr_;have B463:=zH (show Nm.rl (((((e.b.1-e.a.1):Int):Rat)*(((e.b.1-e.a.1):Int):Rat))+((((e.b.2-e.a.2):Int):Rat)*(((e.b.2-e.a.2):Int):Rat)))<=(2+2)+(2+2)+1 from by have h1:=B451.out;have h2:=B457.out;have h3:=Nm.rl_add ((((e.b.1-e.a.1):Int):Rat)*(((e.b.1-e.a.1):Int):Rat)) ((((e.b.2-e.a.2):Int):Rat)*(((e.b.2-e.a.2):Int):Rat));omega);clear hx;refine⟨_,rfl,?_⟩;try simp only[Act.put,zA,zB,zC]
 refine gE (bs 9 255) S466.out.size H464.out S466.out ?_;intro X467 w468 hx hh hs hge;have H469:=hN hh;have D469:=zH (Dig.of_ext hx);have S471:=zH (show Ext w444 w468 from hs);have G472:=zH (show w444.heap.size<=X467 from hge);clear hh hx hge hs;try simp only[Act.put,zA,zB,zC]
 refine bS 7 8 (bs 9 511) (rc r463) H469.out S471.out G472.out ?_;intro w473 H474 D474 S476;refine wpAnyH_done kR ?_ _;rcases emH ((((0):Int):Rat)<=(((((e.b.1-e.a.1):Int):Rat)*(p.p-(((e.a.1):Int):Rat)))+((((e.b.2-e.a.2):Int):Rat)*(p.q-(((e.a.2):Int):Rat)))))with C2|C2
 ·rcases emH ((((((e.b.1-e.a.1):Int):Rat)*(p.p-(((e.a.1):Int):Rat)))+((((e.b.2-e.a.2):Int):Rat)*(p.q-(((e.a.2):Int):Rat))))<=(((((e.b.1-e.a.1):Int):Rat)*(((e.b.1-e.a.1):Int):Rat))+((((e.b.2-e.a.2):Int):Rat)*(((e.b.2-e.a.2):Int):Rat))))with C3|C3
  ·go_upto_region 7 with fail
   refine zy ?_;have H479:=zH (H474.out.step (Ext.refl w473).drew);have D479:=zH (Dig.of_ext (w:=w473) zb);refine zJ1 H474.out zb (bs 11 1) 0 _ ?_;refine mC 1 (bs 11 3) (pFrom 0 _ (by omega) (by omega)) ?_;rintro e w481 ⟨c_,rfl,hc_,hx⟩;have H483:=zH (H479.out.step hx);have D483:=zH (show Dig w473.drew w481 from Dig.of_ext hx);have S485:=zH (zb.trans hx);obtain⟨r482,rfl,hr_⟩:=hc_;have R482:=zH hr_;have B482:=zH (rl_i64 0 (by omega) (by omega));clear hr_ hx;refine zm S485.out ?_;have DD487:=tD (tD (tD (tD (tD (tD (tD (tD (tD D440 D445) D448) D453) D459) D464) D469) D474) D479) D483;refine mC 2 (bs 11 7) (pCmp (L:=60000) (RV.Is.nin (R434.out.dig DD487.out) (Nat.le_trans B434.out (by omega))) (RV.Is.nin R482.out (Nat.le_trans B482.out (by omega))) (by omega)) ?_;rintro e w486 ⟨rfl,hx⟩;have H488:=zH (H483.out.step hx);have D488:=zH (Dig.of_ext hx);have S490:=zH (S485.out.trans hx);clear hx;refine zm S490.out ?_;refine zu 3 (bs 11 15) (v:= .bool true) S490.out ?_ (hv:=by intro w hSw;exact ezo (e:=(dec_t (rcmp_ge_i.2 C2.out))));refine zJ3 H474.out S490.out (bs 11 127) 4 5 6 (.bool true) _ _ ?_;have DD494:=tD DD487 D488;have DD495:=tD (tD (tD (tD D469 D474) D479) D483) D488;refine mC 7 (bs 11 255) (pCmp (L:=60000) (RV.Is.nin (R434.out.dig DD494.out) (Nat.le_trans B434.out (by omega))) (RV.Is.nin (R463.out.dig DD495.out) (Nat.le_trans B463.out (by omega))) (by omega)) ?_;rintro e w493 ⟨rfl,hx⟩;have H496:=zH (H488.out.step hx);have S498:=zH (S490.out.trans hx);clear hx;refine zm S498.out ?_;refine zu 8 (bs 11 511) (v:= .bool true) S498.out ?_ (hv:=by intro w hSw;exact eze (e:=(dec_t (rcmp_le_i.2 C3.out))));refine zJ2 (Hp.start _) S498.out (bs 11 2047) 9 10 (.bool true) (.bool true) ?_;refine wpAnyH_done kR ?_ _;go_wp2_with fail
   go_ret
   exact⟨by rw[decide_eq_true (show conC e p.vl from⟨Classical.not_not.1 C1.out,C2.out,C3.out⟩)];rfl,H496.out.ext⟩
  go_upto_region 7 with fail
  refine zy ?_;have H502:=zH (H474.out.step (Ext.refl w473).drew);have D502:=zH (Dig.of_ext (w:=w473) zb);refine zJ1 H474.out zb (bs 11 1) 0 _ ?_;refine mC 1 (bs 11 3) (pFrom 0 _ (by omega) (by omega)) ?_;rintro e w504 ⟨c_,rfl,hc_,hx⟩;have H506:=zH (H502.out.step hx);have D506:=zH (show Dig w473.drew w504 from Dig.of_ext hx);have S508:=zH (zb.trans hx);obtain⟨r505,rfl,hr_⟩:=hc_;have R505:=zH hr_;have B505:=zH (rl_i64 0 (by omega) (by omega));clear hr_ hx;refine zm S508.out ?_;have DD510:=tD (tD (tD (tD (tD (tD (tD (tD (tD D440 D445) D448) D453) D459) D464) D469) D474) D502) D506;refine mC 2 (bs 11 7) (pCmp (L:=60000) (RV.Is.nin (R434.out.dig DD510.out) (Nat.le_trans B434.out (by omega))) (RV.Is.nin R505.out (Nat.le_trans B505.out (by omega))) (by omega)) ?_;rintro e w509 ⟨rfl,hx⟩;have H511:=zH (H506.out.step hx);have D511:=zH (Dig.of_ext hx);have S513:=zH (S508.out.trans hx);clear hx;refine zm S513.out ?_;refine zu 3 (bs 11 15) (v:= .bool true) S513.out ?_ (hv:=by intro w hSw;exact ezo (e:=(dec_t (rcmp_ge_i.2 C2.out))));refine zJ3 H474.out S513.out (bs 11 127) 4 5 6 (.bool true) _ _ ?_;have DD517:=tD DD510 D511;have DD518:=tD (tD (tD (tD D469 D474) D502) D506) D511;refine mC 7 (bs 11 255) (pCmp (L:=60000) (RV.Is.nin (R434.out.dig DD517.out) (Nat.le_trans B434.out (by omega))) (RV.Is.nin (R463.out.dig DD518.out) (Nat.le_trans B463.out (by omega))) (by omega)) ?_;rintro e w516 ⟨rfl,hx⟩;have H519:=zH (H511.out.step hx);have S521:=zH (S513.out.trans hx);clear hx;refine zm S521.out ?_;refine zu 8 (bs 11 511) (v:= .bool false) S521.out ?_ (hv:=by intro w hSw;exact eze (e:=(dec_f (fun hh=>C3.out (rcmp_le_i.1 hh)))));refine zJ2 (Hp.start _) S521.out (bs 11 2047) 9 10 (.bool false) (.bool false) ?_;refine wpAnyH_done kR ?_ _;go_wp2_with fail
  go_ret
  exact⟨by rw[decide_eq_false (fun h_=>C3.out h_.2.2)];rfl,H519.out.ext⟩
 go_upto_region 7 with fail
 refine zy ?_;have H525:=zH (H474.out.step (Ext.refl w473).drew);have D525:=zH (Dig.of_ext (w:=w473) zb);refine zJ1 H474.out zb (bs 11 1) 0 _ ?_;refine mC 1 (bs 11 3) (pFrom 0 _ (by omega) (by omega)) ?_;rintro e w527 ⟨c_,rfl,hc_,hx⟩;have H529:=zH (H525.out.step hx);have D529:=zH (show Dig w473.drew w527 from Dig.of_ext hx);have S531:=zH (zb.trans hx);obtain⟨r528,rfl,hr_⟩:=hc_;have R528:=zH hr_;have B528:=zH (rl_i64 0 (by omega) (by omega));clear hr_ hx;refine zm S531.out ?_;have DD533:=tD (tD (tD (tD (tD (tD (tD (tD (tD D440 D445) D448) D453) D459) D464) D469) D474) D525) D529;refine mC 2 (bs 11 7) (pCmp (L:=60000) (RV.Is.nin (R434.out.dig DD533.out) (Nat.le_trans B434.out (by omega))) (RV.Is.nin R528.out (Nat.le_trans B528.out (by omega))) (by omega)) ?_;rintro e w532 ⟨rfl,hx⟩;have H534:=zH (H529.out.step hx);have S536:=zH (S531.out.trans hx);clear hx;refine zm S536.out ?_;refine zu 3 (bs 11 15) (v:= .bool false) S536.out ?_ (hv:=by intro w hSw;exact ezo (e:=(dec_f (fun hh=>C2.out (rcmp_ge_i.1 hh)))));refine zJ7 (Hp.start _) S536.out (bs 11 2047) 4 5 6 7 8 9 10 (.bool false) _ _ _ _ (.bool false) (.bool false) ?_;refine wpAnyH_done kR ?_ _;go_wp2_with fail
 go_ret
 exact⟨by rw[decide_eq_false (fun h_=>C2.out h_.2.1)];rfl,H534.out.ext⟩
end
section
theorem lessB_iff {a b:Int×Int}:lessB a b=true↔a.2<b.2\/(a.2=b.2/\a.1<b.1):=by
  unfold lessB;simp
theorem less_or {a b:Int×Int}(h:¬lessB a b=true)(k:¬lessB b a=true):a=b:=by
  rw[lessB_iff]at h k;exact Prod.ext (by omega) (by omega)
theorem less_asym {a b:Int×Int}(h:lessB a b=true):¬lessB b a=true:=by
  rw[lessB_iff]at h⊢;omega
theorem endL_swap (a b:Int×Int):endL b a=endL a b:=by
  unfold endL;by_cases h:lessB a b=true
  · rw[if_pos h,if_neg (less_asym h)]
  by_cases k:lessB b a=true
  · rw[if_neg h,if_pos k]
  rw[if_neg h,if_neg k,less_or h k]
theorem endH_swap (a b:Int×Int):endH b a=endH a b:=by
  unfold endH;by_cases h:lessB a b=true
  · rw[if_pos h,if_neg (less_asym h)]
  by_cases k:lessB b a=true
  · rw[if_neg h,if_pos k]
  rw[if_neg h,if_neg k,less_or h k]
theorem shL_swap (a b c d:Int×Int):shL c d a b=shL a b c d:=by
  unfold shL;by_cases h:lessB (endL a b) (endL c d)=true
  · rw[if_pos h,if_neg (less_asym h)]
  by_cases k:lessB (endL c d) (endL a b)=true
  · rw[if_neg h,if_pos k]
  rw[if_neg h,if_neg k,less_or h k]
theorem shH_swap (a b c d:Int×Int):shH c d a b=shH a b c d:=by
  unfold shH;by_cases h:lessB (endH a b) (endH c d)=true
  · rw[if_pos h,if_neg (less_asym h)]
  by_cases k:lessB (endH c d) (endH a b)=true
  · rw[if_neg h,if_pos k]
  rw[if_neg h,if_neg k,less_or h k]
theorem shared_swap (a b c d:Int×Int):sharedV c d a b=sharedV a b c d:=by unfold sharedV;rw[shL_swap,shH_swap]
theorem shared_rev (a b c d:Int×Int):sharedV b a c d=sharedV a b c d:=by
  unfold sharedV shL shH;rw[endL_swap a b,endH_swap a b]
theorem cr_neg {u v:Int×Int}:cr u v= -cr v u:=by unfold cr;grind
theorem cr_rev (a b c d:Int×Int):cr (dv b a) (dv c d)= -cr (dv a b) (dv c d):=by unfold cr dv;grind
theorem cast_neg_div (x y:Int):(((-x:Int)):Rat)/(((-y:Int)):Rat)=(x:Rat)/(y:Rat):=by
  rw[Rat.intCast_neg,Rat.intCast_neg];by_cases h:(y:Rat)=0
  · rw[h];simp[Rat.div_def]
  grind
theorem segT_swap (a b c d:Int×Int):segT c d a b=segS a b c d:=by
  unfold segT segS;rw[show cr (dv c a) (dv a b)= -cr (dv a c) (dv a b)by unfold cr dv;grind,show cr (dv c d) (dv a b)= -cr (dv a b) (dv c d)from cr_neg,cast_neg_div]
theorem segS_swap (a b c d:Int×Int):segS c d a b=segT a b c d:=by
  unfold segT segS;rw[show cr (dv c a) (dv c d)= -cr (dv a c) (dv c d)by unfold cr dv;grind,show cr (dv c d) (dv a b)= -cr (dv a b) (dv c d)from cr_neg,cast_neg_div]
theorem segT_rev {a b c d:Int×Int}(h:cr (dv a b) (dv c d)≠0):segT b a c d=1-segT a b c d:=by
  unfold segT;rw[show cr (dv b c) (dv c d)=cr (dv a c) (dv c d)-cr (dv a b) (dv c d)by unfold cr dv;grind,cr_rev a b c d];have h2:((cr (dv a b) (dv c d):Int):Rat)≠0:=fun e=>h (by exact_mod_cast e)
  rw[Rat.intCast_sub,Rat.intCast_neg];grind
theorem segS_rev (a b c d:Int×Int):segS b a c d=segS a b c d:=by
  unfold segS;rw[show cr (dv b c) (dv b a)= -cr (dv a c) (dv a b)by unfold cr dv;grind,cr_rev a b c d,cast_neg_div]
theorem inU_rev {x:Rat}:inU (1-x)↔inU x:=by
  unfold inU;constructor<;>intro h<;>exact⟨by grind,by grind⟩
theorem dv_zero {a b:Int×Int}:dv a b=(0,0)↔a=b:=by
  unfold dv;constructor
  · intro h;injection h with h1 h2;exact Prod.ext (by omega) (by omega)
  intro h;subst h;simp
theorem line_zero {a b c d:Int×Int}:lineV a b c d=(0,0)↔a=b/\c=d:=by
  unfold lineV;split
  · rename_i h;rw[dv_zero]at h;rw[dv_zero];exact⟨fun k=>⟨h,k⟩,fun k=>k.2⟩
  rename_i h;exact⟨fun k=>absurd k h,fun k=>absurd (dv_zero.2 k.1) h⟩
def offL (a b c d:Int×Int):Prop:=cr (lineV a b c d) (dv a c)≠0\/(lineV a b c d=(0,0)/\a≠c)
theorem par_cr {u v z:Int×Int}(hu:u≠(0,0))(h:cr u v=0)(k:cr u z=0):cr v z=0:=by
  obtain⟨u1,u2⟩:=u;obtain⟨v1,v2⟩:=v;obtain⟨z1,z2⟩:=z;unfold cr at h k⊢;dsimp only at h k⊢
  have hu2:u1≠0\/u2≠0:=by
    by_cases e:u1=0
    · right;intro e2;exact hu (by rw[e,e2])
    exact .inl e
  rcases hu2 with e|e
  · have:u1*(v1*z2-v2*z1)=0:=by grind
    exact(Int.mul_eq_zero.1 this).resolve_left e
  have:u2*(v1*z2-v2*z1)=0:=by grind
  exact(Int.mul_eq_zero.1 this).resolve_left e
theorem offL_swap1 {a b c d:Int×Int}(h0:cr (dv a b) (dv c d)=0)(h:offL c d a b):offL a b c d:=by
 unfold offL at h⊢;rcases h with h|⟨h1,h2⟩
 ·left
  intro k;apply h;have hz:cr (lineV a b c d) (dv c a)=0:=by
   have:cr (lineV a b c d) (dv c a)= -cr (lineV a b c d) (dv a c):=by unfold cr dv;grind
   omega
  by_cases e1:dv a b=(0,0)
  ·have e3:lineV a b c d=dv c d:=if_pos e1
   rw[e3]at hz;by_cases e2:dv c d=(0,0)
   ·rw[show lineV c d a b=dv a b from if_pos e2,e1];unfold cr;simp
   rw[show lineV c d a b=dv c d from if_neg e2];exact hz
  have e3:lineV a b c d=dv a b:=if_neg e1;rw[e3]at hz;by_cases e2:dv c d=(0,0)
  ·rw[show lineV c d a b=dv a b from if_pos e2];exact hz
  rw[show lineV c d a b=dv c d from if_neg e2];exact par_cr e1 h0 hz
 rw[line_zero]at h1;exact .inr ⟨line_zero.2 ⟨h1.2,h1.1⟩,fun e=>h2 e.symm⟩
theorem offL_swap {a b c d:Int×Int}(h0:cr (dv a b) (dv c d)=0):offL c d a b↔offL a b c d:=
  ⟨offL_swap1 h0,offL_swap1 (by rw[cr_neg,h0];rfl)⟩
theorem offL_rev1 {a b c d:Int×Int}(h:offL b a c d):offL a b c d:=by
  unfold offL at h⊢;by_cases e:a=b
  · subst e;exact h
  have e1:lineV a b c d=dv a b:=if_neg (fun k=>e (dv_zero.1 k));have e2:lineV b a c d=dv b a:=if_neg (fun k=>e (dv_zero.1 k).symm);rw[e2]at h;rw[e1];rcases h with h|⟨h1,_⟩
  · left
    intro k;apply h;have:cr (dv b a) (dv b c)= -cr (dv a b) (dv a c):=by unfold cr dv;grind
    omega
  exact absurd (dv_zero.1 h1).symm e
theorem offL_rev {a b c d:Int×Int}:offL b a c d↔offL a b c d:=⟨offL_rev1,offL_rev1⟩
theorem segN_l {a b c d:Int×Int}(h:cr (dv a b) (dv c d)=0):segN a b c d=(open Classical in if offL a b c d then 0 else(sharedV a b c d).2):=by
  unfold segN;rw[if_neg (by simpa using h)];by_cases k:offL a b c d
  · rw[if_pos k];exact if_pos k
  rw[if_neg k];exact if_neg k
theorem segN_p {a b c d:Int×Int}(h:cr (dv a b) (dv c d)≠0):segN a b c d=if inU (segT a b c d)/\inU (segS a b c d)then 1 else 0:=if_pos h
theorem segN_swap (a b c d:Int×Int):segN c d a b=segN a b c d:=by
  by_cases h:cr (dv a b) (dv c d)=0
  · rw[segN_l h,segN_l (by rw[cr_neg,h];rfl),shared_swap]
    by_cases k:offL a b c d
    · rw[if_pos k,if_pos ((offL_swap h).2 k)]
    rw[if_neg k,if_neg (fun e=>k ((offL_swap h).1 e))]
  rw[segN_p h,segN_p (by rw[cr_neg];omega),segT_swap a b c d,segS_swap a b c d];by_cases k:inU (segT a b c d)/\inU (segS a b c d)
  · rw[if_pos k,if_pos k.symm]
  rw[if_neg k,if_neg (fun e=>k e.symm)]
theorem segN_rev (a b c d:Int×Int):segN b a c d=segN a b c d:=by
  by_cases h:cr (dv a b) (dv c d)=0
  · rw[segN_l h,segN_l (by rw[cr_rev,h];rfl),shared_rev]
    by_cases k:offL a b c d
    · rw[if_pos k,if_pos (offL_rev.2 k)]
    rw[if_neg k,if_neg (fun e=>k (offL_rev.1 e))]
  rw[segN_p h,segN_p (by rw[cr_rev];omega),segT_rev h,segS_rev];by_cases k:inU (segT a b c d)/\inU (segS a b c d)
  · rw[if_pos k,if_pos ⟨inU_rev.2 k.1,k.2⟩]
  rw[if_neg k,if_neg (fun e=>k ⟨inU_rev.1 e.1,e.2⟩)]
theorem segN_rev2 (a b c d:Int×Int):segN a b d c=segN a b c d:=by rw[<-segN_swap,segN_rev,segN_swap]
theorem cr_rat {u v:Int×Int}:((cr u v:Int):Rat)=(u.1:Rat)*(v.2:Rat)-(u.2:Rat)*(v.1:Rat):=by unfold cr;rw[Rat.intCast_sub,Rat.intCast_mul,Rat.intCast_mul]
theorem dv1 (a b:Int×Int):(((dv a b).1:Int):Rat)=(b.1:Rat)-(a.1:Rat):=by unfold dv;rw[Rat.intCast_sub]
theorem dv2 (a b:Int×Int):(((dv a b).2:Int):Rat)=(b.2:Rat)-(a.2:Rat):=by unfold dv;rw[Rat.intCast_sub]
theorem pt_swap {a b c d:Int×Int}(h:cr (dv a b) (dv c d)≠0):
  (c.1:Rat)+segS a b c d*((d.1-c.1:Int):Rat)=(a.1:Rat)+segT a b c d*((b.1-a.1:Int):Rat)/\(c.2:Rat)+segS a b c d*((d.2-c.2:Int):Rat)=(a.2:Rat)+segT a b c d*((b.2-a.2:Int):Rat):=by
 have h2:((cr (dv a b) (dv c d):Int):Rat)≠0:=fun e=>h (by exact_mod_cast e)
 unfold segS segT;rw[Rat.intCast_sub,Rat.intCast_sub,Rat.intCast_sub,Rat.intCast_sub];simp only[cr_rat,dv1,dv2]at h2⊢;generalize (a.1:Rat)=a1 at*
 generalize (a.2:Rat)=a2 at*
 generalize (b.1:Rat)=b1 at*
 generalize (b.2:Rat)=b2 at*
 generalize (c.1:Rat)=c1 at*
 generalize (c.2:Rat)=c2 at*
 generalize (d.1:Rat)=d1 at*
 generalize (d.2:Rat)=d2 at*
 constructor<;>grind
theorem segX_swap {a b c d:Int×Int}:segX c d a b=segX a b c d:=by
  unfold segX;by_cases h:cr (dv a b) (dv c d)=0
  · rw[if_neg (by rw[cr_neg,h];decide),if_neg (by rw[h];decide),shared_swap]
  rw[if_pos (by rw[cr_neg];omega),if_pos h,segT_swap];exact(pt_swap h).1
theorem segY_swap {a b c d:Int×Int}:segY c d a b=segY a b c d:=by
  unfold segY;by_cases h:cr (dv a b) (dv c d)=0
  · rw[if_neg (by rw[cr_neg,h];decide),if_neg (by rw[h];decide),shared_swap]
  rw[if_pos (by rw[cr_neg];omega),if_pos h,segT_swap];exact(pt_swap h).2
theorem segX_rev {a b c d:Int×Int}:segX b a c d=segX a b c d:=by
  unfold segX;by_cases h:cr (dv a b) (dv c d)=0
  · rw[if_neg (by rw[cr_rev,h];decide),if_neg (by rw[h];decide),shared_rev]
  rw[if_pos (by rw[cr_rev];omega),if_pos h,segT_rev h,Rat.intCast_sub,Rat.intCast_sub];grind
theorem segY_rev {a b c d:Int×Int}:segY b a c d=segY a b c d:=by
  unfold segY;by_cases h:cr (dv a b) (dv c d)=0
  · rw[if_neg (by rw[cr_rev,h];decide),if_neg (by rw[h];decide),shared_rev]
  rw[if_pos (by rw[cr_rev];omega),if_pos h,segT_rev h,Rat.intCast_sub,Rat.intCast_sub];grind
theorem segX_rev2 {a b c d:Int×Int}:segX a b d c=segX a b c d:=by rw[<-segX_swap,segX_rev,segX_swap]
theorem segY_rev2 {a b c d:Int×Int}:segY a b d c=segY a b c d:=by rw[<-segY_swap,segY_rev,segY_swap]
def onC (a b:Int×Int)(x y:Rat):Prop:=
  (x-(a.1:Rat))*((b.2-a.2:Int):Rat)=(y-(a.2:Rat))*((b.1-a.1:Int):Rat)/\(((min a.1 b.1:Int):Rat)<=x/\x<=((max a.1 b.1:Int):Rat))/\(((min a.2 b.2:Int):Rat)<=y/\y<=((max a.2 b.2:Int):Rat))
theorem lerp_bd {p q:Int}{t:Rat}(h:inU t):((min p q:Int):Rat)<=(p:Rat)+t*((q-p:Int):Rat)/\(p:Rat)+t*((q-p:Int):Rat)<=((max p q:Int):Rat):=by
 unfold inU at h;have h1:(0:Rat)<=t:=by have:=Rat.not_lt.1 h.1;simpa using this
 have h2:t<=1:=by have:=Rat.not_lt.1 h.2;simpa using this
 rw[Rat.intCast_sub];rcases Int.le_total p q with k|k
 ·rw[Int.min_eq_left k,Int.max_eq_right k]
  have k2:(p:Rat)<=(q:Rat):=by exact_mod_cast k
  have m1:=Rat.mul_nonneg h1 (show(0:Rat)<=(q:Rat)-(p:Rat)by grind);have m2:=Rat.mul_nonneg (show(0:Rat)<=1-t by grind) (show(0:Rat)<=(q:Rat)-(p:Rat)by grind);constructor<;>grind
 rw[Int.min_eq_right k,Int.max_eq_left k];have k2:(q:Rat)<=(p:Rat):=by exact_mod_cast k
 have m1:=Rat.mul_nonneg h1 (show(0:Rat)<=(p:Rat)-(q:Rat)by grind);have m2:=Rat.mul_nonneg (show(0:Rat)<=1-t by grind) (show(0:Rat)<=(p:Rat)-(q:Rat)by grind);constructor<;>grind
theorem onC_lerp {a b:Int×Int}{t:Rat}(h:inU t):onC a b ((a.1:Rat)+t*((b.1-a.1:Int):Rat)) ((a.2:Rat)+t*((b.2-a.2:Int):Rat)):=
  ⟨by grind,lerp_bd h,lerp_bd h⟩
def onI (a b p:Int×Int):Prop:=cr (dv a b) (dv a p)=0/\(min a.1 b.1<=p.1/\p.1<=max a.1 b.1)/\(min a.2 b.2<=p.2/\p.2<=max a.2 b.2)
theorem onI_onC {a b p:Int×Int}(h:onI a b p):onC a b (p.1:Rat) (p.2:Rat):=by
  obtain⟨h1,⟨h2,h3⟩,h4,h5⟩:=h;refine⟨?_,⟨by exact_mod_cast h2,by exact_mod_cast h3⟩,by exact_mod_cast h4,by exact_mod_cast h5⟩;have h6:(p.1-a.1)*(b.2-a.2)=(p.2-a.2)*(b.1-a.1):=by unfold cr dv at h1;grind
  have h7:(((p.1-a.1)*(b.2-a.2):Int):Rat)=(((p.2-a.2)*(b.1-a.1):Int):Rat):=by rw[h6]
  rw[Rat.intCast_mul,Rat.intCast_mul,Rat.intCast_sub p.1,Rat.intCast_sub p.2]at h7;exact h7
def leL (a b:Int×Int):Prop:=a.2<b.2\/(a.2=b.2/\a.1<=b.1)
theorem leL_iff {a b:Int×Int}:leL a b↔¬lessB b a=true:=by rw[lessB_iff];unfold leL;omega
theorem leL_trans {a b c:Int×Int}(h:leL a b)(k:leL b c):leL a c:=by unfold leL at*;omega
theorem endL_or (a b:Int×Int):(leL a b/\endL a b=a/\endH a b=b)\/(leL b a/\endL a b=b/\endH a b=a):=by
  unfold endL endH;by_cases h:lessB b a=true
  · rw[if_pos h,if_pos h];right;refine⟨?_,rfl,rfl⟩;rw[lessB_iff]at h;unfold leL;omega
  rw[if_neg h,if_neg h];left;exact⟨leL_iff.2 h,rfl,rfl⟩
theorem endL_le (a b:Int×Int):leL (endL a b) a/\leL (endL a b) b/\leL a (endH a b)/\leL b (endH a b):=by
  have r:∀x:Int×Int,leL x x:=fun x=> .inr ⟨rfl,Int.le_refl _⟩
  rcases endL_or a b with⟨h,e1,e2⟩|⟨h,e1,e2⟩<;>rw[e1,e2]
  · exact⟨r a,h,h,r b⟩
  exact⟨h,r b,r a,h⟩
theorem shL_or (a b c d:Int×Int):leL (endL a b) (shL a b c d)/\leL (endL c d) (shL a b c d)/\(shL a b c d=endL a b\/shL a b c d=endL c d):=by
  have r:∀x:Int×Int,leL x x:=fun x=> .inr ⟨rfl,Int.le_refl _⟩
  unfold shL;by_cases h:lessB (endL a b) (endL c d)=true
  · rw[if_pos h];exact⟨leL_iff.2 (less_asym h),r _,.inr rfl⟩
  rw[if_neg h];exact⟨r _,leL_iff.2 h,.inl rfl⟩
theorem shH_or (a b c d:Int×Int):leL (shH a b c d) (endH a b)/\leL (shH a b c d) (endH c d)/\(shH a b c d=endH a b\/shH a b c d=endH c d):=by
  have r:∀x:Int×Int,leL x x:=fun x=> .inr ⟨rfl,Int.le_refl _⟩
  unfold shH;by_cases h:lessB (endH c d) (endH a b)=true
  · rw[if_pos h];exact⟨leL_iff.2 (less_asym h),r _,.inr rfl⟩
  rw[if_neg h];exact⟨r _,leL_iff.2 h,.inl rfl⟩
theorem nn_of {x k y z:Int}(hk:0<k)(h:x*k=y*z)(hy:0<=y)(hz:0<=z):0<=x:=by
  have h1:=Int.mul_nonneg hy hz;rcases Int.lt_or_le x 0 with hx|hx
  · have h2:=Int.mul_neg_of_neg_of_pos hx hk
    omega
  exact hx
theorem mid_box {a b p:Int×Int}(h:cr (dv a b) (dv a p)=0)(h1:leL a p)(h2:leL p b):onI a b p:=by
 refine⟨h,?_,by unfold leL at*;omega⟩;unfold leL at h1 h2;have e:(p.1-a.1)*(b.2-a.2)=(p.2-a.2)*(b.1-a.1):=by unfold cr dv at h;grind
 by_cases hy:a.2=b.2
 ·omega
 have hk:0<b.2-a.2:=by omega
 rcases Int.le_total a.1 b.1 with hx|hx
 ·have k1:=nn_of hk e (by omega) (by omega)
  have k2:=nn_of (x:=b.1-p.1) (y:=b.2-p.2) (z:=b.1-a.1) hk (by grind) (by omega) (by omega);omega
 have k1:=nn_of (x:=a.1-p.1) (y:=p.2-a.2) (z:=a.1-b.1) hk (by grind) (by omega) (by omega);have k2:=nn_of (x:=p.1-b.1) (y:=b.2-p.2) (z:=a.1-b.1) hk (by grind) (by omega) (by omega);omega
theorem onI_rev {a b p:Int×Int}(h:onI b a p):onI a b p:=by
  obtain⟨h1,h2,h3⟩:=h;refine⟨?_,by omega,by omega⟩;have:cr (dv a b) (dv a p)= -cr (dv b a) (dv b p):=by unfold cr dv;grind
  omega
theorem mid_on {a b p:Int×Int}(h:cr (dv a b) (dv a p)=0)(h1:leL (endL a b) p)(h2:leL p (endH a b)):onI a b p:=by
  rcases endL_or a b with⟨_,e1,e2⟩|⟨_,e1,e2⟩
  · rw[e1]at h1;rw[e2]at h2
    exact mid_box h h1 h2
  rw[e1]at h1;rw[e2]at h2;refine onI_rev (mid_box ?_ h1 h2);have:cr (dv b a) (dv b p)= -cr (dv a b) (dv a p):=by unfold cr dv;grind
  omega
theorem on_mid {a b p:Int×Int}(h:onI a b p):leL (endL a b) p/\leL p (endH a b):=by
 obtain⟨h1,h2,h3⟩:=h;have e:(p.1-a.1)*(b.2-a.2)=(p.2-a.2)*(b.1-a.1):=by unfold cr dv at h1;grind
 have ka:p.2=a.2->a.2≠b.2->p.1=a.1:=by
  intro q r;rw[q,Int.sub_self,Int.zero_mul]at e;have:=(Int.mul_eq_zero.1 e).resolve_right (by omega);omega
 have e2:(p.1-b.1)*(b.2-a.2)=(p.2-b.2)*(b.1-a.1):=by grind
 have kb:p.2=b.2->a.2≠b.2->p.1=b.1:=by
  intro q r;rw[q,Int.sub_self,Int.zero_mul]at e2;have:=(Int.mul_eq_zero.1 e2).resolve_right (by omega);omega
 rcases endL_or a b with⟨k,e1,e2⟩|⟨k,e1,e2⟩<;>rw[e1,e2]<;>unfold leL at* <;>by_cases q:a.2=b.2<;>omega
theorem line_on {a b c d:Int×Int}(h0:cr (dv a b) (dv c d)=0)(h:¬offL a b c d)(h1:(sharedV a b c d).2=1):onI a b (sharedV a b c d).1:=by
 have hs:¬lessB (shH a b c d) (shL a b c d)=true/\shL a b c d=shH a b c d/\(sharedV a b c d).1=shL a b c d:=by
  unfold sharedV at h1⊢;by_cases k:lessB (shH a b c d) (shL a b c d)=true
  ·rw[if_pos k]at h1;cases h1
  rw[if_neg k]at h1⊢;by_cases e:shL a b c d=shH a b c d
  ·rw[if_pos e];exact⟨k,e,rfl⟩
  rw[if_neg e]at h1;cases h1
 obtain⟨_,e,e3⟩:=hs;rw[e3];obtain⟨l1,l2,l3⟩:=shL_or a b c d;obtain⟨u1,u2,u3⟩:=shH_or a b c d;rw[<-e]at u1 u2 u3;refine mid_on ?_ l1 u1;by_cases q:a=b
 ·subst q;unfold cr dv;simp
 have hl:lineV a b c d=dv a b:=if_neg (fun k=>q (dv_zero.1 k));have hc:cr (dv a b) (dv a c)=0:=by
  rcases Int.lt_trichotomy (cr (dv a b) (dv a c)) 0 with k|k|k
  ·exact absurd (.inl (by rw[hl];omega)) h
  ·exact k
  exact absurd (.inl (by rw[hl];omega)) h
 have hd:cr (dv a b) (dv a d)=0:=by
  have:cr (dv a b) (dv a d)=cr (dv a b) (dv a c)+cr (dv a b) (dv c d):=by unfold cr dv;grind
  omega
 have ha:cr (dv a b) (dv a a)=0:=by unfold cr dv;simp
 have hb:cr (dv a b) (dv a b)=0:=by unfold cr;grind
 rcases l3 with k|k<;>rw[k]
 ·rcases endL_or a b with⟨_,e1,_⟩|⟨_,e1,_⟩<;>rw[e1]<;>assumption
 rcases endL_or c d with⟨_,e1,_⟩|⟨_,e1,_⟩<;>rw[e1]<;>assumption
theorem seg_on {a b c d:Int×Int}(h:segN a b c d=1):onC a b (segX a b c d) (segY a b c d):=by
  by_cases h0:cr (dv a b) (dv c d)=0
  · rw[segN_l h0]at h
    by_cases k:offL a b c d
    · rw[if_pos k]at h;cases h
    rw[if_neg k]at h;have:=onI_onC (line_on h0 k h);unfold segX segY;rw[if_neg (by simpa using h0),if_neg (by simpa using h0)];exact this
  rw[segN_p h0]at h;by_cases k:inU (segT a b c d)/\inU (segS a b c d)
  · unfold segX segY
    rw[if_pos h0,if_pos h0];exact onC_lerp k.1
  rw[if_neg k]at h;cases h
theorem seg_on2 {a b c d:Int×Int}(h:segN a b c d=1):onC c d (segX a b c d) (segY a b c d):=by
  rw[<-segX_swap,<-segY_swap];exact seg_on (by rw[segN_swap];exact h)
theorem inU_of {p q r:Int}{t:Rat}(hpq:p≠q)(h:(p:Rat)+t*((q-p:Int):Rat)=(r:Rat))(h1:min p q<=r)(h2:r<=max p q):inU t:=by
 rw[Rat.intCast_sub]at h;have key:∀(x k:Rat),0<k->0<=x*k->0<=x:=by
  intro x k hk hx;by_cases q:x<0
  ·have:=Rat.mul_pos (show 0< -x by grind) hk
   grind
  exact Rat.not_lt.1 q
 have hh:0<=t/\0<=1-t:=by
  rcases Int.lt_or_lt_of_ne hpq with k|k
  ·have k1:(p:Rat)<(q:Rat):=by exact_mod_cast k
   have k2:(p:Rat)<=(r:Rat):=by exact_mod_cast (show p<=r by omega)
   have k3:(r:Rat)<=(q:Rat):=by exact_mod_cast (show r<=q by omega)
   exact⟨key t ((q:Rat)-p) (by grind) (by grind),key (1-t) ((q:Rat)-p) (by grind) (by grind)⟩
  have k1:(q:Rat)<(p:Rat):=by exact_mod_cast k
  have k2:(q:Rat)<=(r:Rat):=by exact_mod_cast (show q<=r by omega)
  have k3:(r:Rat)<=(p:Rat):=by exact_mod_cast (show r<=p by omega)
  exact⟨key t ((p:Rat)-q) (by grind) (by grind),key (1-t) ((p:Rat)-q) (by grind) (by grind)⟩
 unfold inU;exact⟨Rat.not_lt.2 (by simpa using hh.1),Rat.not_lt.2 (by have:=hh.2;grind)⟩
theorem on_seg {a b c d:Int×Int}(h:onI a b c):segN a b c d≠0:=by
 by_cases h0:cr (dv a b) (dv c d)=0
 ·have hno:¬offL a b c d:=by
   by_cases q:a=b
   ·subst q
    have hca:a=c:=Prod.ext (by have:=h.2.1;omega) (by have:=h.2.2;omega);subst hca;rintro(k|k)
    ·exact k (by unfold cr dv;simp)
    exact k.2 rfl
   have hl:lineV a b c d=dv a b:=if_neg (fun k=>q (dv_zero.1 k));rintro(k|k)
   ·rw[hl]at k;exact k h.1
   rw[hl]at k;exact q (dv_zero.1 k.1)
  rw[segN_l h0,if_neg hno];obtain⟨m1,m2⟩:=on_mid h;obtain⟨c1,_,c3,_⟩:=endL_le c d;obtain⟨a1,_,a3,_⟩:=endL_le a b;have hle:leL (shL a b c d) (shH a b c d):=by
   rcases(shL_or a b c d).2.2 with k|k<;>rcases(shH_or a b c d).2.2 with j|j<;>rw[k,j]
   ·exact leL_trans a1 a3
   ·exact leL_trans m1 c3
   ·exact leL_trans c1 m2
   exact leL_trans c1 c3
  unfold sharedV;rw[if_neg (leL_iff.1 hle)];split
  ·exact(show(1:Int)≠0 by decide)
  exact(show(2:Int)≠0 by decide)
 rw[segN_p h0];have hS:segS a b c d=0:=by
  unfold segS;rw[show cr (dv a c) (dv a b)=0 by rw[cr_neg,h.1];rfl];simp[Rat.div_def]
 have hp:=pt_swap h0;rw[hS,Rat.zero_mul,Rat.zero_mul,Rat.add_zero,Rat.add_zero]at hp;have hT:inU (segT a b c d):=by
  by_cases q:a.1=b.1
  ·refine inU_of (p:=a.2) (q:=b.2) (r:=c.2) (fun q2=>h0 ?_) hp.2.symm h.2.2.1 h.2.2.2
   rw[show dv a b=(0,0)from dv_zero.2 (Prod.ext q q2)];unfold cr;simp
  exact inU_of q hp.1.symm h.2.1.1 h.2.1.2
 rw[if_pos ⟨hT,by rw[hS];unfold inU;exact⟨by decide,by decide⟩⟩];decide
theorem seg_bd (a b c d:Int×Int):0<=segN a b c d/\segN a b c d<=2:=by
  unfold segN;have:=shared_bd a b c d;split
  · split<;>decide
  split
  · decide
  exact this
def Bx (d u:Rat):Prop:=(0<=d->0<=u/\u<=d)/\(d<=0->d<=u/\u<=0)
theorem box_bx {p q:Int}{x:Rat}:(((min p q:Int):Rat)<=x/\x<=((max p q:Int):Rat))↔Bx ((q:Rat)-(p:Rat)) (x-(p:Rat)):=by
 unfold Bx;rcases Int.le_total p q with k|k
 ·rw[Int.min_eq_left k,Int.max_eq_right k]
  have k2:(p:Rat)<=(q:Rat):=by exact_mod_cast k
  constructor
  ·intro h;exact⟨fun _=>⟨by grind,by grind⟩,fun _=>⟨by grind,by grind⟩⟩
  intro h;have:=h.1 (by grind);exact⟨by grind,by grind⟩
 rw[Int.min_eq_right k,Int.max_eq_left k];have k2:(q:Rat)<=(p:Rat):=by exact_mod_cast k
 constructor
 ·intro h;exact⟨fun _=>⟨by grind,by grind⟩,fun _=>⟨by grind,by grind⟩⟩
 intro h;have:=h.2 (by grind);exact⟨by grind,by grind⟩
theorem nnq {k x:Rat}(hk:0<k)(h:0<=k*x):0<=x:=by
  by_cases q:x<0
  · have:=Rat.mul_pos hk (show 0< -x by grind)
    grind
  exact Rat.not_lt.1 q
theorem bx_of {d n s u:Rat}(hn:0<n)(h:n*u=d*s)(h0:0<=s)(h1:s<=n):Bx d u:=by
  constructor
  · intro hd
    have k1:=Rat.mul_nonneg hd h0;have k2:=Rat.mul_nonneg hd (show 0<=n-s by grind);exact⟨nnq hn (by grind),by have:=nnq (x:=d-u) hn (by grind);grind⟩
  intro hd;have k1:=Rat.mul_nonneg (show 0<= -d by grind) h0;have k2:=Rat.mul_nonneg (show 0<= -d by grind) (show 0<=n-s by grind);exact⟨by have:=nnq (x:=u-d) hn (by grind);grind,by have:=nnq (x:= -u) hn (by grind);grind⟩
theorem bx_dot {d u:Rat}(h:Bx d u):0<=d*u/\d*u<=d*d:=by
  rcases Rat.le_total (a:=0) (b:=d)with k|k
  · obtain⟨h1,h2⟩:=h.1 k
    have k1:=Rat.mul_nonneg k h1;have k2:=Rat.mul_nonneg k (show 0<=d-u by grind);exact⟨k1,by grind⟩
  obtain⟨h1,h2⟩:=h.2 k;have k1:=Rat.mul_nonneg (show 0<= -d by grind) (show 0<= -u by grind);have k2:=Rat.mul_nonneg (show 0<= -d by grind) (show 0<=u-d by grind);exact⟨by grind,by grind⟩
theorem sq_pos {d e:Rat}(h:d≠0\/e≠0):0<d*d+e*e:=by
 have s:∀x:Rat,0<=x*x:=by
  intro x;rcases Rat.le_total (a:=0) (b:=x)with k|k
  ·exact Rat.mul_nonneg k k
  have:=Rat.mul_nonneg (show 0<= -x by grind) (show 0<= -x by grind);grind
 have p:∀x:Rat,x≠0->0<x*x:=by
  intro x hx;rcases Rat.le_total (a:=0) (b:=x)with k|k
  ·have:0<x:=by grind
   exact Rat.mul_pos this this
  have:0< -x:=by grind
  have:=Rat.mul_pos this this;grind
 rcases h with h|h
 ·have:=p d h;have:=s e;grind
 have:=p e h;have:=s d;grind
theorem cast_ne {p q:Int}(h:p≠q):(q:Rat)-(p:Rat)≠0:=by
  intro e;apply h;have:(q:Rat)=(p:Rat):=by grind
  exact_mod_cast this.symm
def conR (a b:Int×Int)(p:Rat×Rat):Prop:=if a.2=b.2 then p.2=(a.2:Rat)/\((min a.1 b.1:Int):Rat)<=p.1/\p.1<=((max a.1 b.1:Int):Rat)else xatC a b p.2/\xatQ a b p.2=p.1
theorem conR_on {a b:Int×Int}{p:Rat×Rat}(ha:okP a)(hb:okP b)(h:a≠b):conR a b p↔onC a b p.1 p.2:=by
 unfold conR;by_cases k:a.2=b.2
 ·rw[if_pos k]
  have k1:a.1≠b.1:=fun e=>h (Prod.ext e k)
  have hd:=cast_ne k1;unfold onC;rw[<-k,Int.min_self,Int.max_self,Int.sub_self,Rat.intCast_zero,Rat.intCast_sub];generalize (b.1:Rat)-(a.1:Rat)=d at*
  constructor
  ·rintro⟨h1,h2,h3⟩
   exact⟨by grind,⟨h2,h3⟩,by grind,by grind⟩
  rintro⟨_,h2,h3,h4⟩;exact⟨by grind,h2⟩
 rw[if_neg k];have hf:=cast_ne k;constructor
 ·rintro⟨h1,h2⟩
  have hb2:=box_bx.1 h1.2.2.2;unfold xatQ at h2;rw[Rat.intCast_sub,Rat.intCast_sub,Rat.intCast_one]at h2;unfold onC;rw[box_bx,box_bx,Rat.intCast_sub,Rat.intCast_sub];have e:(p.1-(a.1:Rat))*((b.2:Rat)-(a.2:Rat))=(p.2-(a.2:Rat))*((b.1:Rat)-(a.1:Rat)):=by
   generalize (b.2:Rat)-(a.2:Rat)=f at*
   generalize (b.1:Rat)-(a.1:Rat)=d at*
   generalize p.2-(a.2:Rat)=v at*
   grind
  refine⟨e,?_,hb2⟩;have hN:=sq_pos (d:=(b.2:Rat)-(a.2:Rat)) (e:=0) (.inl hf);have kd:=bx_dot hb2;generalize (b.2:Rat)-(a.2:Rat)=f at*
  generalize (b.1:Rat)-(a.1:Rat)=d at*
  generalize p.2-(a.2:Rat)=v at*
  generalize p.1-(a.1:Rat)=u at*
  exact bx_of (s:=f*v) (n:=f*f) (by grind) (by grind) kd.1 kd.2
 rintro⟨h1,h2,h3⟩;refine⟨⟨ha,hb,k,h3⟩,?_⟩;unfold xatQ;rw[Rat.intCast_sub,Rat.intCast_sub,Rat.intCast_one];rw[Rat.intCast_sub,Rat.intCast_sub]at h1;generalize (b.2:Rat)-(a.2:Rat)=f at*
 generalize (b.1:Rat)-(a.1:Rat)=d at*
 generalize p.2-(a.2:Rat)=v at*
 generalize hu:p.1-(a.1:Rat)=u at*
 have:p.1=(a.1:Rat)+u:=by grind
 rw[this];grind
theorem on_none {a b c d:Int×Int}(h:segN a b c d=0):¬onI a b c/\¬onI a b d/\¬onI c d a/\¬onI c d b:=
  ⟨fun k=>on_seg k h,fun k=>on_seg k (by rw[segN_rev2];exact h),fun k=>on_seg k (by rw[segN_swap];exact h),fun k=>on_seg k (by rw[segN_rev2,segN_swap];exact h)⟩
theorem xat_on {a b:Int×Int}{y:Rat}(h:xatC a b y):onC a b (xatQ a b y) y:=by
  have hne:a≠b:=fun e=>h.2.2.1 (by rw[e])
  refine(conR_on (p:=(xatQ a b y,y)) h.1 h.2.1 hne).1 ?_;unfold conR;rw[if_neg h.2.2.1];exact⟨h,rfl⟩
theorem yat_on {a b:Int×Int}{x:Int}(h:yatC a b x):onC a b (x:Rat) (yatQ a b x):=by
 have hd:=cast_ne h.2.2.1;have hb1:Bx ((b.1:Rat)-(a.1:Rat)) ((x:Rat)-(a.1:Rat)):=box_bx.1 ⟨by exact_mod_cast h.2.2.2.1,by exact_mod_cast h.2.2.2.2⟩;unfold onC;rw[box_bx,box_bx];have e:((x:Rat)-(a.1:Rat))*((b.2:Rat)-(a.2:Rat))=(yatQ a b x-(a.2:Rat))*((b.1:Rat)-(a.1:Rat)):=by
  unfold yatQ;rw[Rat.intCast_sub,Rat.intCast_sub,Rat.intCast_sub];generalize (b.1:Rat)-(a.1:Rat)=d at*
  generalize (b.2:Rat)-(a.2:Rat)=f at*
  generalize (x:Rat)-(a.1:Rat)=u at*
  grind
 have hN:=sq_pos (d:=(b.1:Rat)-(a.1:Rat)) (e:=0) (.inl hd);have kd:=bx_dot hb1;rw[Rat.intCast_sub,Rat.intCast_sub];refine⟨e,hb1,?_⟩;generalize (b.1:Rat)-(a.1:Rat)=d at*
 generalize (b.2:Rat)-(a.2:Rat)=f at*
 generalize (x:Rat)-(a.1:Rat)=u at*
 generalize yatQ a b x-(a.2:Rat)=v at*
 exact bx_of (s:=d*u) (n:=d*d) (by grind) (by grind) kd.1 kd.2
theorem yat_iff {a b:Int×Int}{x:Int}(ha:okP a)(hb:okP b):yatC a b x↔a.1≠b.1/\min a.1 b.1<=x/\x<=max a.1 b.1:=⟨fun h=>h.2.2,fun h=>⟨ha,hb,h⟩⟩
theorem xat_iff {a b:Int×Int}{x:Int}(ha:okP a)(hb:okP b):xatC a b (x:Rat)↔a.2≠b.2/\min a.2 b.2<=x/\x<=max a.2 b.2:=by
  unfold xatC;constructor
  · rintro⟨_,_,h1,h2,h3⟩;exact⟨h1,by exact_mod_cast h2,by exact_mod_cast h3⟩
  rintro⟨h1,h2,h3⟩;exact⟨ha,hb,h1,by exact_mod_cast h2,by exact_mod_cast h3⟩
end
section
attribute [local go_sem ↓] Go.wp_at_zero Go.wp_at_succ run_max_ii run_min_ii
theorem same17I_any (n m:Bool)(u v:Value)(z:Int)(w:World)(hu:IntC w n u z)(hv:IntC w m v z)(hL:Nm.nl z.natAbs<=1000000):
    Calls Tryz.prog 27 #[.agg #[.bool n,u],.agg #[.bool m,v]] w fun e w'=>e= .returned (.bool true)/\Ext w w':=by
  obtain⟨rfl,p,cp,rfl,_,_,h3⟩:=hu;obtain⟨rfl,q,cq,rfl,_,_,h4⟩:=hv;unfold Nm.nl at hL;generalize Nm.digs z.natAbs=xs at*
  generalize decide (z<0)=s at*
  have H3:=zH h3;have H4:=zH h4;clear h3 h4;have HG:=zH (show∀x,Ext ((w.alloc (.cells #[.bool s,.slice p xs.length cp] 28)).alloc (.cells #[.bool s,.slice q xs.length cq] 28)) x->
      x.cell? ⟨w.heap.size,0,none⟩=some (.bool s)/\x.cell? ⟨w.heap.size,1,none⟩=some (.slice p xs.length cp)/\x.cell? ⟨w.heap.size+1,0,none⟩=some (.bool s)/\x.cell? ⟨w.heap.size+1,1,none⟩=some (.slice q xs.length cq)from fun x h=>
    ⟨h.get (by simp),h.get (by simp),h.get (by simp),h.get (by simp)⟩)
  have HW:=zH (show Ext w ((w.alloc (.cells #[.bool s,.slice p xs.length cp] 28)).alloc (.cells #[.bool s,.slice q xs.length cq] 28))from((Ext.refl _).alloc _).alloc _);have hbb:(s != s)=false:=by cases s<;>rfl
  go_enter Tryz.func27,Tryz.ntmps27
  go_wp2_with fail
  generalize ((w.alloc (.cells #[.bool s,.slice p xs.length cp] 28)).alloc (.cells #[.bool s,.slice q xs.length cq] 28))=wa at*
  go_loopw [5] (fun i wr=>∃k:Nat,k<=xs.length/\i= .int .i64 k/\Ext wa wr) (fun i _=>xs.length-(intOf i).toNat)
  case atStart=>exact⟨0,Nat.zero_le _,rfl,Ext.refl _⟩
  obtain⟨k,hk,rfl,he⟩:=hrel;have gl:=HG.out _ he;have HE:=zH he;clear he;by_cases hlt:k<xs.length
  · obtain⟨b,o,rfl,hb⟩:=H3.out (by omega)
    obtain⟨b2,o2,rfl,hb2⟩:=H4.out (by omega);have c0:=(HW.out.trans HE.out).get (hb k hlt);have c1:=(HW.out.trans HE.out).get (hb2 k hlt);clear hb hb2;generalize (xs.getD k 0:Nat)=d at c0 c1
    go_wp2_with fail
    go_quiet (fail)
    go_wp2_with fail
    go_roundw
    case rel=>exact⟨k+1,hlt,by go_num,HE.out.drewN _⟩
    case measure=>simp[intOf];omega
  go_wp2_with fail
  go_ret
  exact⟨rfl,HW.out.trans HE.out⟩
theorem same17G_any (a b:RV)(z1 z2:Int)(w:World)(ha1:IntC w a.n (.slice a.p a.l a.c) z1)(ha2:IntC w a.m (.slice a.p2 a.l2 a.c2) z2)(hb1:IntC w b.n (.slice b.p b.l b.c) z1)(hb2:IntC w b.m (.slice b.p2 b.l2 b.c2) z2)(hl1:Nm.nl z1.natAbs<=1000000)(hl2:Nm.nl z2.natAbs<=1000000):
    Calls Tryz.prog 7 #[.agg #[.bool a.n,.slice a.p a.l a.c,.bool a.m,.slice a.p2 a.l2 a.c2],.agg #[.bool b.n,.slice b.p b.l b.c,.bool b.m,.slice b.p2 b.l2 b.c2]] w fun e w'=>e= .returned (.bool true)/\Ext w w':=by
  have H1:=zH (fun W (x:Ext w W)=>same17I_any a.n b.n _ _ z1 W (ha1.ext x) (hb1.ext x) hl1);have H2:=zH (fun W (x:Ext w W)=>same17I_any a.m b.m _ _ z2 W (ha2.ext x) (hb2.ext x) hl2);have HG:=zH (show∀x,Ext ((w.alloc (.cells #[.bool a.n,.slice a.p a.l a.c,.bool a.m,.slice a.p2 a.l2 a.c2] 30)).alloc (.cells #[.bool b.n,.slice b.p b.l b.c,.bool b.m,.slice b.p2 b.l2 b.c2] 30)) x->
      x.cell? ⟨w.heap.size,0,none⟩=some (.bool a.n)/\x.cell? ⟨w.heap.size,1,none⟩=some (.slice a.p a.l a.c)/\x.cell? ⟨w.heap.size,2,none⟩=some (.bool a.m)/\x.cell? ⟨w.heap.size,3,none⟩=some (.slice a.p2 a.l2 a.c2)/\
      x.cell? ⟨w.heap.size+1,0,none⟩=some (.bool b.n)/\x.cell? ⟨w.heap.size+1,1,none⟩=some (.slice b.p b.l b.c)/\x.cell? ⟨w.heap.size+1,2,none⟩=some (.bool b.m)/\x.cell? ⟨w.heap.size+1,3,none⟩=some (.slice b.p2 b.l2 b.c2)from fun x h=>
    ⟨h.get (by simp),h.get (by simp),h.get (by simp),h.get (by simp),h.get (by simp),h.get (by simp),h.get (by simp),h.get (by simp)⟩)
  have HW:=zH (show Ext w ((w.alloc (.cells #[.bool a.n,.slice a.p a.l a.c,.bool a.m,.slice a.p2 a.l2 a.c2] 30)).alloc (.cells #[.bool b.n,.slice b.p b.l b.c,.bool b.m,.slice b.p2 b.l2 b.c2] 30))from((Ext.refl _).alloc _).alloc _);clear ha1 ha2 hb1 hb2;go_enter Tryz.func7,Tryz.ntmps7
  go_wp2_with fail
  generalize ((w.alloc (.cells #[.bool a.n,.slice a.p a.l a.c,.bool a.m,.slice a.p2 a.l2 a.c2] 30)).alloc (.cells #[.bool b.n,.slice b.p b.l b.c,.bool b.m,.slice b.p2 b.l2 b.c2] 30))=wa at*
  have gl:=HG.out _ (Ext.refl _);go_wp2_with fail
  refine(H1.out _ HW.out).mono ?_;rintro e wx ⟨rfl,hx1⟩;clear gl;have gl:=HG.out _ hx1;go_wp2_with fail
  refine(H2.out _ (HW.out.trans hx1)).mono ?_;rintro e wy ⟨rfl,hx2⟩;go_wp2_with fail
  go_ret
  exact⟨rfl,HW.out.trans (hx1.trans hx2)⟩
theorem same17_any (a b:RV)(q:Rat)(L:Nat)(w:World)(ha:a.Is w q)(hb:b.Is w q)(hq:Nm.rl q<=L)(hL:L<=1000000):
    Calls Tryz.prog 7 #[.agg #[.bool a.n,.slice a.p a.l a.c,.bool a.m,.slice a.p2 a.l2 a.c2],.agg #[.bool b.n,.slice b.p b.l b.c,.bool b.m,.slice b.p2 b.l2 b.c2]] w fun e w'=>e= .returned (.bool true)/\Ext w w':=
  same17G_any a b q.num (q.den:Int) w ha.1 ha.2 hb.1 hb.2 (by have:=Nat.le_max_left (Nm.nl q.num.natAbs) (Nm.nl q.den);unfold Nm.rl at hq;omega) (by have:=Nat.le_max_right (Nm.nl q.num.natAbs) (Nm.nl q.den);unfold Nm.rl at hq;simp only[Int.natAbs_natCast];omega)
theorem IntC.zero (w:World):IntC w false (.slice none 0 0) 0:=by
  refine⟨by decide,none,0,?_⟩;simp[Nm.digs];exact Nm.Dg.nil
theorem same17Z_any (w:World):Calls Tryz.prog 7 #[.agg #[.bool false,.slice none 0 0,.bool false,.slice none 0 0],.agg #[.bool false,.slice none 0 0,.bool false,.slice none 0 0]] w fun e w'=>e= .returned (.bool true)/\Ext w w':=
  same17G_any ⟨false,none,0,0,false,none,0,0⟩ ⟨false,none,0,0,false,none,0,0⟩ 0 0 w (IntC.zero w) (IntC.zero w) (IntC.zero w) (IntC.zero w) (by simp[Nm.nl,Nm.digs]) (by simp[Nm.nl,Nm.digs])
end
section
open Go.ChangeShapes Go.WideShapes Go.ChangeAt Go.RowKit
theorem own:ownKnob Tryz.prog.godebug=none:=by kernel_rfl
theorem laidOut:laidOutB Tryz.prog=true:=by kernel_rfl
theorem cells_int:Tryz.prog.cellsOf 3=1:=by kernel_rfl
theorem cells_pt:Tryz.prog.cellsOf 23=2:=by kernel_rfl
theorem cells_pts4:Tryz.prog.cellsOf 24=8:=by kernel_rfl
theorem okWide_array {P:Program}{w:World}{r:Reach}{base:Nat}{t e:TypeId}{n:Nat}{v:Value}(ht:P.underlying t=some (.array n e))(h:Value.okWide P w r base t v):∃cs,v= .agg cs/\cs.size=P.cellsOf t:=by
  simp only[Value.okWide,ht]at h;obtain⟨cs,h1,h2,_⟩:=h;exact⟨cs,h1,h2⟩
section
variable {H:Type} {enc:TypeId×Value->H} {w:World} {base:Nat} {spare:Nat->Bool} {held:Bool}
theorem pt_open {fuel:Nat}{cs:List Value}{x:DataW H×List MemPlace}(h:DataW.trod enc Tryz.prog w base spare held fuel 23 cs=some x):∃a:Int×Int,cs=[.int .i64 a.1,.int .i64 a.2]:=by
  obtain⟨y0,y1,n,_,hl,h0,h1⟩:=trod_struct2 Tryz.underlying23 h;rw[cells_pt]at hl;rw[cells_int]at h0 h1;obtain⟨a,e0,_,_⟩:=DataW.trod_int Tryz.underlying3 h0;obtain⟨b,e1,_,_⟩:=DataW.trod_int Tryz.underlying3 h1;match cs,hl with
  | [u,v],_=>
    simp at e0 e1;exact⟨(a,b),by rw[e0,e1]⟩
theorem pts4_open {fuel:Nat}{cs:List Value}{x:DataW H×List MemPlace}(h:DataW.trod enc Tryz.prog w base spare held fuel 24 cs=some x):
    ∃a b c d:Int×Int,cs=[.int .i64 a.1,.int .i64 a.2,.int .i64 b.1,.int .i64 b.2,.int .i64 c.1,.int .i64 c.2,.int .i64 d.1,.int .i64 d.2]:=by
  obtain⟨xs,m,_,_,hl,hx,hi⟩:=DataW.trod_array Tryz.underlying24 h;rw[cells_pts4]at hl;rw[cells_pt]at hi;match xs,hx with
  | [x0,x1,x2,x3],_=>
    obtain⟨a,ea⟩:=pt_open (show DataW.trod enc Tryz.prog w base spare held m 23 _=some x0 from hi 0 (by omega));obtain⟨b,eb⟩:=pt_open (show DataW.trod enc Tryz.prog w base spare held m 23 _=some x1 from hi 1 (by omega));obtain⟨c,ec⟩:=pt_open (show DataW.trod enc Tryz.prog w base spare held m 23 _=some x2 from hi 2 (by omega));obtain⟨d,ed⟩:=pt_open (show DataW.trod enc Tryz.prog w base spare held m 23 _=some x3 from hi 3 (by omega));match cs,hl with
    | [c0,c1,c2,c3,c4,c5,c6,c7],_=>
      simp at ea eb ec ed;refine⟨a,b,c,d,?_⟩;rw[ea.1,ea.2,eb.1,eb.2,ec.1,ec.2,ed.1,ed.2]
end
end
section
open Go.ChangeShapes Go.WideShapes Go.ChangeAt Go.RowKit
section
variable {H:Type} {enc:TypeId×Value->H} {P:Program} {w:World} {base:Nat} {spare:Nat->Bool} {held:Bool}
end
end
section
open Go.ChangeShapes Go.WideShapes Go.ChangeAt Go.RowKit
def RV.Raw (w:World)(a:RV):Prop:=∃xs ys,DigS w (.slice a.p a.l a.c) xs/\DigS w (.slice a.p2 a.l2 a.c2) ys
theorem RV.Raw.val {w:World}{a:RV}(h:a.Raw w):∃q:Rat,∀L,a.l<=L->a.l2<=L->a.In L w q:=by
  obtain⟨xs,ys,h1,h2⟩:=h;have e1:a.l=xs.length:=by obtain⟨p,c,e,_⟩:=h1;injection e
  have e2:a.l2=ys.length:=by obtain⟨p,c,e,_⟩:=h2;injection e
  refine⟨Rat.divInt (sg a.n (Nm.val xs)) (sg a.m (Nm.val ys)),fun L k1 k2=> ?_⟩;exact⟨_,_,⟨_,⟨xs,h1,rfl,by omega⟩,rfl⟩,⟨_,⟨ys,h2,rfl,by omega⟩,rfl⟩,rfl⟩
section
variable {H:Type} {enc:TypeId×Value->H} {w:World} {base:Nat} {held:Bool}
end
end
section
open Go.ChangeShapes Go.WideShapes Go.ChangeAt Go.RowKit
instance:Inhabited RV:=⟨⟨false,none,0,0,false,none,0,0⟩⟩
section
variable {H:Type} {enc:TypeId×Value->H} {w:World} {base:Nat} {held:Bool}
end
end
section
def zRV:RV:=⟨false,none,0,0,false,none,0,0⟩
def MixIs (P:Prop)(w:World)(q:Rat)(r:RV):Prop:=(P->r.Is w q)/\(¬P->r=zRV)
theorem MixIs.dig {P:Prop}{w w':World}{q:Rat}{r:RV}(h:MixIs P w q r)(d:Dig w w'):MixIs P w' q r:=⟨fun p=>(h.1 p).dig d,h.2⟩
theorem SegRet.mixZ {a b c d:Int×Int}{w w':World}{e:Ending}(h:SegRet a b c d w e w'):∃r s:RV,e= .returned (.tuple #[.agg #[.bool r.n,.slice r.p r.l r.c,.bool r.m,.slice r.p2 r.l2 r.c2],.agg #[.bool s.n,.slice s.p s.l s.c,.bool s.m,.slice s.p2 s.l2 s.c2],.int .i64 (segN a b c d)])/\MixIs (segN a b c d=1) w' (segX a b c d) r/\MixIs (segN a b c d=1) w' (segY a b c d) s/\Ext w w':=by
 obtain⟨⟨r,s,h0,h1,h2,h3⟩|⟨h0,h1⟩,hx⟩:=h
 ·exact⟨r,s,by rw[h1,h0],⟨fun _=>h2,fun h=>absurd h0 h⟩,⟨fun _=>h3,fun h=>absurd h0 h⟩,hx⟩
 exact⟨zRV,zRV,h1,⟨fun h=>absurd h h0,fun _=>rfl⟩,⟨fun h=>absurd h h0,fun _=>rfl⟩,hx⟩
theorem SegRet.swap {a b c d:Int×Int}{w w':World}{e:Ending}(h:SegRet c d a b w e w'):SegRet a b c d w e w':=by
  unfold SegRet at*;rwa[segN_swap,segX_swap,segY_swap]at h
theorem SegRet.rev {a b c d:Int×Int}{w w':World}{e:Ending}(h:SegRet b a c d w e w'):SegRet a b c d w e w':=by
  unfold SegRet at*;rwa[segN_rev,segX_rev,segY_rev]at h
theorem SegRet.rev2 {a b c d:Int×Int}{w w':World}{e:Ending}(h:SegRet a b d c w e w'):SegRet a b c d w e w':=by
  unfold SegRet at*;rwa[segN_rev2,segX_rev2,segY_rev2]at h
theorem AtRet.mixZ {C:Prop}{q:Rat}{w w':World}{e:Ending}(h:AtRet C q w e w'):∃(r:RV) (y:Bool),e= .returned (.tuple #[.agg #[.bool r.n,.slice r.p r.l r.c,.bool r.m,.slice r.p2 r.l2 r.c2],.bool y])/\(y=true↔C)/\MixIs C w' q r/\Ext w w':=by
  obtain⟨⟨r,h0,h1,h2⟩|⟨h0,h1⟩,hx⟩:=h
  · exact⟨r,true,h1,⟨fun _=>h0,fun _=>rfl⟩,⟨fun _=>h2,fun h=>absurd h0 h⟩,hx⟩
  exact⟨zRV,false,h1,⟨fun h=>absurd h (by decide),fun h=>absurd h h0⟩,⟨fun h=>absurd h h0,fun _=>rfl⟩,hx⟩
theorem same17M_any (P:Prop)(a b:RV)(q:Rat)(w:World)(ha:MixIs P w q a)(hb:MixIs P w q b)(hq:P->Nm.rl q<=60000):
    Calls Tryz.prog 7 #[.agg #[.bool a.n,.slice a.p a.l a.c,.bool a.m,.slice a.p2 a.l2 a.c2],.agg #[.bool b.n,.slice b.p b.l b.c,.bool b.m,.slice b.p2 b.l2 b.c2]] w fun e w'=>e= .returned (.bool true)/\Ext w w':=by
  by_cases h:P
  · exact same17_any a b q 60000 w (ha.1 h) (hb.1 h) (hq h) (by decide)
  rw[ha.2 h,hb.2 h];exact same17Z_any w
end
section
attribute [local go_sem ↓] Go.wp_at_zero Go.wp_at_succ run_max_ii run_min_ii
theorem clamp8_any (n lo hi:Int)(w:World)(h1:lo<=n)(h2:n<=hi):Calls Tryz.prog 68 #[.int .i64 n,.int .i64 lo,.int .i64 hi] w fun e w'=>e= .returned (.int .i64 n)/\Ext w w':=by
 go_enter Tryz.func68,Tryz.ntmps68
 have H0:=zH (Hp.start w);go_upto_region 0 with fail
 refine wl ?_;refine zq (.int .i64 0) ?_;go_upto_region 1 with fail
 refine wl ?_;refine qV (.int .i64 n) ?_;refine zq (.int .i64 lo) ?_;refine zp (.bool false) (by exact ezl (e:=(dec_f (by omega)))) ?_;go_upto_region 3 with fail
 refine wl ?_;refine qV (.int .i64 n) ?_;refine zq (.int .i64 hi) ?_;refine zp (.bool false) (by exact ezg (e:=(dec_f (by omega)))) ?_;go_upto_region 5 with fail
 refine wl ?_;refine qV (.int .i64 n) ?_;refine zq (.int .i64 n) ?_;go_wp2_with fail
 go_ret
 exact⟨rfl,H0.out.ext⟩
theorem hold11_any (p:Int×Int)(w:World)(h:okP p):Calls Tryz.prog 32 #[.agg #[.int .i64 p.1,.int .i64 p.2]] w fun e w'=>e= .returned (.agg #[.int .i64 p.1,.int .i64 p.2])/\Ext w w':=by
 have op:=okP_out h;go_enter Tryz.func32,Tryz.ntmps32
 have H0:=zH (Hp.start w);go_upto_region 0 with fail
 refine wl ?_;refine aA' 23 [.int .i64 p.1,.int .i64 p.2] H0.out ?_;intro X10 w11 H12 _;refine aA' 23 [.int .i64 0,.int .i64 0] H12.out ?_;intro X15 w16 H17 _;go_upto_region 1 with fail
 refine wp_region_held_drew (S:=fun x=>Fr (fun kz=>kz=X15) w16 x) kR (Fr.of_ext zb) (fun _=> ?_);have H20:=zH (H17.out.step (Ext.refl w16).drew);refine zx 0 (bs 8 1) (.pointer (some ⟨X10,0,none⟩)) (Fr.of_ext zb) ?_;refine md_ld1 (g:=X10) (o:=0) (v:= .int .i64 p.1) (i:=1) (listed':=(bs 8 3)) rR kR kR kR (by intro _ _ _ h;exact h) rR (fun x hx=>Fr.cell hx (show World.cell? w16 ⟨X10,0,none⟩=some (.int .i64 p.1)from cell_of_range (H17.out.range (i:=0) rR 0 1)) (H17.out.offBlk (i:=0) (j:=1) rR rR dC rR)) (by intro x hq;go_simp<;>with_reducible rfl) (Fr.of_ext zb) kR ?_;try simp only[Act.put,zA,zB,zC]
 refine zx 3 (bs 8 11) (.pointer (some ⟨X10,1,none⟩)) (Fr.of_ext zb) ?_;refine md_ld1 (g:=X10) (o:=1) (v:= .int .i64 p.2) (i:=4) (listed':=(bs 8 27)) rR kR kR kR (by intro _ _ _ h;exact h) rR (fun x hx=>Fr.cell hx (show World.cell? w16 ⟨X10,1,none⟩=some (.int .i64 p.2)from cell_of_range (H17.out.range (i:=0) rR 1 1)) (H17.out.offBlk (i:=0) (j:=1) rR rR dC rR)) (by intro x hq;go_simp<;>with_reducible rfl) (Fr.of_ext zb) kR ?_;try simp only[Act.put,zA,zB,zC]
 refine mC 2 (bs 8 31) (clamp8_any p.1 (-1048576) 1048576 _ (by omega) (by omega)) ?_;rintro e w24 ⟨rfl,hx⟩;have H25:=zH (H20.out.step hx);have S28:=zH (show Fr (fun kz=>kz=X15) w16 w24 from(Fr.of_ext zb).trans (Fr.of_ext hx));clear hx;refine zm S28.out ?_;refine mC 5 (bs 8 63) (clamp8_any p.2 (-1048576) 1048576 _ (by omega) (by omega)) ?_;rintro e w29 ⟨rfl,hx⟩;have H30:=zH (H25.out.step hx);have S33:=zH (S28.out.trans (Fr.of_ext hx));clear hx;refine zm S33.out ?_;refine zx 6 (bs 8 127) (.agg #[.int .i64 p.1,.int .i64 p.2]) S33.out ?_;refine md_st (i:=7) (listed':=(bs 8 255)) rR kR rR kR _ _ _ rR H30.out (ix:=1) rR 0 [.int .i64 p.1,.int .i64 p.2] rR rR (by simp) kR (by simp[Value.oneCell']) (by simp[NoUL]) ?_;intro w35 hh hd ho;have H36:=hN hh;have S38:=zH (Fr.trans_new S33.out ho (fun j hj=> .inl (by simpa using hj.symm)));clear hh hd ho;refine⟨S38.out,?_⟩
 (try simp only[Act.put])
 refine wpAnyH_done kR ?_ _;go_wp2_with fail
 refine bodyPost_ret (v:= .agg #[.int .i64 p.1,.int .i64 p.2]) ?_ rfl ⟨rfl,H36.out.ext⟩;exact results_cell1 rfl rfl ((H36.out.blk (i:=1) rR).loadVar rfl rfl rR)
theorem sub11_any (p q:Int×Int)(w:World)(hp:okP p)(hq:okP q):
  Calls Tryz.prog 28 #[.agg #[.int .i64 p.1,.int .i64 p.2],.agg #[.int .i64 q.1,.int .i64 q.2]] w fun e w'=>e= .returned (.agg #[.int .i64 (dv q p).1,.int .i64 (dv q p).2])/\Ext w w':=by
 have op:=okP_out hp;have oq:=okP_out hq;go_enter Tryz.func28,Tryz.ntmps28
 have H0:=zH (Hp.start w);go_upto_region 0 with fail
 refine wl ?_;refine aA' 23 [.int .i64 p.1,.int .i64 p.2] H0.out ?_;intro X39 w40 H41 _;refine aA' 23 [.int .i64 q.1,.int .i64 q.2] H41.out ?_;intro X44 w45 H46 _;refine aA' 23 [.int .i64 0,.int .i64 0] H46.out ?_;intro X49 w50 H51 _;go_upto_region 1 with fail
 refine zy ?_;have H54:=zH (H51.out.step (Ext.refl w50).drew);refine zJ2 H51.out zb (bs 8 5) 0 2 _ _ ?_;refine FN.go2 (j1:=⟨4,some 5,23,[.int .i64 0,.int .i64 0]⟩) (j2:=⟨5,some 6,23,[.int .i64 0,.int .i64 0]⟩) (b:=w50) ?_ zb;refine gN 1 (bs 8 7) (fk (fk trivial)) zb.size (fun xq hxq=>hold11_any p _ hp) (by rintro x_ e x2_ ⟨rfl,hx⟩;exact hx) ?_;rintro xq e w56 hxq ⟨rfl,hx⟩;replace hx:=hxq.trans hx;clear hxq;have H57:=zH (H54.out.step hx);have S59:=zH (zb.trans hx);clear hx;refine⟨_,rfl,?_⟩;try simp only[Act.put,zA,zB,zC]
 refine gN 3 (bs 8 15) (fk (fk trivial)) S59.out.size (fun xq hxq=>hold11_any q _ hq) (by rintro x_ e x2_ ⟨rfl,hx⟩;exact hx) ?_;rintro xq e w60 hxq ⟨rfl,hx⟩;replace hx:=hxq.trans hx;clear hxq;have H61:=zH (H57.out.step hx);have S63:=zH (S59.out.trans hx);clear hx;refine⟨_,rfl,?_⟩;try simp only[Act.put,zA,zB,zC]
 refine gE2 (bs 8 63) (fk (fk trivial)) S63.out.size H51.out H61.out ?_;intro X64 X65 w66 hx hh hg0 hg1 hs;have H67:=hN hh;have S69:=zH (show Ext w50 w66 from hs);have G70:=zH (show w50.heap.size<=X64 from hg0);have G71:=zH (show w50.heap.size<=X65 from hg1);clear hh hx hs hg0 hg1;try simp only[Act.put,zA,zB,zC]
 refine bS 3 6 (bs 8 127) [.int .i64 p.1,.int .i64 p.2] H67.out S69.out G70.out ?_;intro w72 H73 _ S75;refine bS 4 7 (bs 8 255) [.int .i64 q.1,.int .i64 q.2] H73.out S75.out G71.out ?_;intro w76 H77 _ S79;refine wpAnyH_done kR ?_ _;go_upto_region 2 with fail
 refine wl ?_;refine zI4 H77.out _ _ _ _ ?_;refine zp (.int .i64 (p.1-q.1)) (by exact ez2 (by omega)) ?_;refine zI4 H77.out _ _ _ _ ?_;refine zp (.int .i64 (p.2-q.2)) (by exact ez2 (by omega)) ?_;refine zq (.agg #[.int .i64 (p.1-q.1),.int .i64 (p.2-q.2)]) ?_;refine aS' 2 [.int .i64 (p.1-q.1),.int .i64 (p.2-q.2)] H77.out ?_;intro w87 H88 _;go_wp2_with fail
 refine bodyPost_ret (v:= .agg #[.int .i64 (dv q p).1,.int .i64 (dv q p).2]) ?_ rfl ⟨rfl,H88.out.ext⟩;exact results_cell1 rfl rfl ((H88.out.blk (i:=2) rR).loadVar rfl rfl rR)
theorem wedge11_any (u v:Int×Int)(w:World)(hu:(-2097152<=u.1/\u.1<=2097152)/\(-2097152<=u.2/\u.2<=2097152))(hv:(-2097152<=v.1/\v.1<=2097152)/\(-2097152<=v.2/\v.2<=2097152)):
  Calls Tryz.prog 70 #[.agg #[.int .i64 u.1,.int .i64 u.2],.agg #[.int .i64 v.1,.int .i64 v.2]] w fun e w'=>e= .returned (.int .i64 (cr u v))/\Ext w w':=by
 have m1:=mul_bd hu.1 hv.2;have m2:=mul_bd hu.2 hv.1;go_enter Tryz.func70,Tryz.ntmps70
 have H0:=zH (Hp.start w);go_upto_region 0 with fail
 refine wl ?_;refine aA' 23 [.int .i64 u.1,.int .i64 u.2] H0.out ?_;intro X175 w176 H177 _;refine aA' 23 [.int .i64 v.1,.int .i64 v.2] H177.out ?_;intro X180 w181 H182 _;refine zq (.int .i64 0) ?_;go_upto_region 1 with fail
 refine wl ?_;refine zI4 H182.out _ _ _ _ ?_;refine zp (.int .i64 (u.1*v.2)) (by exact ez3 (by omega)) ?_;refine zI4 H182.out _ _ _ _ ?_;refine zp (.int .i64 (u.2*v.1)) (by exact ez3 (by omega)) ?_;refine zp (.int .i64 ((u.1*v.2)-(u.2*v.1))) (by exact ez2 (by omega)) ?_;refine zq (.int .i64 ((u.1*v.2)-(u.2*v.1))) ?_;go_wp2_with fail
 go_ret
 exact⟨rfl,H182.out.ext⟩
end
end Go.Proofs.YtdkfmkeaaeooeaaGreat
