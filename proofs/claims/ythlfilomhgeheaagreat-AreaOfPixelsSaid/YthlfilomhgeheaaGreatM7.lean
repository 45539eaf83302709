import Derived.Maps.Own
import Derived.Maps.OwnOps
import Derived.Deep.LoopGhost
import Derived.Deep.DeepCutAuto
import Derived.Test.YthlfilomhgeheaaGreatM6
set_option maxRecDepth 100000
set_option maxHeartbeats 4000000
namespace Go.Proofs.YthlfilomhgeheaaGreat
open Go.RowKit
open Go.Proofs.Tryz
section
theorem Ov {rs:List Bb}{r:Bb}{p:Int×Int}(h:Hh rs=true)(hr:r∈rs)(hp:p∈r):Dy p:=by
  obtain⟨i,hi⟩:=List.mem_iff_getElem?.1 hr;obtain⟨k,hk⟩:=List.mem_iff_getElem?.1 hp;exact Xt h hi hk
def Kd (D:Nat)(q:Rat):Prop:=∃z:Int,q*((D:Int):Rat)=(z:Rat)
theorem Kd.add {D:Nat}{q r:Rat}(h:Kd D q)(k:Kd D r):Kd D (q+r):=by
  obtain⟨a,ha⟩:=h;obtain⟨b,hb⟩:=k;exact⟨a+b,by rw[Rat.intCast_add,<-ha,<-hb];grind⟩
theorem Kd.sub {D:Nat}{q r:Rat}(h:Kd D q)(k:Kd D r):Kd D (q-r):=by
  obtain⟨a,ha⟩:=h;obtain⟨b,hb⟩:=k;exact⟨a-b,by rw[Rat.intCast_sub,<-ha,<-hb];grind⟩
theorem Kd.mul {D E:Nat}{q r:Rat}(h:Kd D q)(k:Kd E r):Kd (D*E) (q*r):=by
  obtain⟨a,ha⟩:=h;obtain⟨b,hb⟩:=k;exact⟨a*b,by rw[wZ,Rat.intCast_mul,Rat.intCast_mul,<-ha,<-hb];grind⟩
theorem Kd.int (D:Nat)(z:Int):Kd D (z:Rat):=⟨z*D,by rw[Rat.intCast_mul]⟩
theorem Kd.up {D E:Nat}{q:Rat}(h:Kd D q)(k:D∣E):Kd E q:=by
  obtain⟨m,rfl⟩:=k;obtain⟨a,ha⟩:=h;exact⟨a*m,by rw[wZ,Rat.intCast_mul,Rat.intCast_mul,<-ha];grind⟩
theorem Kd.den (q:Rat):Kd q.den q:=⟨q.num,by
  have e:q=(q.num:Rat)/(((q.den:Nat):Int):Rat):=by rw[<-Rat.divInt_eq_div];exact(Rat.num_divInt_den q).symm
  have h:(((q.den:Nat):Int):Rat)≠0:=by exact_mod_cast q.den_nz
  have k:=Rat.inv_mul_cancel _ h;rw[Rat.div_def]at e;generalize (((q.den:Nat):Int):Rat)=u at*;generalize (q.num:Rat)=v at*;rw[e];grind⟩
theorem Kd.half {D:Nat}{q r:Rat}(h:Kd D q)(k:Kd D r):Kd (2*D) ((q+r)/2):=by
  obtain⟨a,ha⟩:=h;obtain⟨b,hb⟩:=k;refine⟨a+b,?_⟩;rw[wZ,Rat.intCast_mul,Rat.intCast_add,<-ha,<-hb,Rat.div_def];have e:(2:Rat)⁻¹*(((2:Nat):Int):Rat)=1:=by decide+kernel
  generalize (2:Rat)⁻¹=i at*;generalize (((2:Nat):Int):Rat)=u at*;grind
theorem Kd.rl {D M:Nat}{q:Rat}(hD:0<D)(h:Kd D q)(h1: -((M:Int):Rat)<=q)(h2:q<=((M:Int):Rat)):Nm.rl q<=max (Nm.nl (M*D)) (max (Nm.nl D) 1):=by
 obtain⟨a,ha⟩:=h;have hd:(0:Rat)<((D:Int):Rat):=by exact_mod_cast hD
 have e:q=Rat.divInt a D:=by
  rw[Rat.divInt_eq_div,<-ha,Rat.div_def,Rat.mul_assoc,Rat.mul_inv_cancel _ (by grind),Rat.mul_one]
 rw[e];refine Aw (Nm.rl_divInt _ _) ?_;have k:a.natAbs<=M*D:=by
  have k1:(a:Rat)<=(((M*D:Nat):Int):Rat):=by
   rw[<-ha,wZ,Rat.intCast_mul];exact Rat.mul_le_mul_of_nonneg_right h2 (by grind)
  have k2:(((-(M*D:Nat):Int)):Rat)<=(a:Rat):=by
   rw[<-ha,wZ,Rat.intCast_neg,Rat.intCast_mul];have:=Rat.mul_le_mul_of_nonneg_right h1 (c:=((D:Int):Rat)) (by grind);grind
  have k3:a<=((M*D:Nat):Int):=by exact_mod_cast k1
  have k4: -((M*D:Nat):Int)<=a:=by exact_mod_cast k2
  omega
 have:=Nm.nl_mono k;have:Nm.nl (D:Int).natAbs=Nm.nl D:=by rw[xM]
 omega
def dn:List Rat->Nat
  | []=>1
  |x::l=>x.den*dn l
theorem dH:∀l:List Rat,0<dn l
  | []=>Nat.one_pos
  |x::l=>Nat.mul_pos x.den_pos (dH l)
theorem rI {q:Rat}:∀{l:List Rat},q∈l->Kd (dn l) q
  | x::l,h=>by
    rcases List.mem_cons.1 h with e|e
    · subst e;exact(Kd.den q).up ⟨dn l,rfl⟩
    exact(rI e).up ⟨x.den,xN _ _⟩
theorem rH {c:Nat}:∀{l:List Rat},(∀x,x∈l->Nm.rl x<=c)->Nm.nl (dn l)<=c*l.length+1
  | [],_=>Aw (Nm.nl_le (k:=1) (by decide)) (by simp)
  | x::l,h=>by
    have h1:=Nm.nl_mul x.den (dn l);have h2:=rH (l:=l) fun z hz=>h z (wS _ hz)
    have h3:Nm.nl x.den<=c:=Aw (Nat.le_max_right _ _) (h x xE);show Nm.nl (x.den*dn l)<=_;rw[xB,wY];omega
def iZ (e:Df):Nat:=if e.2.2-e.1.2=0 then 1 else(e.2.2-e.1.2).natAbs
def Wo:List Df->Nat
  | []=>1
  |e::l=>iZ e*Wo l
theorem qK (e:Df):0<iZ e:=by unfold iZ;split<;>omega
theorem Yc:∀l:List Df,0<Wo l
  | []=>Nat.one_pos
  |e::l=>Nat.mul_pos (qK e) (Yc l)
theorem fI {e:Df}:∀{l:List Df},e∈l->iZ e∣Wo l
  | x::l,h=>by
    rcases List.mem_cons.1 h with e|e
    · subst e;exact⟨Wo l,rfl⟩
    obtain⟨m,hm⟩:=fI e;exact⟨iZ x*m,by show iZ x*Wo l=_;rw[hm,Nat.mul_left_comm]⟩
theorem dG:∀{l:List Df},(∀e,e∈l->Dy e.1/\Dy e.2)->Nm.nl (Wo l)<=l.length+1
  | [],_=>Nm.nl_le (by decide)
  | e::l,h=>by
    have h1:=Nm.nl_mul (iZ e) (Wo l);have h2:=dG (l:=l) fun z hz=>h z (wS _ hz)
    have h3:Nm.nl (iZ e)<=1:=by
      obtain⟨a,b⟩:=h e xE;have a2:=Bg a;have b2:=Bg b;refine Nm.nl_le ?_;unfold iZ;split<;>omega
    show Nm.nl (iZ e*Wo l)<=_;rw[xB];omega
theorem jY (e:Df):Kd (iZ e) (rW e.1 e.2):=by
 unfold rW iZ;split
 ·rename_i h;rw[h];exact⟨0,by rw[show((1:Int):Rat)/((0:Int):Rat)=0 from by decide+kernel];grind⟩
 rename_i h;have hz:(((e.2.2-e.1.2:Int)):Rat)≠0:=by exact_mod_cast h
 rcases Int.natAbs_eq (e.2.2-e.1.2)with k|k
 ·refine⟨e.2.1-e.1.1,?_⟩
  rw[<-k,Rat.div_def];have:=Rat.inv_mul_cancel _ hz;generalize (((e.2.2-e.1.2:Int)):Rat)=u at*
  grind
 refine⟨-(e.2.1-e.1.1),?_⟩;rw[show(((e.2.2-e.1.2).natAbs:Int))= -(e.2.2-e.1.2)from ω,Rat.div_def,Rat.intCast_neg,Rat.intCast_neg];have:=Rat.inv_mul_cancel _ hz;generalize (((e.2.2-e.1.2:Int)):Rat)=u at*
 grind
theorem tL {e:Df}{F:Nat}{y:Rat}(h:Kd F y):Kd (iZ e*F) (vH e y):=by
  rw[qJ];refine((jY e).mul h).add (Kd.sub (Kd.int _ _) ?_);have:=(Kd.int 1 e.1.2).mul (jY e);exact this.up ⟨F,by rw[Nat.one_mul]⟩
theorem iM {y:Rat}{rs:List Bb}{m:QI}(h:m∈Fu y rs):∃e,e∈Ab rs/\m.1=vH e y:=by
  rw[Tf,Stb.mem_stab]at h;obtain⟨e,he,h⟩:=List.mem_filterMap.1 h;refine⟨e,he,?_⟩;unfold Ei at h;split at h
  · injection h with h;rw[<-h];rfl
  split at h
  · injection h with h;rw[<-h];rfl
  cases h
theorem Zc {P:Rat->Prop}:∀{ms:List QI} {s:Int},(∀m,m∈ms->P m.1)->∀r,r∈Nh s ms->P r.1.1/\P r.1.2
  | [],_,_,_,h=>by simp[Nh]at h
  | [_],_,_,_,h=>by simp[Nh]at h
  | a::b::t,s,hp,r,h=>by
    rcases List.mem_cons.1 (show r∈((a.1,b.1),s+a.2)::Nh (s+a.2) (b::t)from h)with e|e
    · subst e;exact⟨hp a xE,hp b (wS _ xE)⟩
    exact Zc (fun m hm=>hp m (wS _ hm)) r e
theorem fR {P:Rat->Prop}{rule:Int}{ms:List QI}(h:∀m,m∈ms->P m.1):∀p,p∈Jl rule ms->P p.1/\P p.2:=by
  refine aJ fun p hp=> ?_
  unfold eF at hp;obtain⟨r,hr,rfl⟩:=List.mem_map.1 hp;exact Zc h r (List.mem_filter.1 hr).1
theorem pQ {D:Nat}{f t:Rat}{p:QQ}(hf:Kd D f)(ht:Kd D t)(h1:Kd D p.1)(h2:Kd D p.2):Kd D (Jq f t p):=by
  unfold Jq;have k1:Kd D (if p.1<f then f else p.1):=by split<;>assumption
  have k2:Kd D (if t<p.2 then t else p.2):=by split<;>assumption
  generalize (if p.1<f then f else p.1)=u at*;generalize (if t<p.2 then t else p.2)=v at*;split
  · exact k2.sub k1
  exact Kd.int D 0
theorem eW {D:Nat}{f t:Rat}(hf:Kd D f)(ht:Kd D t):∀{l:List QQ},(∀p,p∈l->Kd D p.1/\Kd D p.2)->Kd D (Fh f t l)
  | [],_=>by rw[Ls];exact Kd.int D 0
  | p::l,h=>by
    rw[Hq];exact(pQ hf ht (h p xE).1 (h p xE).2).add (eW hf ht fun z hz=>h z (wS _ hz))
theorem dY {rule:Int}{a b:Int×Int}{rs:List Bb}{F:Nat}{y:Rat}(h:Kd F y):Kd (Wo (Ab rs)*F) (Jk rule a b rs y):=by
  refine eW (Kd.int _ _) (Kd.int _ _) (fR (P:=Kd (Wo (Ab rs)*F)) fun m hm=> ?_);obtain⟨e,he,hx⟩:=iM hm;rw[hx];exact(tL h).up (Nat.mul_dvd_mul_right (fI he) F)
theorem cT (l:List QQ):(Eg l).length<=l.length:=by
  have h:=mE (Dk l) (Dk l).length;rw[xK]at h;refine Aw h ?_;unfold Dk;rw[Stb.stab_len];exact List.length_filter_le _ _
theorem fS (rule:Int)(ms:List QI):(Jl rule ms).length<=ms.length:=by
  refine Aw (cT _) (Aw (oG _ _) ?_);rw[Io];omega
theorem iK (y:Rat)(rs:List Bb):(Fu y rs).length<=(Ab rs).length:=by
  rw[Tf,Stb.stab_len];exact List.length_filterMap_le _ _
theorem Qg (rs:List Bb):(Ab rs).length<=Gj rs:=by
  unfold Ab;split
  · exact Es rs
  simp[Cc]
theorem Zu {y:Rat}:∀{l:List Rat},(Hj l y).length<=l.length+1
  | []=>by simp[Hj]
  | x::l=>by
    have:=Zu (y:=y) (l:=l);unfold Hj;split
    · simp;omega
    split<;>simp
theorem aB {lo hi:Rat}:∀{all l:List Rat},(Jp lo hi l all).length<=l.length+all.length
  | [],l=>by simp[Jp]
  | x::all,l=>by
    show(Jp lo hi (if lo<x/\x<hi then Hj l x else l) all).length<=_;have h1:=aB (lo:=lo) (hi:=hi) (all:=all) (l:=if lo<x/\x<hi then Hj l x else l);have h2:(if lo<x/\x<hi then Hj l x else l).length<=l.length+1:=by
      split
      · exact Zu
      omega
    rw[xB];omega
theorem aR {α β:Type}{f:α->List β}(h:∀x,(f x).length<=1):∀l:List α,(l.flatMap f).length<=l.length
  | []=>by simp
  | x::l=>by
    have:=h x;have:=aR h l;rw[List.flatMap_cons,wD,xB];omega
theorem Ys (e:Df)(x:Int):(Mv e x).length<=1:=by unfold Mv;split<;>simp
theorem kI (o e:Df):(Km o e).length<=1:=by unfold Km;split<;>simp
theorem Zl (a b:Int×Int)(N:Nat):∀(l p:List Df),p.length+l.length<=N->(Kn a b p l).length<=l.length*(N+2)
  | [],p,_=>by simp[Kn]
  | x::l,p,h=>by
    have h1:=Zl a b N l (p++[x]) (by simp at h⊢;omega);have h2:=aR (f:=fun o=>Km x o) (fun o=>kI x o) p;have h3:=Ys x a.1;have h4:=Ys x b.1;show(Ie a b p x++Kn a b (p++[x]) l).length<=_;unfold Ie;simp only[wD,xB,xL,Nat.one_mul]at h⊢;omega
theorem Zj:∀rs:List Bb,(Nk rs).length=Gj rs
  | []=>rfl
  | r::rs=>by
    have:=Zj rs;have e:Gj (r::rs)=r.length+Gj rs:=by
      have:=dZ [r] rs;simpa[Gj]using this
    rw[e,<-this];simp[Nk]
theorem kX {a b:Int×Int}{rs:List Bb}{N:Nat}(h:Gj rs<=N):(Eb a b rs).length<=2+N+N*(N+2):=by
  unfold Eb;split
  · rename_i k
    have h1:=aB (lo:=(a.2:Rat)) (hi:=(b.2:Rat)) (all:=Lj a b rs) (l:=[(a.2:Rat),(b.2:Rat)]);have h2:=Zl a b N (Cc rs) [] (by have:=Es rs;simp;omega);have h3:=Zj rs;have h4:=xC (N+2) (Aw (Es rs) h);unfold Lj at h1⊢;simp only[wD,xB,List.length_nil]at h1;omega
  simp
theorem fJ {W:Rat->Rat}{D F C M:Nat}(hW:∀y,Kd (2*D) y->Kd F (W y))(h0:∀y,0<=W y/\W y<=((C:Int):Rat)):∀{l:List Rat},(∀x,x∈l->Kd D x/\ -((M:Int):Rat)<=x/\x<=((M:Int):Rat))->l.Pairwise (· < ·)->Kd (F*D) (Ed W l)/\0<=Ed W l/\Ed W l<=(((l.length*(C*(2*M)):Nat):Int):Rat)
 | [],_,_=>⟨Kd.int _ 0,by simp[Ed],by simp[Ed]⟩
 | [x],_,_=>⟨Kd.int _ 0,by simp[Ed],by show(0:Rat)<=_;exact_mod_cast Int.natCast_nonneg _⟩
 |x::y::l,h,hs=>by
  obtain⟨k1,k2,k3⟩:=fJ hW h0 (l:=y::l) (fun z hz=>h z (wS _ hz)) (List.pairwise_cons.1 hs).2;obtain⟨x1,x2,x3⟩:=h x xE;obtain⟨y1,y2,y3⟩:=h y (wS _ xE);have A0:x<y:=(List.pairwise_cons.1 hs).1 y xE;obtain⟨w1,w2⟩:=h0 ((x+y)/2);have wk:=hW _ (x1.half y1);have hd:0<=y-x/\y-x<=(((2*M:Nat):Int):Rat):=by
   rw[wZ,Rat.intCast_mul];have:(((2:Nat):Int):Rat)=2:=rfl;constructor<;>grind
  show Kd (F*D) (W ((x+y)/2)*(y-x)+Ed W (y::l))/\0<=W ((x+y)/2)*(y-x)+Ed W (y::l)/\W ((x+y)/2)*(y-x)+Ed W (y::l)<=_;refine⟨(wk.mul (y1.sub x1)).add k1,?_,?_⟩
  ·have:=Rat.mul_nonneg w1 hd.1
   grind
  have e1:W ((x+y)/2)*(y-x)<=((C:Int):Rat)*(((2*M:Nat):Int):Rat):=by
   have a1:=Rat.mul_le_mul_of_nonneg_right w2 hd.1;have a2:=Rat.mul_le_mul_of_nonneg_left hd.2 (show(0:Rat)<=((C:Int):Rat)from by exact_mod_cast Int.natCast_nonneg C);grind
  have e2:((((x::y::l).length*(C*(2*M)):Nat):Int):Rat)=((C:Int):Rat)*(((2*M:Nat):Int):Rat)+((((y::l).length*(C*(2*M)):Nat):Int):Rat):=by
   rw[<-Rat.intCast_mul,<-wZ,<-Rat.intCast_add,<-Int.natCast_add];congr 2;rw[xB (a:=x),Nat.succ_mul,Nat.add_comm]
  rw[e2];grind
def part (rule:Int)(a b:Int×Int)(rs:List Bb)(k:Nat):Rat:=Ed (Jk rule a b rs) ((Eb a b rs).take (k+1))
theorem Vo (rule:Int)(a b:Int×Int)(rs:List Bb):part rule a b rs 0=0:=by
  unfold part;cases Eb a b rs with
  |nil=>rfl
  |cons x l=>rfl
theorem Wt (W:Rat->Rat):∀(l:List Rat) (k:Nat) (x y:Rat),l[k]?=some x->l[k+1]?=some y->Ed W (l.take (k+2))=Ed W (l.take (k+1))+W ((x+y)/2)*(y-x)
  | [],k,x,y,h,_=>by simp at h
  | [z],0,x,y,_,h=>by simp at h
  | [z],k+1,x,y,h,_=>by simp at h
  | a::b::l,0,x,y,h,h2=>by
    simp at h h2;subst h h2;show W ((a+b)/2)*(b-a)+Ed W [b]=Ed W [a]+_;show W ((a+b)/2)*(b-a)+0=0+_;grind
  | a::b::l,k+1,x,y,h,h2=>by
    have ih:=Wt W (b::l) k x y (by simpa using h) (by simpa using h2);show W ((a+b)/2)*(b-a)+Ed W (b::l.take (k+1))=W ((a+b)/2)*(b-a)+Ed W (b::l.take k)+_;rw[List.take_succ_cons,List.take_succ_cons]at ih;rw[ih];grind
theorem Vp {rule:Int}{a b:Int×Int}{rs:List Bb}{k:Nat}{x y:Rat}(h:(Eb a b rs)[k]?=some x)(h2:(Eb a b rs)[k+1]?=some y):part rule a b rs (k+1)=part rule a b rs k+Jk rule a b rs ((x+y)/2)*(y-x):=Wt _ _ _ _ _ h h2
theorem Zz {rule:Int}{a b:Int×Int}{rs:List Bb}{k:Nat}(h:(Eb a b rs).length<=k+1)(h1:a.1<b.1):part rule a b rs k=En rule a b rs:=by
  unfold part En;rw[wI h];split
  · rename_i c
    have:¬Uo a b rs:=fun k=>by have:=k.2.2.2;omega
    rw[show Eb a b rs=[]from if_neg this];rfl
  rfl
theorem eJ {rule:Int}{a b:Int×Int}{rs:List Bb}(ha:Dy a)(hb:Dy b)(h1:a.1<=b.1)(ht:Gj rs<=24)(hh:∀x,x∈Eb a b rs->Nm.rl x<=24)(k:Nat):Nm.rl (part rule a b rs k)<=50000:=by
 have a2:=Bg ha;have b2:=Bg hb;by_cases c:Uo a b rs
 ·have hD:=rH hh
  have hc:=kX (a:=a) (b:=b) ht;have hE:Nm.nl (Wo (Ab rs))<=25:=by
   refine Aw (dG fun e he=> ?_) (by have:=Qg rs;omega);rw[Mp c.1]at he;obtain⟨r,hr,h3,h4⟩:=Wn he;exact⟨Ov c.1 hr h3,Ov c.1 hr h4⟩
  have hp:=fJ (W:=Jk rule a b rs) (D:=dn (Eb a b rs)) (F:=Wo (Ab rs)*(2*dn (Eb a b rs))) (C:=2097152) (M:=1048576) (fun y hy=>dY hy)
   (fun y=>⟨dW y,Rat.le_trans (dX h1 y) (by rw[<-Rat.intCast_sub];exact Rat.intCast_le_intCast.2 ω)⟩) (l:=(Eb a b rs).take (k+1))
   (fun x hx=>⟨rI (List.mem_of_mem_take hx),by
    have h5:=Xj (List.mem_of_mem_take hx);have h6:(((-1048576:Int)):Rat)<=(a.2:Rat):=Rat.intCast_le_intCast.2 ω;have h7:(b.2:Rat)<=(((1048576:Nat):Int):Rat):=Rat.intCast_le_intCast.2 ω;exact⟨Rat.le_trans (by rw[<-Rat.intCast_neg];exact h6) h5.1,Rat.le_trans h5.2 h7⟩⟩)
   ((Zk a b rs).sublist (List.take_sublist _ _))
  have A0:0<Wo (Ab rs)*(2*dn (Eb a b rs))*dn (Eb a b rs):=Nat.mul_pos (Nat.mul_pos (Yc _) (Nat.mul_pos (by decide) (dH _))) (dH _);have hr:=Kd.rl (M:=((Eb a b rs).take (k+1)).length*(2097152*(2*1048576))) A0 hp.1 (Rat.le_trans (by
   have:(0:Rat)<=(((((Eb a b rs).take (k+1)).length*(2097152*(2*1048576)):Nat):Int):Rat):=by exact_mod_cast Int.natCast_nonneg _
   grind) hp.2.1) hp.2.2
  refine Aw hr ?_;have n1:=Nm.nl_mul (((Eb a b rs).take (k+1)).length*(2097152*(2*1048576))) (Wo (Ab rs)*(2*dn (Eb a b rs))*dn (Eb a b rs));have n2:=Nm.nl_mul (Wo (Ab rs)*(2*dn (Eb a b rs))) (dn (Eb a b rs));have n3:=Nm.nl_mul (Wo (Ab rs)) (2*dn (Eb a b rs));have n4:=Nm.nl_mul 2 (dn (Eb a b rs));have n5:Nm.nl 2<=1:=Nm.nl_le (by decide);have n6:Nm.nl (((Eb a b rs).take (k+1)).length*(2097152*(2*1048576)))<=2:=by
   refine Nm.nl_le ?_;have:((Eb a b rs).take (k+1)).length<=650:=by rw[wK];omega
   have:=xC (2097152*(2*1048576)) this;exact Nat.lt_of_le_of_lt this (by decide)
  omega
 unfold part;rw[show Eb a b rs=[]from if_neg c];exact Aw (show Nm.rl (0:Rat)<=1 from by decide+kernel) (by decide)
def Dj (rule:Int)(rs:List Bb):Int:=if Hh rs=true then(if rule=1\/rule=2 then 0 else 2)else 12
def Cp (rule:Int)(a b:Int×Int)(rs:List Bb):Int:=if Hh rs=true then(if rule=1\/rule=2 then(if Cm a.1 a.2=true/\Cm b.1 b.2=true then 0 else 6)else 2)else 12
theorem Il {rule:Int}{a b:Int×Int}{rs:List Bb}:Cp rule a b rs=0↔Hh rs=true/\(rule=1\/rule=2)/\Cm a.1 a.2=true/\Cm b.1 b.2=true:=by
  unfold Cp;by_cases h1:Hh rs=true<;>by_cases h2:rule=1\/rule=2<;>by_cases h3:Cm a.1 a.2=true/\Cm b.1 b.2=true<;>simp[h1,h2,h3]
def De (n:Int):Bool:=decide (n< -4096)||decide (4096<n)
def An (x y:Int):Int×Int:=if (De x||De y)=true then(1048577,0)else(x*256,y*256)
def Hm (x y:Int):Int×Int:=if Cm (An x y).1 (An x y).2=true then An (x+1) (y+1)else An x y
theorem jQ {rule:Int}{a b:Int×Int}{rs:List Bb}{y:Rat}{c:Nat}(hok:Hh rs=true)(ha:Dy a)(hb:Dy b)(h1:a.1<=b.1)(ht:Gj rs<=24)(hy:Nm.rl y<=c):Nm.rl (Jk rule a b rs y)<=c+30:=by
 have a2:=Bg ha;have b2:=Bg hb;have hE:Nm.nl (Wo (Ab rs))<=25:=by
  refine Aw (dG fun e he=> ?_) (by have:=Qg rs;omega);rw[Mp hok]at he;obtain⟨r,hr,h3,h4⟩:=Wn he;exact⟨Ov hok hr h3,Ov hok hr h4⟩
 have hd:Nm.nl y.den<=c:=Aw (Nat.le_max_right _ _) hy;have k:=dY (rule:=rule) (a:=a) (b:=b) (rs:=rs) (Kd.den y);have A0:0<Wo (Ab rs)*y.den:=Nat.mul_pos (Yc _) y.den_pos;have hr:=Kd.rl (M:=2097152) A0 k (Rat.le_trans (by decide+kernel) (dW y)) (Rat.le_trans (dX h1 y) (by rw[<-Rat.intCast_sub];exact Rat.intCast_le_intCast.2 ω));refine Aw hr ?_;have n1:=Nm.nl_mul 2097152 (Wo (Ab rs)*y.den);have n2:=Nm.nl_mul (Wo (Ab rs)) y.den;have n3:Nm.nl 2097152<=1:=Nm.nl_le (by decide);omega
theorem kT {p q:Rat}{c:Nat}(hp:Nm.rl p<=c)(hq:Nm.rl q<=c):Nm.rl ((p+q)/2)<=2*c+3:=by
  have h1:=Nm.rl_add p q;have h2:=Nm.rl_div (p+q) 2;have h3:Nm.rl (2:Rat)<=1:=by decide+kernel
  omega
theorem Uv (rule:Int)(y:Rat){rs:List Bb}(h:Gj rs<=24):(Jl rule (Fu y rs)).length<=24:=by
  have h1:=fS rule (Fu y rs);have h2:=iK y rs;have h3:=Qg rs;omega
theorem eV (rule:Int)(a b:Int×Int)(rs:List Bb)(y:Rat):Fh (((a.1:Int)):Rat) (((b.1:Int)):Rat) (Eg (Jl rule (Fu y rs)))=Jk rule a b rs y:=by
  unfold Jk Jl;rw[aI]
end
section
attribute [local go_sem ↓] Go.wp_at_zero Go.wp_at_succ Az Ay
theorem Ke (A:Option Addr)(cap:Nat)(rs:List Bb)(rule:Int)(k:Int)(w:World)(hu:Ch w (.slice A rs.length cap) rs)(hn:rs.length<=1048576)(hr:∀r,r∈rs->r.length<=1048576)(hk:Dj rule rs=k):
  Calls prog 18 #[.slice A rs.length cap,iV rule] w fun e w'=>e= .returned (iV k)/\Aa w w':=by
 subst hk;have HU:=zH hu;have HN:=zH hn;have A0:=zH hr;clear hu hr;go_enter func18,ntmps18
 have H0:=zH (Hp.start w);go_upto_region 0 with fail;apply wl;apply zq (iV 0);rcases Ck (Hh rs=true)with HV|HV
 ·go_upto_region 1 with fail
  apply wl;refine Cy Af _ ?_;refine zc (Du _ rs _ (HU.1.ext H0.1.ext) HN.1 A0.1) ?_;rintro e w4 ⟨rfl,hx⟩;have H5:=zH (H0.1.step hx);clear hx;refine⟨.bool true,by rw[HV.1],?_⟩;try simp only[ζ]
  refine Bq Af φ φ ?_;rcases Ck (rule=1)with H1|H1
  ·go_upto_region 3 with fail
   apply wl;apply zq (iV rule);apply zp φ (by exact Kg (e:=(Aj (fun h_=>h_ H1.1))));refine Ql Af φ _ _ φ φ ?_;go_upto_region 5 with fail;apply wl;apply zq (iV 0);go_wp2_with fail;go_ret;exact⟨by rw[show Dj rule rs=0 from(if_pos HV.1).trans (if_pos (.inl H1.1))]<;>rfl,H5.1.ext⟩
  rcases Ck (rule=2)with H2|H2
  ·go_upto_region 3 with fail
   apply wl;apply zq (iV rule);apply zp τ (by exact Kg (e:=(Aq H1.1)));refine Bq Af τ (iV rule) ?_;apply zp φ (by exact Kg (e:=(Aj (fun h_=>h_ H2.1))));refine Bq Af φ φ ?_;go_upto_region 5 with fail;apply wl;apply zq (iV 0);go_wp2_with fail;go_ret;exact⟨by rw[show Dj rule rs=0 from(if_pos HV.1).trans (if_pos (.inr H2.1))]<;>rfl,H5.1.ext⟩
  go_upto_region 3 with fail;apply wl;apply zq (iV rule);apply zp τ (by exact Kg (e:=(Aq H1.1)));refine Bq Af τ (iV rule) ?_;apply zp τ (by exact Kg (e:=(Aq H2.1)));refine Bq Af τ τ ?_;go_upto_region 4 with fail;apply wl;apply zq (iV 2);go_wp2_with fail;go_ret;exact⟨by rw[show Dj rule rs=2 from(if_pos HV.1).trans (if_neg (fun h_=>h_.elim H1.1 H2.1))]<;>rfl,H5.1.ext⟩
 go_upto_region 1 with fail;apply wl;refine Cy Af _ ?_;refine zc (Du _ rs _ (HU.1.ext H0.1.ext) HN.1 A0.1) ?_;rintro e A2 ⟨rfl,hx⟩;have A1:=zH (H0.1.step hx);clear hx;refine⟨.bool false,by rw[Bool.eq_false_iff.2 HV.1],?_⟩;try simp only[ζ]
 apply qV τ;apply zq τ;go_upto_region 2 with fail;apply wl;apply zq (iV 12);go_wp2_with fail;go_ret;exact⟨by rw[show Dj rule rs=12 from if_neg HV.1]<;>rfl,A1.1.ext⟩
end
section
open Go.RowKit Go.Maps
attribute [local go_sem ↓] Go.wp_at_zero Go.wp_at_succ
theorem tS {n:Int}(h: -9223372036854775808<=n/\n<=9223372036854775807):bits .and .i64 n (-1)=n:=by
  show IntKind.i64.wrap (((BitVec.ofInt 64 n&&& BitVec.ofInt 64 (-1)).toNat:Nat):Int)=n;rw[show BitVec.ofInt 64 (-1)=BitVec.allOnes 64 from by decide,BitVec.and_allOnes,IntKind.wrap_i64,BitVec.toNat_ofInt];omega
theorem uL (n:Int):bits .and .i64 n 1=n%2:=by
  show IntKind.i64.wrap (((BitVec.ofInt 64 n&&& BitVec.ofInt 64 1).toNat:Nat):Int)=n%2;rw[BitVec.toNat_and,show(BitVec.ofInt 64 1).toNat=1 from by decide,Nat.and_one_is_mod,IntKind.wrap_i64,BitVec.toNat_ofInt];omega
theorem uM (n:Int):bits .and .i64 n 0=0:=by
  show IntKind.i64.wrap (((BitVec.ofInt 64 n&&& BitVec.ofInt 64 0).toNat:Nat):Int)=0;rw[show BitVec.ofInt 64 0=0#64 from by decide,BitVec.and_zero,IntKind.wrap_i64];decide
section
variable {H:Type} {P:Program} {w:World} {ops:Array Oper} {rest:List Oper} {op:Oper} {a:Act} {Q:Exit->Act->World->Prop}
theorem Vr (hw:Region.wanted op (yielded ops a.tmps)=true)(m x v:Operand)(t:TypeId)(hop:op.op= .insert t m x v)
  (k e:TypeId)(K:Keyed P k)(ht:P.underlying t=some (.map k e))(R:Value->Option (DataW H×List MemPlace))(b n:Nat)(D:DataW H)
  (hm:a.eval m= .map (some b))(hown:w.ownsMap P k R b n D)(hn:n<maxLen)(key val:Value)(kl:Lit)(hx:a.eval x=key)(hv:a.eval v=val)(hkey:keyOf P k key=some kl)
  (d:DataW H)(ps:List MemPlace)(hval:R val=some (d,ps))
  (h:∀w',w'.ownsMap P k R b (n+1) (D.put kl d)->w.grownBy w' (some b)->wpList P ops Q rest (a.put op.dst undef) w'):wpList P ops Q (op::rest) a w:=by
 obtain⟨w',A0,r1,r2⟩:=hown.update K ht hn hkey hval;refine Bk hw ?_;unfold Oper.wp execOp;simp only[hop];simp[hm,hx,hv,A0,Result.andThen];exact h _ r1 r2
theorem iG (hw:Region.wanted op (yielded ops a.tmps)=true)(m x:Operand)(t:TypeId)(hop:op.op=Op.lookup t m x false)
  (k e:TypeId)(q:IntKind)(K:Keyed P k)(ht:P.underlying t=some (.map k e))(he:P.underlying e=some (.int q))(hz:(zeroValue e).run P w= .ok (.int q 0) w)(b n:Nat)(D:DataW H)
  (hm:a.eval m= .map (some b))(hown:w.ownsMap P k (plainElem P e) b n D)(key:Value)(kl:Lit)(hx:a.eval x=key)(hkey:keyOf P k key=some kl)
  (h:∀c:Int,D.atKey kl (.lit (.int q 0))= .lit (.int q c)->wpList P ops Q rest (a.put op.dst (.int q c)) w):wpList P ops Q (op::rest) a w:=by
 obtain⟨c,A0,A1,_⟩:=hown.lookup_int K ht he hz hkey;refine Bk hw ?_;unfold Oper.wp execOp;simp only[hop];simp[hm,hx,A0,Result.andThen];exact h c A1
end
def bI:DataW Unit:=((DataW.map []).put (.int .i64 1) (.lit (.int .i64 (-1)))).put (.int .i64 2) (.lit (.int .i64 1))
theorem nF:bI= .map [(.int .i64 1,.lit (.int .i64 (-1))),(.int .i64 2,.lit (.int .i64 1))]:=by
  unfold bI DataW.put;simp[DataW.insert,Lit.sameKey,Lit.before]
theorem nG (r c:Int)(h:bI.atKey (.int .i64 r) (.lit (.int .i64 0))= .lit (.int .i64 c)):c=if r=1 then-1 else if r=2 then 1 else 0:=by
 rw[nF]at h;unfold DataW.atKey at h;by_cases h1:r=1
 ·subst h1
  rw[if_pos rfl];have h2:(DataW.lit (.int .i64 (-1)):DataW Unit)= .lit (.int .i64 c):=h;injection h2 with h2
  injection h2 with _ h2
  exact h2.symm
 by_cases h2:r=2
 ·subst h2
  rw[if_neg h1,if_pos rfl];have h2:(DataW.lit (.int .i64 1):DataW Unit)= .lit (.int .i64 c):=h;injection h2 with h2
  injection h2 with _ h2
  exact h2.symm
 have h3:¬(1=r):=fun k=>h1 k.symm
 have h4:¬(2=r):=fun k=>h2 k.symm
 simp[Lit.sameKey,h3,h4]at h;simp[h1,h2,h]
theorem Wh (n rule:Int)(w:World)(hn: -9223372036854775808<=n/\n<=9223372036854775807)(hr: -9223372036854775808<=rule/\rule<=9223372036854775807):
  Calls prog 50 #[.int .i64 n,.int .i64 rule] w fun e w'=>e= .returned (.bool (Gr n rule))/\Aa w w':=by
 have K:Keyed prog 3:=int_keyed underlying3;have A1:∀z:Int,-9223372036854775808<=z/\z<=9223372036854775807->(Lit.int .i64 z).wf=true:=fun z h=>by
  have A2:IntKind.i64.min= -9223372036854775808:=rfl;have A3:IntKind.i64.max=9223372036854775807:=rfl;simp only[Lit.wf,xA,decide_eq_true_eq];omega
 have HK:=zH K;have HW:=zH A1;have HN:=zH hn;have A4:=zH hr;clear K A1 hn hr;go_enter func50,ntmps50
 go_upto_region 1 with fail;refine wp_region_lit ?_;refine zp (w':=w.alloc (.map #[] 0)) (.map (some w.heap.size)) (by have A5:= @run_makeMap prog;go_simp) ?_;refine Vr (H:=Unit) (by rfl) _ _ _ _ (by rfl) 3 3 HK.1 underlying117 (plainElem prog 3) w.heap.size 0 (.map []) (by rfl) (World.ownsMap_made w _ _ _) (by unfold maxLen;decide) (.int .i64 1) (.int .i64 (-1)) (.int .i64 1) (by rfl) (by rfl) (keyOf_int_mk underlying3 (HW.1 1 (by decide))) (.lit (.int .i64 (-1))) [] (plainElem_int underlying3 (HW.1 (-1) (by decide))) ?_;intro w1 o1 g1
 (try simp only[Act.put])
 refine Vr (H:=Unit) (by rfl) _ _ _ _ (by rfl) 3 3 HK.1 underlying117 (plainElem prog 3) w.heap.size 1 _ (by rfl) o1 (by unfold maxLen;decide) (.int .i64 2) (.int .i64 1) (.int .i64 2) (by rfl) (by rfl) (keyOf_int_mk underlying3 (HW.1 2 (by decide))) (.lit (.int .i64 1)) [] (plainElem_int underlying3 (HW.1 1 (by decide))) ?_;intro w2 o2 g2
 (try simp only[Act.put])
 have HX:=zH (show Aa w w2 from(((Aa.refl w).alloc (.map #[] 0)).grown g1 (fun k hk=>by injection hk with hk;omega)).grown g2 (fun k hk=>by injection hk with hk;omega));have HO:=zH (show w2.ownsMap prog 3 (plainElem prog 3) w.heap.size 2 bI from o2);clear o1 g1 o2 g2;refine zp (w':=w2) (.map (some w.heap.size)) (by go_simp) ?_;refine zp (w':=w2) (.map (some w.heap.size)) (by go_simp) ?_;go_upto_region 2 with fail
 refine wp_region_lit ?_;refine zp (w':=w2) (.int .i64 n) (by go_simp) ?_;refine zp (w':=w2) (.map (some w.heap.size)) (by go_simp) ?_;refine zp (w':=w2) (.int .i64 rule) (by go_simp) ?_;refine iG (H:=Unit) (by rfl) _ _ _ (by rfl) 3 3 .i64 HK.1 underlying117 underlying3 (Tryz.zeroValue3 _) w.heap.size 2 bI (by rfl) HO.1 (.int .i64 rule) (.int .i64 rule) (by rfl) (keyOf_int_mk underlying3 (HW.1 rule A4.1)) ?_;intro c hc;have A0:=nG rule c hc;have hb:(bits .and .i64 n c != 0)=Gr n rule:=by
  unfold Gr;by_cases h1:rule=1
  ·subst h1
   rw[A0,if_pos rfl,tS HN.1];by_cases h0:n=0<;>simp[h0]
  by_cases h2:rule=2
  ·subst h2
   rw[A0,if_neg h1,if_pos rfl,uL];by_cases h0:n%2=0<;>simp[h0]
  rw[A0,if_neg h1,if_neg h2,uM];simp[h1,h2]
 have HB:=zH hb;clear hc A0 hb;try simp only[ζ]
 go_wp2_with fail;go_ret;exact⟨by rw[<-HB.1];rfl,HX.1⟩
end
section
attribute [local go_sem ↓] Go.wp_at_zero Go.wp_at_succ Az Ay
theorem Vu (L:Nat)(u:Value)(ps:List QQ)(w:World)(hu:Hs L w u ps)(h1L:1<=L)(hL:L<=60000)(hn:ps.length<=20000):
  Calls prog 48 #[u] w fun e w'=>∃v es,e= .returned v/\Hf L w' w.heap.size v es/\es.map Bv.vl=Eg ps/\es.length<=ps.length/\Aa w w':=by
 obtain⟨A,cu,rfl,hA⟩:=hu;obtain⟨i0,hi,I1,I0,B8⟩:=info_parts cW;have K0:=zH h1L;have HI:=zH (And.intro hi (And.intro I1 (And.intro I0 B8)));have HA:=zH (fun(w':World) (x:Aa w w') (k:Nat) (p:QQ) (hp:ps[k]?=some p)=>(show∃g D2,A=some ⟨g,D2,none⟩/\∃cs:List Value,w'.rangeAt g (D2+k*8) cs/\Mw L w' cs.toArray p.1 p.2 by
  obtain⟨g,D2,h1,h2⟩:=hA (by have:=(List.getElem?_eq_some_iff.1 hp).1;omega);obtain⟨cs,h3,h4⟩:=h2 k p hp;exact⟨g,D2,h1,cs,Be h3 x,h4.ext x⟩))
 clear hi I1 I0 B8 hA;go_enter func48,ntmps48;go_wp2_with fail;go_loopg [3,12] ps.length (fun c v i wr=>∃(k:Nat) (es:List Bv) (v2:Value),k<=ps.length/\c=ps.length-k/\i= iV k/\v2=v/\Hf L wr w.heap.size v2 es/\es.map Bv.vl=La (ps.take k)/\es.length<=k/\Aa w wr)
 case atStart=>exact⟨0,[],_,wM _,rfl,rfl,rfl,⟨Bi.nil _ _ _ _,by simp⟩,rfl,Bz _,Aa.refl _⟩
 obtain⟨k,es,v,hk,rfl,rfl,rfl,I3,J1,K7,hx⟩:=hrel;have E0:=zH I3;have C4:=zH (And.intro J1 K7);have HX:=zH hx;clear I3 J1 hx;by_cases hlt:k<ps.length
 ·have H1:(k:Int)<(ps.length:Int):=ω
  obtain⟨p,hp⟩:∃p,ps[k]?=some p:=⟨_,wC hlt⟩;obtain⟨g,D2,rfl,cs,hr,G3⟩:=HA.1 wr HX.1 k p hp;have J7:=zH (Sb hp);have J2:cs.length=8:=by have:=G3.size;simpa using this
  have D4:∀v,v∈cs->v.oneCell'=true:=by
   have h:=G3.one;rw[Array.all_eq_true_iff_forall_mem]at h;exact fun v hv=>h v (by simpa using hv)
  have HR:=zH hr;have G7:=zH G3;have D1:=zH J2;have B2:=zH hlt;have F9:=zH (fun X hX=>bR (X:=X) E0.1 hX);clear hr G3 hp hlt;go_upto_region 4 with fail
  refine wp_region_lit ?_;apply zq (.pointer (some ⟨g,D2+k*8,none⟩));refine Bk (by rfl) (wp_load_mid _ _ (by rfl) g (D2+k*8) (by rfl) cs _ HR.1 underlying73 (by rfl) (by rw[D1.1];kernel_rfl) ?_);try simp only[ζ]
  clear J2;refine zp (w':=wr.alloc (.cells z8 73)) (.pointer (π wr.heap.size)) (by go_simp) ?_;refine pO (cs).toArray (Al.new wr _ _) (by simp[D1.1]) (by rw[show((cs).toArray:Array Value).size=8 by simp[D1.1]];kernel_rfl) (all_oneCell_toArray D4) ?_
  (try simp only[Act.put])
  obtain⟨E3,E2⟩:=Pa wr 73 z8 (cs).toArray (by simp[D1.1]);generalize (wr.alloc (.cells z8 73)).setCells wr.heap.size 0 ((cs).toArray:Array Value).toList=w4 at*;have G0:=zH (F9.1 wr.heap.size (Bz _));generalize wr.heap.size=X4 at*;have B3:=zH E3;have C5:=zH E2;clear E3 E2;go_upto_region 5 with fail
  refine wp_region_lit ?_;apply zq (.pointer (π X4));refine pP 0 4 C5.1 underlying31 (by simp[D1.1]) ?_;try simp only[ζ]
  apply zq (.pointer (some ⟨X4,4,none⟩));refine pP 4 4 C5.1 underlying31 (by simp[D1.1]) ?_;try simp only[ζ]
  obtain⟨z,hz⟩:∃z,z=Di p.1 p.2:=⟨_,rfl⟩;have B0:z<0↔p.1<p.2:=by rw[hz];exact rcmp_lt
  refine Ge (by rfl) (by go_simp) (lC hz (G7.1.ext B3.1).c0 (G7.1.ext B3.1).c1 ω) ?_;rintro e w5 ⟨rfl,hx⟩;have B6:=zH (show Aa w4 w5 from((Aa.refl w4)).trans hx);clear hx;refine⟨_,rfl,?_⟩;try simp only[ζ]
  clear hz;have C1:=zH ((G7.1.ext B3.1).ext B6.1);have K1:=zH (C5.1.ext B6.1);have D5:=zH ((HX.1.trans B3.1).trans B6.1);have F5:=zH ((E0.1.ext B3.1).ext B6.1);clear B3 B6 C5 G7 HR E0;by_cases hpq:p.1<p.2
  ·have B8:z<0:=B0.2 hpq
   clear B0;apply zq τ;have A4:=J7.1;rw[if_pos hpq]at A4;have H8:=zH A4;clear A4;clear hpq B8;go_upto_region 6 with fail
   refine wp_region_held_drew (S:=fun x=>w5.grownBy x v.ownBlock) (by kernel_rfl) (Bh _ Ak.drew) (fun _=> ?_);refine zv 0 (bs 11 1) (Bh _ (Aa.refl w5).drew) ?_;refine mV 1 (bs 11 3) (Bh _ (Aa.refl w5).drew) ?_;refine mP 2 (bs 11 7) 0 4 (fun x hx=>K1.1.grown hx G0.1) underlying31 (by simp[D1.1]) (Bh _ (Aa.refl w5).drew) ?_;try simp only[ζ]
   refine mV 4 (bs 11 23) (Bh _ (Aa.refl w5).drew) ?_;refine mP 5 (bs 11 55) 4 4 (fun x hx=>K1.1.grown hx G0.1) underlying31 (by simp[D1.1]) (Bh _ (Aa.refl w5).drew) ?_;try simp only[ζ]
   refine mC 3 (bs 11 63) (rA (C1.1.ext Ak.drew).c0 ω) ?_;rintro e w6 ⟨c1,rfl,K9,hx⟩;have D8:=zH (show Aa w5 w6 from((Aa.refl w5).drew).trans hx);obtain⟨ra,rfl,I7⟩:=K9;have J9:=zH I7;clear I7;clear hx;refine⟨_,rfl,(Bh _ D8.1),?_⟩;try simp only[ζ]
   refine mC 6 (bs 11 127) (rA (C1.1.ext D8.1).c1 ω) ?_;rintro e w7 ⟨c2,rfl,K8,hx⟩;have A9:=zH (show Aa w5 w7 from(D8.1).trans hx);obtain⟨rb,rfl,I6⟩:=K8;have L4:=zH I6;have H5:=zH (J9.1.ext hx);clear I6 J9;clear hx;refine⟨_,rfl,(Bh _ A9.1),?_⟩;try simp only[ζ]
   refine zv 7 (bs 11 255) (Bh _ A9.1) ?_;have G2:=F5.1.ext A9.1;have E6:=(D5.1.trans A9.1).size;have K6:es.length<=20000:=by have:=C4.1.2;omega
   have J5:Bv.Ok L w7 ⟨ra,rb,p.1,p.2⟩:=⟨H5.1,L4.1,C1.1.c0.rl K0.1,C1.1.c1.rl K0.1⟩;have L5:=zH J5;clear J5;have A2:Aa w7 (w7.alloc (.cells #[.bool ra.n,.slice ra.p ra.l ra.c,.bool ra.m,.slice ra.p2 ra.l2 ra.c2,.bool rb.n,.slice rb.p rb.l rb.c,.bool rb.m,.slice rb.p2 rb.l2 rb.c2] 73)):=Ak.alloc _;refine mU 8 (bs 11 511) (v:= .slice (π w7.heap.size) 1 1) (w':=(w7.alloc (.cells #[.bool ra.n,.slice ra.p ra.l ra.c,.bool ra.m,.slice ra.p2 ra.l2 ra.c2,.bool rb.n,.slice rb.p rb.l rb.c,.bool rb.m,.slice rb.p2 rb.l2 rb.c2] 73))) (Bh _ ((A9.1).alloc _)) ?_;try simp only[ζ]
   refine Nt (j:=9) (listed':=(bs 11 1023)) (by rfl) (by kernel_rfl) (by rfl) _ _ 50 (by rfl) w.heap.size 73 i0 _ 8 128 underlying50 HI.1.1 HI.1.2.1 HI.1.2.2.1 HI.1.2.2.2 rfl (by decide) Jz _ es.length (Cv es) (by rfl) (G2.ext A2).1 ⟨w7.heap.size,0,none⟩ 1 1 [.bool ra.n,.slice ra.p ra.l ra.c,.bool ra.m,.slice ra.p2 ra.l2 ra.c2,.bool rb.n,.slice rb.p rb.l rb.c,.bool rb.m,.slice rb.p2 rb.l2 rb.c2] (by rfl) rfl (Ik _ [.bool ra.n,.slice ra.p ra.l ra.c,.bool ra.m,.slice ra.p2 ra.l2 ra.c2,.bool rb.n,.slice rb.p rb.l rb.c,.bool rb.m,.slice rb.p2 rb.l2 rb.c2] _) (by simp[Value.oneCell']) (Bv.noU ⟨ra,rb,p.1,p.2⟩) (by decide) (by unfold maxLen;omega) ω (by have:=A2.size;omega) (by kernel_rfl) ?_;intro gx cx w8 hf h2 h3 h4;have D7:=zH ((G2.ext A2).snoc (e:=⟨ra,rb,p.1,p.2⟩) rfl (L5.1.ext A2) h2 h4);have G6:=zH (((D5.1.trans A9.1).trans A2).grown h3 (fun j hj=>G2.1.block j hj));have H2:w5.grownBy w8 v.ownBlock:=Wi (A9.1.trans A2) h3;clear G2 E6 hf h2 h3 h4 A2;refine⟨H2,?_⟩;try simp only[ζ]
   refine zv 10 (bs 11 2047) H2 ?_;refine wpAnyH_done (by kernel_rfl) ?_ _;clear H2;go_wp2_with fail;go_roundg (ps.length-(k+1))
   case measure=>have:=B2.1;omega
   case rel=>exact⟨k+1,es++[⟨ra,rb,p.1,p.2⟩],_,B2.1,rfl,by go_num,rfl,D7.1,by rw[H8.1,xI,C4.1.1];rfl,by have:=C4.1.2;simp;omega,G6.1⟩
  have B8:¬z<0:=fun h=>hpq (B0.1 h)
  clear B0;apply zq φ;have A4:=J7.1;rw[if_neg hpq]at A4;have H8:=zH A4;clear A4 hpq B8;go_wp2_with fail
  go_roundg (ps.length-(k+1))
  case measure=>have:=B2.1;omega
  case rel=>exact⟨k+1,es,_,B2.1,rfl,by go_num,rfl,F5.1,by rw[H8.1];exact C4.1.1,by have:=C4.1.2;omega,D5.1⟩
 obtain rfl:k=ps.length:=ω;have M0:¬(ps.length:Int)<(ps.length:Int):=ω;have F4:=zH (bU L v es w.heap.size wr E0.1 hL (by have:=C4.1.2;omega));have E5:(Stb.stab Yn es).map Bv.vl=Dk ps:=by
  have h:=C4.1.1;rw[wI (Bz _)]at h;rw[Ob Bv.vl (lt:=Yn) (lt':=pJ) (fun _ _=>rfl),h];rfl
 have I4:(Stb.stab Yn es).length<=ps.length:=by rw[Stb.stab_len];exact C4.1.2
 have I2:∀j,v.ownBlock=some j->w.heap.size<=j:=E0.1.1.block;generalize Stb.stab Yn es=ss at*;go_upto_region 9 with(go_at_call 85;refine F4.1.mono ?_;rintro e ws ⟨rfl,C0,I9⟩)
 have J4:Aa w ws:=HX.1.grown I9 I2;obtain⟨As,cs,rfl⟩:=Mf C0.1;have B9:=zH C0;have L1:=zH J4;have F1:=zH E5;have L8:ss.length<=20000:=ω
 have D6:=zH B9.1.lt;have L3:=zH I4;clear C0 J4 E5 I9 F4 E0 C4 HX I4 I2;go_wp2_with fail
 go_loopg [6,37] ss.length (fun c v i wr=>∃(k:Nat) (os:List Bv) (v2:Value),k<=ss.length/\c=ss.length-k/\i= iV k/\v2=v/\Hf L wr w.heap.size v2 os/\os.map Bv.vl=((Dk ps).take k).foldl Em []/\os.length<=k/\Hf L wr w.heap.size (.slice As ss.length cs) ss/\(∀j,v2.ownBlock=some j->ws.heap.size<=j)/\Aa w wr/\ws.heap.size<=wr.heap.size)
 case atStart=>exact⟨0,[],_,wM _,rfl,rfl,rfl,⟨Bi.nil _ _ _ _,by simp⟩,by simp,Bz _,B9.1,by intro j hj;simp[Value.ownBlock]at hj,L1.1,Bz _⟩
 clear B9;obtain⟨k,os,v,hk,rfl,rfl,rfl,G5,G4,H0,C0,D3,hx,G9⟩:=hrel;by_cases hlt:k<ss.length
 ·have H1:(k:Int)<(ss.length:Int):=ω
  obtain⟨e,he⟩:∃e,ss[k]?=some e:=⟨_,wC hlt⟩;have C8:=zH (show((Dk ps).take (k+1)).foldl Em []=Em (os.map Bv.vl) (e.p,e.q)by rw[G4,Nr (p:=(e.p,e.q)) (by rw[<-F1.1,xJ,he];rfl)]);have A7:=zH (C0.2 e (wE he));obtain⟨gs,E7,rs,K2,I5⟩:∃gs E7 rs,As=some ⟨gs,0,none⟩/\Sw wr wr gs 73 Bv.cells rs ss/\E7=cs:=by
   rcases C0.form with⟨hv,hn⟩|⟨g,cap,rest,hv,_,hs,_⟩
   ·rw[hn]at hlt;simp at hlt
   injection hv with e1 _ _
   exact⟨g,cs,rest,e1,hs,rfl⟩
  subst K2;have J8:=zH (I5.1.read he Bv.len);have A8:=zH G5;have B9:=zH C0;have A5:=zH (And.intro D3 (And.intro G9 H0));have HX:=zH hx;have B2:=zH hlt;clear G5 G4 C0 D3 hx G9 H0 I5 he hlt;go_upto_region 12 with fail
  refine wp_region_lit ?_;apply zq (.pointer (some ⟨gs,k*8,none⟩));refine Bk (by rfl) (wp_load_mid _ _ (by rfl) gs (k*8) (by rfl) e.cells _ J8.1 underlying73 (by rfl) (by kernel_rfl) ?_);try simp only[ζ]
  refine zp (w':=wr.alloc (.cells z8 73)) (.pointer (π wr.heap.size)) (by go_simp) ?_;refine pO (e.cells).toArray (Al.new wr _ _) (by simp[Bv.len]) (by rw[show((e.cells).toArray:Array Value).size=8 by simp[Bv.len]];kernel_rfl) (all_oneCell_toArray e.one) ?_
  (try simp only[Act.put])
  obtain⟨E3,E2⟩:=Pa wr 73 z8 (e.cells).toArray (by simp[Bv.len]);generalize (wr.alloc (.cells z8 73)).setCells wr.heap.size 0 ((e.cells).toArray:Array Value).toList=w8 at*;generalize wr.heap.size=X8 at*;have C3:=zH E3;have D9:=zH E2;clear E3 E2;have G6:=zH (HX.1.trans C3.1);have F6:=zH (A8.1.ext C3.1);have F3:=zH (B9.1.ext C3.1);have D0:=zH (A7.1.ext C3.1);have H4:=zH (xQ D9.1.lt);clear J8 A8 B9 A7 HX;skip
  have A8:=F6;have B9:=F3;have A7:=D0;have HX:=G6;have G1:=D9;clear F6 F3 D0 G6 D9;rcases eC os with rfl|⟨os,l,rfl⟩
  ·obtain⟨Ao,co,rfl⟩:=Mf A8.1.1
   go_upto_region 14 with fail;refine wp_region_held_drew (S:=fun x=>Aa w8 x) (by kernel_rfl) Ak.drew (fun _=> ?_);refine zv 0 (bs 14 1) (Aa.refl w8).drew ?_;refine zv 1 (bs 14 3) (Aa.refl w8).drew ?_;refine zv 2 (bs 14 7) (Aa.refl w8).drew ?_;refine zs 3 (bs 14 15) (Aa.refl w8).drew ?_;refine zs 4 (bs 14 31) (Aa.refl w8).drew ?_;refine zs 5 (bs 14 63) (Aa.refl w8).drew ?_;refine zs 6 (bs 14 127) (Aa.refl w8).drew ?_;refine zs 7 (bs 14 255) (Aa.refl w8).drew ?_;refine zs 8 (bs 14 511) (Aa.refl w8).drew ?_;refine zs 9 (bs 14 1023) (Aa.refl w8).drew ?_;refine zs 10 (bs 14 2047) (Aa.refl w8).drew ?_;refine zs 11 (bs 14 4095) (Aa.refl w8).drew ?_;refine zs 12 (bs 14 8191) (Aa.refl w8).drew ?_;refine zv 13 (bs 14 16383) (Aa.refl w8).drew ?_;refine wpAnyH_done (by kernel_rfl) ?_ _;have A1:=zH (C8.1.trans (Vs _));have K4:([]:List Bv).length<=20000:=by simp
   have B4:=zH (show Aa w8 w8.drew from Ak.drew);have A3:=zH (A8.1.ext B4.1);have B1:=zH (B9.1.ext B4.1);have A6:=zH (A7.1.ext B4.1);have B7:=zH (G1.1.ext B4.1);have C7:=zH (HX.1.trans B4.1);have C6:=zH (Aw H4.1 B4.1.size);go_upto_region 15 with fail
   refine wp_region_lit ?_;refine zp (w':=w8.drew) (.slice Ao 0 co) (by go_simp<;>with_reducible rfl) ?_;refine pL (cs:=#[.bool e.a.n,.slice e.a.p e.a.l e.a.c,.bool e.a.m,.slice e.a.p2 e.a.l2 e.a.c2,.bool e.b.n,.slice e.b.p e.b.l e.b.c,.bool e.b.m,.slice e.b.p2 e.b.l2 e.b.c2]) B7.1 underlying73 (by kernel_rfl) ?_;try simp only[ζ]
   have E6:=C7.1.size;have A2:Aa w8.drew (w8.drew.alloc (.cells #[.bool e.a.n,.slice e.a.p e.a.l e.a.c,.bool e.a.m,.slice e.a.p2 e.a.l2 e.a.c2,.bool e.b.n,.slice e.b.p e.b.l e.b.c,.bool e.b.m,.slice e.b.p2 e.b.l2 e.b.c2] 73)):=Ak.alloc _;refine zp (w':=(w8.drew.alloc (.cells #[.bool e.a.n,.slice e.a.p e.a.l e.a.c,.bool e.a.m,.slice e.a.p2 e.a.l2 e.a.c2,.bool e.b.n,.slice e.b.p e.b.l e.b.c,.bool e.b.m,.slice e.b.p2 e.b.l2 e.b.c2] 73))) (.slice (π w8.drew.heap.size) 1 1) (by go_simp) ?_;refine Bk (by rfl) (Dw _ _ 50 (by rfl) w.heap.size 73 i0 _ 8 128 underlying50 HI.1.1 HI.1.2.1 HI.1.2.2.1 HI.1.2.2.2 rfl (by decide) Jz _ 0 (Cv ([]:List Bv)) (by rfl) (A3.1.ext A2).1 ⟨w8.drew.heap.size,0,none⟩ 1 1 e.cells (by rfl) rfl (Ik _ e.cells _) e.one e.noU (by decide) (by unfold maxLen;omega) ω (by have:=A2.size;omega) ?_);intro gx cx E4 hf h2 h3 h4;try simp only[ζ]
   have D7:=zH ((A3.1.ext A2).snoc (es:=([]:List Bv)) (e:=e) rfl (A6.1.ext A2) h2 h4);have F0:=zH ((C7.1.trans A2).grown h3 (fun j hj=>A3.1.1.block j hj));have B5:=zH ((B1.1.ext A2).grown h3 (fun j hj hj2=>by have h7:=A5.1.1 j hj2;have h8:=D6.1 j hj;omega) h4);have H7:=zH (show ws.heap.size<=gx from hf.elim (fun hf=>A5.1.1 gx hf) (fun hf=>Aw (Aw A5.1.2.1 C6.1) (Aw A2.size hf)));have E9:=zH (show ws.heap.size<=E4.heap.size from Aw (Aw A5.1.2.1 C6.1) (Aw A2.size h3.size));clear hf h2 h3 h4 A2 E6;refine zp (w':=E4) (.slice (π gx) (0+1) cx) (by go_simp) ?_;go_wp2_with fail
   go_roundg (ss.length-(k+1))
   case measure=>have:=B2.1;omega
   case rel=>exact⟨k+1,([]:List Bv)++[e],_,B2.1,rfl,by go_num,rfl,D7.1,by rw[A1.1];simp[Bv.vl],by have:=A5.1.2.2;simp at this⊢<;>omega,B5.1,by intro j hj;simp[Value.ownBlock]at hj;rw[<-hj];exact H7.1,F0.1,E9.1⟩
  have K3:∃g6 c6,v= .slice (π g6) (os.length+1) c6:=by
   rcases A8.1.form with⟨_,h⟩|⟨g6,c6,_,h,_⟩
   ·simp at h
   exact⟨g6,c6,by simpa using h⟩
  obtain⟨g6,c6,rfl⟩:=K3;obtain⟨m,hm⟩:∃m,os.length=m:=⟨_,rfl⟩;rw[hm]at A8 A5⊢;have HM:=zH hm;have L9:m<=20000:=by have h:=A5.1.2.2;rw[wD,HM.1]at h;omega
  have L7:IntKind.i64.wrap (m:Int)=(m:Int):=by rw[IntKind.wrap_i64];omega
  have H6:=zH (A8.1.2 l (by simp));have J6:=zH (C8.1.trans (show Em ((os++[l]).map Bv.vl) (e.p,e.q)=if l.q<e.p then os.map Bv.vl++[(l.p,l.q)]++[(e.p,e.q)]else if l.q<e.q then os.map Bv.vl++[(l.p,e.q)]else os.map Bv.vl++[(l.p,l.q)]by rw[xI];exact Vt _ _ _));have e1:((m+1:Nat):Int)-1=(m:Int):=ω
  have e2:(m:Int)+1-1=(m:Int):=ω;have e3:((m:Int)+1==0)=false:=by simp;omega
  have e4:(((m+1:Nat):Int)==0)=false:=by simp;omega
  have e5:(m:Int)<(m:Int)+1:=ω;have L0:=zH (A8.1.readEnd HM.1);clear hm;go_upto_region 14 with fail;have E8:=zH (A8.1.readEnd HM.1);have C9:=zH (A8.1.2 l (by simp));clear L0 H6;refine wp_region_held_drew (S:=fun x=>Aa w8 x) (by kernel_rfl) Ak.drew (fun _=> ?_);refine zv 0 (bs 14 1) (Aa.refl w8).drew ?_;refine zv 1 (bs 14 3) (Aa.refl w8).drew ?_;refine zv 2 (bs 14 7) (Aa.refl w8).drew ?_;refine zv 3 (bs 14 15) (Aa.refl w8).drew ?_;refine zv 4 (bs 14 31) (Aa.refl w8).drew ?_;refine zv 5 (bs 14 63) (Aa.refl w8).drew ?_;refine zv 6 (bs 14 127) (Aa.refl w8).drew ?_;refine mV 7 (bs 14 255) (Aa.refl w8).drew ?_;refine zr 8 (bs 14 511) g6 (m*8+4) (rc l.b) (fun x hx=>Be E8.1 hx) underlying31 (Aa.refl w8).drew ?_;refine mV 9 (bs 14 1023) (Aa.refl w8).drew ?_;refine mP 10 (bs 14 2047) 0 4 (fun x hx=>G1.1.ext hx) underlying31 (by simp[Bv.len]) (Aa.refl w8).drew ?_;try simp only[ζ]
  obtain⟨z,hz⟩:∃z,z=Di l.q e.p:=⟨_,rfl⟩;have B0:z<0↔l.q<e.p:=by rw[hz];exact rcmp_lt
  refine mC 11 (bs 14 4095) (lC (L:=L) hz (Ee.ofb (C9.1.ext Ak.drew)) (A7.1.ext Ak.drew).ptIn.c0 ω) ?_;rintro e w9 ⟨rfl,hx⟩;have A0:=zH (show Aa w8 w9 from((Aa.refl w8).drew).trans hx);clear hx;refine⟨_,rfl,A0.1,?_⟩;try simp only[ζ]
  clear hz;by_cases c1:l.q<e.p
  ·have B8:z<0:=B0.2 c1
   clear B0;refine zv 12 (bs 14 8191) A0.1 ?_;refine zv 13 (bs 14 16383) A0.1 ?_;refine wpAnyH_done (by kernel_rfl) ?_ _;have A1:=zH (J6.1.trans (if_pos c1));clear c1;have A3:=zH (A8.1.ext A0.1);have B1:=zH (B9.1.ext A0.1);have A6:=zH (A7.1.ext A0.1);have B7:=zH (G1.1.ext A0.1);have C7:=zH (HX.1.trans A0.1);have C6:=zH (Aw H4.1 A0.1.size);go_upto_region 15 with fail
   refine wp_region_lit ?_;apply zq (.slice (π g6) (m+1) c6);refine pL (cs:=#[.bool e.a.n,.slice e.a.p e.a.l e.a.c,.bool e.a.m,.slice e.a.p2 e.a.l2 e.a.c2,.bool e.b.n,.slice e.b.p e.b.l e.b.c,.bool e.b.m,.slice e.b.p2 e.b.l2 e.b.c2]) B7.1 underlying73 (by kernel_rfl) ?_;try simp only[ζ]
   have E6:=C7.1.size;have A2:Aa w9 (w9.alloc (.cells #[.bool e.a.n,.slice e.a.p e.a.l e.a.c,.bool e.a.m,.slice e.a.p2 e.a.l2 e.a.c2,.bool e.b.n,.slice e.b.p e.b.l e.b.c,.bool e.b.m,.slice e.b.p2 e.b.l2 e.b.c2] 73)):=Ak.alloc _;refine zp (w':=(w9.alloc (.cells #[.bool e.a.n,.slice e.a.p e.a.l e.a.c,.bool e.a.m,.slice e.a.p2 e.a.l2 e.a.c2,.bool e.b.n,.slice e.b.p e.b.l e.b.c,.bool e.b.m,.slice e.b.p2 e.b.l2 e.b.c2] 73))) (.slice (π w9.heap.size) 1 1) (by go_simp) ?_;refine Bk (by rfl) (Dw _ _ 50 (by rfl) w.heap.size 73 i0 _ 8 128 underlying50 HI.1.1 HI.1.2.1 HI.1.2.2.1 HI.1.2.2.2 rfl (by decide) Jz _ (m+1) (Cv (os++[l])) (by rfl) (by have h:=(A3.1.ext A2).1;rw[wD,HM.1]at h;exact h) ⟨w9.heap.size,0,none⟩ 1 1 e.cells (by rfl) rfl (Ik _ e.cells _) e.one e.noU (by decide) (by unfold maxLen;omega) ω (by have:=A2.size;omega) ?_);intro gx cx E4 hf h2 h3 h4;try simp only[ζ]
   have D7:=zH ((A3.1.ext A2).snoc (es:=(os++[l])) (e:=e) (by rw[wD,HM.1];rfl) (A6.1.ext A2) h2 h4);have F0:=zH ((C7.1.trans A2).grown h3 (fun j hj=>A3.1.1.block j hj));have B5:=zH ((B1.1.ext A2).grown h3 (fun j hj hj2=>by have h7:=A5.1.1 j hj2;have h8:=D6.1 j hj;omega) h4);have H7:=zH (show ws.heap.size<=gx from hf.elim (fun hf=>A5.1.1 gx hf) (fun hf=>Aw (Aw A5.1.2.1 C6.1) (Aw A2.size hf)));have E9:=zH (show ws.heap.size<=E4.heap.size from Aw (Aw A5.1.2.1 C6.1) (Aw A2.size h3.size));clear hf h2 h3 h4 A2 E6;refine zp (w':=E4) (.slice (π gx) ((m+1)+1) cx) (by go_simp) ?_;go_wp2_with fail
   go_roundg (ss.length-(k+1))
   case measure=>have:=B2.1;omega
   case rel=>exact⟨k+1,(os++[l])++[e],_,B2.1,rfl,by go_num,rfl,D7.1,by rw[A1.1];simp[Bv.vl],by have:=A5.1.2.2;simp at this⊢<;>omega,B5.1,by intro j hj;simp[Value.ownBlock]at hj;rw[<-hj];exact H7.1,F0.1,E9.1⟩
  have B8:¬z<0:=fun h=>c1 (B0.1 h)
  clear B0;refine zv 12 (bs 14 8191) A0.1 ?_;refine zv 13 (bs 14 16383) A0.1 ?_;refine wpAnyH_done (by kernel_rfl) ?_ _;have F2:=zH (J6.1.trans (if_neg c1));clear c1;go_upto_region 16 with fail
  have H3:=zH (Be E8.1 A0.1);have H9:=zH (G1.1.ext A0.1);have F7:=zH (C9.1.ext A0.1);have F8:=zH (A7.1.ext A0.1);refine wp_region_held_drew (S:=fun x=>Aa w9 x) (by kernel_rfl) Ak.drew (fun _=> ?_);refine zv 0 (bs 10 1) (Aa.refl w9).drew ?_;refine zv 1 (bs 10 3) (Aa.refl w9).drew ?_;refine zv 2 (bs 10 7) (Aa.refl w9).drew ?_;refine zv 3 (bs 10 15) (Aa.refl w9).drew ?_;refine mV 4 (bs 10 31) (Aa.refl w9).drew ?_;refine zr 5 (bs 10 63) g6 (m*8+4) (rc l.b) (fun x hx=>Be H3.1 hx) underlying31 (Aa.refl w9).drew ?_;refine mV 6 (bs 10 127) (Aa.refl w9).drew ?_;refine mP 7 (bs 10 255) 4 4 (fun x hx=>H9.1.ext hx) underlying31 (by simp[Bv.len]) (Aa.refl w9).drew ?_;try simp only[ζ]
  obtain⟨z2,G8⟩:∃z,z=Di l.q e.q:=⟨_,rfl⟩;have B0:z2<0↔l.q<e.q:=by rw[G8];exact rcmp_lt
  refine mC 8 (bs 10 511) (lC (L:=L) G8 (Ee.ofb (F7.1.ext Ak.drew)) (F8.1.ext Ak.drew).ptIn.c1 ω) ?_;rintro e wb ⟨rfl,hx⟩;have C2:=zH (show Aa w9 wb from((Aa.refl w9).drew).trans hx);clear hx;refine⟨_,rfl,C2.1,?_⟩;try simp only[ζ]
  clear G8;have E1:=zH (A0.1.trans C2.1);have A3:=zH (A8.1.ext E1.1);have B1:=zH (B9.1.ext E1.1);have A6:=zH (A7.1.ext E1.1);have B7:=zH (G1.1.ext E1.1);have C7:=zH (HX.1.trans E1.1);have C6:=zH (Aw H4.1 E1.1.size);by_cases c2:l.q<e.q
  ·have B8:z2<0:=B0.2 c2
   clear B0;refine zv 9 (bs 10 1023) C2.1 ?_;refine wpAnyH_done (by kernel_rfl) ?_ _;have A1:=zH (F2.1.trans (if_pos c2));clear c2;go_upto_region 17 with fail
   refine wp_region_lit ?_;apply qV (.slice (π g6) (m+1) c6);apply zq (iV ((m:Int)+1));apply qV (iV m);apply zq (.pointer (some ⟨X8,4,none⟩));refine Bk (by rfl) (wp_load_mid _ _ (by rfl) X8 (4) (by rfl) (rc e.b) _ (show World.rangeAt wb X8 4 (rc e.b)from B7.1.part 4 4) underlying31 (by rfl) (by kernel_rfl) ?_);try simp only[ζ]
   apply qV (.pointer (some ⟨g6,m*8,none⟩));apply zq (.pointer (some ⟨g6,m*8+4,none⟩));obtain⟨t1,t2,t3⟩:=A3.1.turn HM.1 A6.1;obtain⟨M1,J3,I8⟩:=A3.1.rowNoU;refine Bk (by rfl) (wp_store_mid 31 _ _ (by rfl) g6 (m*8+4) (rc e.b).toArray (by rfl) (by rfl) t1 (by kernel_rfl) (all_oneCell_toArray (by simp[Value.oneCell'])) ?_)
   (try simp only[Act.put])
   have D7:=zH t2;have J0:w.heap.size<=g6:=A3.1.1.block g6 (by simp[Value.ownBlock]);have F0:=zH (t3.ext C7.1 J0);have B5:=zH (B1.1.grown (row:=some g6) t3 (fun j hj hj2=>by injection hj2 with hj2;have h7:=A5.1.1 j (by simp[Value.ownBlock,hj2]);have h8:=D6.1 j hj;omega) (fun r q h=>h.own J3 I8 t3));have E9:=zH (Aw (Aw A5.1.2.1 C6.1) t3.size);clear t1 t2 t3 J3 I8 J0;generalize World.setCells wb g6 (m*8+4) _=wn at*
   go_wp2_with fail;go_roundg (ss.length-(k+1))
   case measure=>have:=B2.1;omega
   case rel=>exact⟨k+1,os++[⟨l.a,e.b,l.p,e.q⟩],_,B2.1,rfl,by go_num,rfl,D7.1,by rw[A1.1];simp[Bv.vl],by have:=A5.1.2.2;simp at this⊢<;>omega,B5.1,A5.1.1,F0.1,E9.1⟩
  have B8:¬z2<0:=fun h=>c2 (B0.1 h)
  clear B0;refine zv 9 (bs 10 1023) C2.1 ?_;refine wpAnyH_done (by kernel_rfl) ?_ _;have A1:=zH (F2.1.trans (if_neg c2));clear c2;go_wp2_with fail
  go_roundg (ss.length-(k+1))
  case measure=>have:=B2.1;omega
  case rel=>exact⟨k+1,os++[l],_,B2.1,rfl,by go_num,rfl,(by have h:=A3.1;exact h),by rw[A1.1,xI];rfl,by have:=A5.1.2.2;omega,B1.1,A5.1.1,C7.1,Aw A5.1.2.1 C6.1⟩
 obtain rfl:k=ss.length:=ω;have K5:¬(ss.length:Int)<(ss.length:Int):=ω;have HR:=zH (show os.map Bv.vl=Eg ps by rw[G4,wI (by rw[<-F1.1,wU];exact Bz _)];rfl);have A8:=zH G5;have L2:=zH hx;have L6:=zH (show os.length<=ps.length by have:=L3.1;omega);clear G5 G4 H0 C0 D3 hx G9;go_wp2_with fail
 go_ret;exact⟨_,rfl,os,A8.1,HR.1,L6.1,L2.1⟩
theorem fT (L:Nat)(u:Value)(rs:List Bb)(rule:Int)(ry:RV)(y:Rat)(w:World)(hu:Ch w u rs)(hy:ry.In L w y)(h1L:1<=L)(hL:L<=2000)(hn:rs.length<=1048576)(hr:∀r,r∈rs->r.length<=1048576)(hru: -9223372036854775808<=rule/\rule<=9223372036854775807):
  Calls prog 23 #[u,iV rule,(rg ry)] w fun e w'=>∃v es,e= .returned v/\Hf (L+8) w' w.heap.size v es/\es.map Bv.vl=Jl rule (Fu y rs)/\es.length<=4096/\Aa w w':=by
 have HU:=zH hu;have RY:=zH hy;have E4:=zH hru;clear hu hy hru;go_enter func23,ntmps23
 have H0:=zH (Hp.start w);go_upto_region 0 with fail;apply wl;apply Cd 31 (rc ry) H0.1;intro X1 w2 H3 _;refine Cy Af _ ?_;go_upto_region 3 with fail;apply wl;refine Bq H3.1 (u) _ ?_;refine zc (iL L u rs ry y _ (HU.1.ext H3.1.ext) (RY.1.dig H3.1.dig0) h1L ω hn hr) ?_;rintro e w8 ⟨Am,J2,cm,ms,rfl,rfl,A2,B5,A8,hx⟩;have B7:=zH A8;have E8:=zH B5;obtain⟨I6,G8,F9,E1⟩:=Bi.form A2;injection F9 with e1_ _ _
 subst e1_;have HA:=zH E1;clear A8 B5 E1;have H9:=zH (show Hp w w8 [.blk X1 31 (rc ry),ro 77 5 Am ms.length cm Cg.cells ms]from H3.1.addRow hx A2);clear A2;have G0:ms.length<=4096:=by have h:=Tg y rs;rw[<-B7.1,wU]at h;exact h
 clear hx;refine zn ?_;refine Cy Af _ ?_;have F1:=zH (show Hp w w8 [.blk X1 31 (rc ry),ro 77 5 Am ms.length cm Cg.cells ms,ro 73 8 none 0 0 Bv.cells ([])]from H9.1.addNil 73 8);obtain⟨qs,C4⟩:∃qs,qs=ms.map Cg.vl:=⟨_,rfl⟩;have C7:=zH C4;have J5:qs.length=ms.length:=by rw[C4,wU]
 clear C4;go_wp2_with fail;go_loopg [7,8,17] (ms.length) (fun cq F8 F7 F6 wr=>∃(k:Nat) (m:Nat) (es:List Bv) (A1:Option Addr) (c1:Nat) (s:Int),cq=ms.length-k/\F8= .slice A1 m c1/\F7= iV s/\F6= iV (k:Int)/\(k<=ms.length)/\(Oq qs k=s)/\(-(k:Int)<=s/\s<=k)/\(m=es.length/\m<=k)/\(es.map Bv.vl=eF rule ((Nh 0 qs).take k))/\(∀e,e∈es->e.Ok (L+8) wr)/\Hp w wr [.blk X1 31 (rc ry),.row 77 5 (.slice Am ms.length cm) (ms.length) (List.flatMap Cg.cells ms),.row 73 8 (.slice A1 m c1) (m) (List.flatMap Bv.cells es)]/\Ah w8 wr)
 case atStart=>exact⟨0,0,[],none,0,0,rfl,rfl,rfl,rfl,wM _,rfl,⟨by decide,by decide⟩,⟨rfl,Bz _⟩,rfl,(by simp),F1.1,Ah.refl _⟩
 obtain⟨k,m,es,A1,c1,s,rfl,rfl,rfl,rfl,B4,A6,A5,B3,A0,A7,D9,E0⟩:=hrel;generalize wr=J1 at*;have HK:=zH B4;clear B4;have H6:=zH A6;clear A6;have H2:=zH A5;clear A5;have HM:=zH B3;clear B3;have A4:=zH A0;clear A0;have C1:=zH A7;clear A7;have B9:=zH D9;have D5:=zH E0;clear D9 E0 F1;rcases Ck (k<ms.length)with HLT|HLT
 ·have G6:=HLT.1
  have G5:(k:Int)<(ms.length:Int):=ω;obtain⟨gm,rfl⟩:=HA.1 ω;have J6:k<=4096:=ω
  have D7:m<=4096:=by have:=HM.1.2;omega
  have J4:=H2.1;obtain⟨e,A9⟩:∃e,ms[k]?=some e:=⟨_,wC G6⟩;have F0:=zH A9;have C8:=zH (E8.1 e (wE A9));have H1:=zH C8.1.1;have I5:=zH C8.1.2.1;clear A9;have J3:=C8.1.2.2;have C5:qs[k]?=some e.vl:=by rw[C7.1,xJ,F0.1];rfl
  have C0:=zH (show Oq qs (k+1)=s+e.up from by rw[Vm C5,H6.1];rfl);have H5:=zH C5;clear C5;go_upto_region 6 with fail
  apply wl;apply zq (iV (k:Int));apply zp (.pointer (some ⟨gm,k*5,none⟩)) (by exact Eh (k:=k) underlying74 (l:=HLT.1) (f:=(wH _).symm));refine zd gm (k*5) [.bool e.a.n,.slice e.a.p e.a.l e.a.c,.bool e.a.m,.slice e.a.p2 e.a.l2 e.a.c2,iV e.up] (B9.1.elem (f:=Cg.cells) (i:=1) rR Cg.len F0.1) underlying77 ?_;apply Cd 77 [.bool false,.slice none 0 0,.bool false,.slice none 0 0,iV 0] B9.1;intro C6 J0 I2 B2;apply zq (iV (k:Int));apply Ca 3 [.bool e.a.n,.slice e.a.p e.a.l e.a.c,.bool e.a.m,.slice e.a.p2 e.a.l2 e.a.c2,iV e.up] I2.1;intro I9 C2 B1;go_upto_region 7 with fail;apply wl;refine Cn C2.1 (iV s) _ _ ?_;apply zp (iV (s+e.up)) (by exact Hr ω);apply zq (iV (s+e.up));rcases Ck (k+1<ms.length)with CK|CK
  ·have D8:=CK.1
   obtain⟨f,A9⟩:∃f,ms[k+1]?=some f:=⟨_,wC D8⟩;have E9:=zH A9;have E7:=zH (E8.1 f (wE A9));have G9:=zH E7.1.1;have I4:=zH E7.1.2.1;clear A9;have E6:=zH (Si qs 0 k e.vl f.vl H5.1 (by rw[C7.1,xJ,E9.1];rfl));have E5:=zH (show 0+Oq qs (k+1)=s+e.up by rw[C0.1];omega);rcases hcf:Gr (s+e.up) rule with _|_
   ·have CF:=zH hcf
    clear hcf;go_upto_region 8 with fail;apply wl;apply zq (iV (k:Int));apply zp (iV ((k+1:Nat):Int)) (by exact Hr ω);refine Bq Af _ (iV ((ms.length:Nat):Int)) ?_;apply zp τ (by exact Dp (e:=(Aq ω)));refine Cn Af τ (iV (s+e.up)) (iV rule) ?_;refine zc (Wh (s+e.up) rule _ ⟨ω,ω⟩ E4.1) ?_;rintro e I8 ⟨rfl,hx⟩;have I1:=zH (C2.1.step hx);have F5:=zH (Ah.of_ext hx);clear hx;refine⟨.bool false,by rw[CF.1],?_⟩;try simp only[ζ]
    apply zq φ;have D4:=tD (tD B2 B1) F5;have D3:=tD (tD (tD D5 B2) B1) F5;go_wp2_with fail
    go_roundg (ms.length-(k+1))
    case measure=>exact(by have D6:=HLT.1;omega)
    case rel=>exact⟨k+1,m,es,A1,c1,s+e.up,rfl,rfl,rfl,(by go_num),HLT.1,C0.1,⟨ω,ω⟩,⟨HM.1.1,by have:=HM.1.2;omega⟩,(by rw[A4.1,Oh E6.1,if_neg (by rw[E5.1,CF.1];decide),xD]),(fun g hg=>(C1.1 g hg).dig D4.1),I1.1.take 3,D3.1⟩
   have CF:=zH hcf;clear hcf;go_upto_region 8 with fail;apply wl;apply zq (iV (k:Int));apply zp (iV ((k+1:Nat):Int)) (by exact Hr ω);refine Bq Af _ (iV ((ms.length:Nat):Int)) ?_;apply zp τ (by exact Dp (e:=(Aq ω)));refine Cn Af τ (iV (s+e.up)) (iV rule) ?_;refine zc (Wh (s+e.up) rule _ ⟨ω,ω⟩ E4.1) ?_;rintro e A3 ⟨rfl,hx⟩;have B8:=zH (C2.1.step hx);have F4:=zH (Ah.of_ext hx);clear hx;refine⟨.bool true,by rw[CF.1],?_⟩;try simp only[ζ]
   apply zq τ;go_upto_region 9 with fail;refine wp_region_held_drew (S:=fun x=>Fr (fun kz=>Value.ownBlock (.slice A1 m c1)=some kz) A3 x) kR (Fr.of_ext zb) (fun _=> ?_);have I0:=zH (B8.1.step (Aa.refl A3).drew);have F3:=zH (Ah.of_ext (w:=A3) zb);refine zx 0 (bs 13 1) (.slice A1 m c1) (Fr.of_ext zb) ?_;refine mX 1 (bs 13 3) (.pointer (π C6)) (Fr.of_ext zb) ?_;refine zr 2 (bs 13 7) C6 (0) (rc e.a) (fun x hx=>Fr.range hx (show World.rangeAt A3 C6 (0) (rc e.a)from(B8.1.range (i:=3) rR 0 4)) (B8.1.offRow (i:=3) (j:=2) rR rR dC rR)) underlying31 (Fr.of_ext zb) ?_;refine zx 3 (bs 13 15) (.slice (π gm) ms.length cm) (Fr.of_ext zb) ?_;refine zx 4 (bs 13 31) (iV (k:Int)) (Fr.of_ext zb) ?_;refine zu 5 (bs 13 63) (v:= iV ((k+1:Nat):Int)) (Fr.of_ext zb) ?_ (hv:=by intro w G7;exact Hr ω);refine zu 6 (bs 13 127) (v:= .pointer (some ⟨gm,(k+1)*5,none⟩)) (Fr.of_ext zb) ?_ (hv:=by intro w G7;exact Eh (k:=k+1) underlying74 (l:=CK.1) (f:=(wH _).symm));refine mX 7 (bs 13 255) (.pointer (some ⟨gm,(k+1)*5,none⟩)) (Fr.of_ext zb) ?_;refine zr 8 (bs 13 511) gm ((k+1)*5) (rc f.a) (fun x hx=>Fr.range hx (show World.rangeAt A3 gm ((k+1)*5) (rc f.a)from(Dc (B8.1.elem (f:=Cg.cells) (i:=1) rR Cg.len E9.1) 0 4)) (B8.1.offRow (i:=1) (j:=2) rR rR dC rR)) underlying31 (Fr.of_ext zb) ?_;refine zx 9 (bs 13 1023) (.agg #[.bool e.a.n,.slice e.a.p e.a.l e.a.c,.bool e.a.m,.slice e.a.p2 e.a.l2 e.a.c2,.bool f.a.n,.slice f.a.p f.a.l f.a.c,.bool f.a.m,.slice f.a.p2 f.a.l2 f.a.c2]) (Fr.of_ext zb) ?_;refine mU 10 (bs 13 2047) (v:= .slice (π A3.drew.heap.size) 1 1) (w':=(A3.drew.alloc (.cells ([.bool e.a.n,.slice e.a.p e.a.l e.a.c,.bool e.a.m,.slice e.a.p2 e.a.l2 e.a.c2,.bool f.a.n,.slice f.a.p f.a.l f.a.c,.bool f.a.m,.slice f.a.p2 f.a.l2 f.a.c2]:List Value).toArray 73))) ((Fr.of_ext zb).trans (Fr.of_ext ((Aa.refl A3.drew).alloc _))) ?_;try simp only[ζ]
   refine lU (j:=11) (listed':=(bs 13 4095)) rR kR rR _ _ _ rR mQ rR I0.1 (ix:=2) rR 1 1 [.bool e.a.n,.slice e.a.p e.a.l e.a.c,.bool e.a.m,.slice e.a.p2 e.a.l2 e.a.c2,.bool f.a.n,.slice f.a.p f.a.l f.a.c,.bool f.a.m,.slice f.a.p2 f.a.l2 f.a.c2] rR rfl (by simp[Value.oneCell']) (by simp[Ar]) dC (by unfold maxLen;exact ω) ω kR ?_;intro E2 B6 C3 hf hh hd hg;have I3:=zH hf;clear hf;rw[show List.flatMap Bv.cells es++[.bool e.a.n,.slice e.a.p e.a.l e.a.c,.bool e.a.m,.slice e.a.p2 e.a.l2 e.a.c2,.bool f.a.n,.slice f.a.p f.a.l f.a.c,.bool f.a.m,.slice f.a.p2 f.a.l2 f.a.c2]=_ from Ds Bv.cells _ (⟨e.a,f.a,e.q,f.q⟩:Bv)]at hh;have H8:=hN hh;have F2:=zH (show Ah A3.drew C3 from hd);have E3:=zH (show Fr (fun kz=>Value.ownBlock (.slice A1 m c1)=some kz) A3 C3 from Fr.trans_new ((Fr.of_ext zb).trans (Fr.of_ext (Ak.alloc _))) hg (fun j hj=> .inl hj));clear hh hd hg;refine⟨E3.1,?_⟩;try simp only[ζ]
   refine zx 12 (bs 13 8191) (.slice (π E2) (m+1) B6) E3.1 ?_;refine wpAnyH_done kR ?_ _;have D2:=tD (tD (tD (tD B2 B1) F4) F3) F2;have B0:=tD (tD (tD (tD (tD D5 B2) B1) F4) F3) F2;have C9:=zH (show Bv.Ok (L+8) C3 (⟨e.a,f.a,e.q,f.q⟩:Bv)from⟨(H1.1.dig B0.1),(G9.1.dig B0.1),I5.1,I4.1⟩);go_wp2_with fail
   go_roundg (ms.length-(k+1))
   case measure=>exact(by have D6:=HLT.1;omega)
   case rel=>exact⟨k+1,m+1,es++[(⟨e.a,f.a,e.q,f.q⟩:Bv)],some ⟨E2,0,none⟩,B6,s+e.up,rfl,rfl,rfl,(by go_num),HLT.1,C0.1,⟨ω,ω⟩,⟨by rw[wD,<-HM.1.1];rfl,by have:=HM.1.2;omega⟩,(by rw[xI,A4.1,Oh E6.1,if_pos (by rw[E5.1];exact CF.1)];rfl),(fun g hg=>(List.mem_append.1 hg).elim (fun hg=>(C1.1 g hg).dig D2.1) (fun hg=>by rw[List.mem_singleton.1 hg];exact C9.1)),H8.1.take 3,B0.1⟩
  have D8:=CK.1;go_upto_region 8 with fail;apply wl;apply zq (iV (k:Int));apply zp (iV ((k+1:Nat):Int)) (by exact Hr ω);refine Bq Af _ (iV ((ms.length:Nat):Int)) ?_;apply zp φ (by exact Dp (e:=(Aj ω)));refine Ql Af φ _ _ _ φ ?_;have D1:=tD B2 B1;have D0:=tD (tD D5 B2) B1;go_wp2_with fail
  go_roundg (ms.length-(k+1))
  case measure=>exact(by have D6:=HLT.1;omega)
  case rel=>exact⟨k+1,m,es,A1,c1,s+e.up,rfl,rfl,rfl,(by go_num),HLT.1,C0.1,⟨ω,ω⟩,⟨HM.1.1,by have:=HM.1.2;omega⟩,(by rw[A4.1,wI (show(Nh 0 qs).length<=k by rw[Io];omega),wI (show(Nh 0 qs).length<=k+1 by rw[Io];omega)]),(fun g hg=>(C1.1 g hg).dig D1.1),C2.1.take 3,D0.1⟩
 obtain rfl:k=ms.length:=by have:=HK.1;have:=HLT.1;omega
 have J7:¬(ms.length:Int)<(ms.length:Int):=ω;have H4:=zH (B9.1.row (i:=2) (by rfl));have D7:m<=4096:=by have:=HM.1.2;omega
 have G1:=HM.1.1;subst G1;go_upto_region 11 with fail;apply wl;refine Cy Af _ ?_;refine zc (Vu (L+8) _ (List.map Bv.vl es) _ (Hf.reads ⟨H4.1,C1.1⟩) ω ω (by rw[wU];omega)) ?_;rintro e I7 ⟨vm,em,rfl,G4,G3,G2,hx⟩;have H7:=zH (B9.1.step hx);clear hx;refine zn ?_;refine zq (vm) ?_;go_wp2_with fail
 go_ret;exact⟨_,rfl,em,Hf.base G4 B9.1.ext.size,by rw[G3,A4.1,wI (by rw[Io];omega),C7.1,B7.1];rfl,Aw G2 (by rw[wU];exact D7),H7.1.ext⟩
theorem Wd {f t:Rat}{es:List Bv}{k:Nat}{e:Bv}(h:es[k]?=some e):Fh f t ((es.map Bv.vl).take (k+1))=Fh f t ((es.map Bv.vl).take k)+Jq f t (e.p,e.q):=by
  rw[List.take_add_one,xJ,h];simp only[Option.map_some,Option.toList_some];rw[lZ,Hq,Ls];show _+(Jq f t (e.p,e.q)+0)=_;grind
theorem Ml {f t p q a b:Rat}(ha:a=if p<f then f else p)(hb:b=if t<q then t else q):Jq f t (p,q)=if a<b then b-a else 0:=by subst ha hb;unfold Jq;grind
theorem Zg (L:Nat)(u:Value)(ps:List QQ)(rf rt:RV)(f t:Rat)(w:World)(hu:Hs L w u ps)(hf:rf.In L w f)(ht:rt.In L w t)(h1L:1<=L)(hL:L<=400)(hn:ps.length<=60):
  Calls prog 67 #[u,(rg rf),(rg rt)] w fun e w'=>∃r:RV,e= .returned (rg r)/\r.Is w' (Fh f t (Eg ps))/\Nm.rl (Fh f t (Eg ps))<=60000/\Aa w w':=by
 have HU:=zH hu;have RF:=zH hf;have RT:=zH ht;clear hu hf ht;go_enter func67,ntmps67
 have H0:=zH (Hp.start w);go_upto_region 0 with fail;apply wl;apply Cd 31 (rc rf) H0.1;intro X1 w2 H3 _;apply Cd 31 (rc rt) H3.1;intro X6 w7 H8 _;refine Cd 31 rz H8.1 ?_;intro E5 P1 N0 _;go_upto_region 1 with fail;apply wl;refine zc (Cw 0 _ ω ω) ?_;rintro e P0 ⟨c_,rfl,D0,hx⟩;have M9:=zH (N0.1.step hx);obtain⟨F3,rfl,B6⟩:=D0;have L9:=zH B6;have O1:=zH (Bm 0 ω ω);clear B6 hx;refine zn ?_;refine Cd 31 rz M9.1 ?_;intro A6 O9 M8 N8;apply Ca 3 (rc F3) M8.1;intro O8 K1 N7;go_upto_region 2 with fail
 apply wl;refine qV (u) ?_;refine zc (Sn L u ps _ (HU.1.ext K1.1.ext) h1L ω ω) ?_;rintro e I9 ⟨v_,es,rfl,A7,B5,C9,hx⟩;have G0:=zH B5;have M2:=zH C9;have M0:=zH A7.2;obtain⟨Am,cm,rfl,J4⟩:=Bi.form A7.1;have HA:=zH J4;clear B5 C9 J4;have K0:=zH (show Hp w I9 [.blk X1 31 (rc rf),.blk X6 31 (rc rt),.blk E5 31 rz,.blk A6 31 (rc F3),ro 73 8 Am es.length cm Bv.cells es]from K1.1.addRow hx A7.1);have N6:=zH (Ah.of_ext hx);clear A7 hx;refine zn ?_;refine Cy Af _ ?_;have L3:es.length<=60:=by have:=M2.1;omega
 have H6:=tD (tD N8 N7) N6;go_wp2_with fail;go_loopg [9] (es.length) (fun cq L0 wr=>∃(k:Nat) (rs:RV),cq=es.length-k/\L0= iV (k:Int)/\(k<=es.length)/\(rs.Is wr (Fh f t ((es.map Bv.vl).take k)))/\(Nm.rl (Fh f t ((es.map Bv.vl).take k))<=2+k*(2*L+2))/\Hp w wr [.blk X1 31 (rc rf),.blk X6 31 (rc rt),.blk E5 31 [.bool false,.slice none 0 0,.bool false,.slice none 0 0],.blk A6 31 (rc rs),.row 73 8 (.slice Am es.length cm) (es.length) (List.flatMap Bv.cells es)]/\Ah I9 wr)
 case atStart=>exact⟨0,F3,rfl,rfl,wM _,(by have h:=(L9.1.dig H6.1);simpa[Fh]using h),(by have h:=O1.1;simpa[Fh]using h),K0.1,Ah.refl _⟩
 obtain⟨k,rs,rfl,rfl,C7,C6,C8,B7,B8⟩:=hrel;generalize wr=E4 at*;have HK:=zH C7;clear C7;have RS:=zH C6;clear C6;have BS:=zH C8;clear C8;have D4:=zH B7;have N5:=zH B8;clear B7 B8 K0;rcases Ck (k<es.length)with HLT|HLT
 ·have J1:=HLT.1
  have L2:(k:Int)<(es.length:Int):=ω;obtain⟨gm,rfl⟩:=HA.1 ω;have P4:k*(2*L+2)<=60*802:=Nat.mul_le_mul ω ω;have L4:(k+1)*(2*L+2)=k*(2*L+2)+(2*L+2):=by rw[xL,Nat.one_mul]
  generalize hkq:(k+1)*(2*L+2)=KQ at*;generalize hkq2:k*(2*L+2)=KP at*;obtain⟨e,F4⟩:∃e,es[k]?=some e:=⟨_,wC J1⟩;have G1:=zH F4;have E7:=zH (M0.1 e (wE F4));have J6:=zH E7.1.1;have J5:=zH E7.1.2.1;have I6:=zH E7.1.2.2.1;have I5:=zH E7.1.2.2.2;clear F4;have E6:=zH (Wd (f:=f) (t:=t) G1.1);have J9:=zH hkq;have M1:=zH hkq2;clear hkq hkq2 J1;go_upto_region 6 with fail
  refine zy ?_;have M7:=zH (D4.1.step (Aa.refl E4).drew);have I2:=zH (Ah.of_ext (w:=E4) zb);refine Jv Af zb (bs 14 3) 0 1 _ (iV (k:Int)) ?_;refine zu 2 (bs 14 7) (v:= .pointer (some ⟨gm,k*8,none⟩)) zb ?_ (hv:=by intro w L5;exact Eh (k:=k) underlying50 (l:=HLT.1) (f:=(wH _).symm));refine Rt Af zb (bs 14 15) 3 _ ?_;refine zg 4 (bs 14 31) gm (k*8) (rc e.a) (Dc (D4.1.elem (f:=Bv.cells) (i:=4) rR Bv.len G1.1) 0 4) underlying31 zb ?_;refine Jv Af zb (bs 14 127) 5 6 _ (iV (k:Int)) ?_;refine zu 7 (bs 14 255) (v:= .pointer (some ⟨gm,k*8,none⟩)) zb ?_ (hv:=by intro w L5;exact Eh (k:=k) underlying50 (l:=HLT.1) (f:=(wH _).symm));refine mX 8 (bs 14 511) (.pointer (some ⟨gm,k*8+4,none⟩)) zb ?_;refine zg 9 (bs 14 1023) gm (k*8+4) (rc e.b) (Dc (D4.1.elem (f:=Bv.cells) (i:=4) rR Bv.len G1.1) 4 4) underlying31 zb ?_;refine Mk (i:=10) (j:=11) (T:=31) (U:=31) (zs:=[.bool false,.slice none 0 0,.bool false,.slice none 0 0]) (us:=[.bool false,.slice none 0 0,.bool false,.slice none 0 0]) (li:=(bs 14 2047)) (lj:=(bs 14 3071)) (lij:=(bs 14 4095)) rR rR kR kR kR kR kR kR kR rR rR dC (by intro r_ x_;go_simp) (by intro r_ x_;go_simp) (fun x y h1 h2=>h1.trans h2) zb M7.1 (by simp[Ar]) (by simp[Ar]) ?_;intro C3 B9 I8 hh hx J3 J2 hs;have M6:=hN hh;have I1:=zH (show Ah E4.drew I8 from Ah.of_ext hx);have L7:=zH (show Aa E4 I8 from hs);have N2:=zH (Aw zb.size J3);have N1:=zH (Aw zb.size J2);clear hh hx J3 J2 hs;try simp only[ζ]
  refine bS 5 12 (bs 14 8191) (rc e.a) M6.1 L7.1 N2.1 ?_;intro O7 M5 I0 L6;refine bS 6 13 (bs 14 16383) (rc e.b) M5.1 L6.1 N1.1 ?_;intro O6 G6 H9 P5;refine wpAnyH_done kR ?_ _;go_upto_region 7 with fail;apply wl;refine Bq G6.1 _ _ ?_;have C1:=tD (tD (tD (tD N5 I2) I1) I0) H9;refine aC G6.1 (Dn 60000 _ _ e.p f _ (RV.Is.nin (J6.1.dig C1.1) (Aw I6.1 ω)) (RV.In.nin (RV.In.mono (RF.1.dig G6.1.dig0) ω)) ω) ?_;intro K5 G5 F1;go_upto_if 33 with fail
  go_cut [] (fun wx=>∃(A0:RV) (A4:Rat),(A4=if e.p<f then f else e.p)/\(A0.In L wx A4)/\(Nm.rl A4<=L)/\Hp w wx [.blk X1 31 (rc rf),.blk X6 31 (rc rt),.blk E5 31 [.bool false,.slice none 0 0,.bool false,.slice none 0 0],.blk A6 31 (rc rs),.row 73 8 (.slice (π gm) es.length cm) (es.length) (List.flatMap Bv.cells es),.blk C3 31 (rc A0),.blk B9 31 (rc e.b)]/\Ah K5 wx)
  case first=>
   by_cases cj:e.p<f
   ·rw[Aq cj]
    go_upto_region 8 with fail;apply wl;refine Cy G5.1 _ ?_;apply Ca 5 (rc rf) G5.1;intro O5 G4 N4;go_wp2_with fail;go_meet
    exact⟨rf,f,(if_pos cj).symm,(RF.1.dig G4.1.dig0),(show Nm.rl f<=L from by have h:=(RF.1.dig G4.1.dig0).rl;omega),G4.1,N4.1⟩
   rw[Aj cj];have H5:=tD C1 F1;go_wp2_with fail
   go_meet
   exact⟨e.a,e.p,(if_neg cj).symm,(RV.Is.isIn (J6.1.dig H5.1) I6.1),I6.1,G5.1,(Ah.refl _)⟩
  obtain⟨A0,A4,B1,A9,B3,B7,B8⟩:=hcut;generalize wc=O4 at*;have J7:=zH B1;clear B1;have F7:=zH A9;clear A9;have N9:=zH B3;clear B3;have E8:=zH B7;have H7:=zH B8;clear B7 B8;go_upto_region 9 with fail
  apply wl;refine zd X6 (0) (rc rt) (E8.1.range (i:=1) rR 0 4) underlying31 ?_;refine zd B9 (0) (rc e.b) (E8.1.range (i:=6) rR 0 4) underlying31 ?_;have A8:=tD (tD C1 F1) H7;refine aC E8.1 (Dn 60000 _ _ t e.q _ (RV.In.nin (RV.In.mono (RT.1.dig E8.1.dig0) ω)) (RV.Is.nin (J5.1.dig A8.1) (Aw I5.1 ω)) ω) ?_;intro K4 G3 C2;go_upto_if 37 with fail
  go_cut [] (fun wx=>∃(A1:RV) (A5:Rat),(A5=if t<e.q then t else e.q)/\(A1.In L wx A5)/\(Nm.rl A5<=L)/\Hp w wx [.blk X1 31 (rc rf),.blk X6 31 (rc rt),.blk E5 31 [.bool false,.slice none 0 0,.bool false,.slice none 0 0],.blk A6 31 (rc rs),.row 73 8 (.slice (π gm) es.length cm) (es.length) (List.flatMap Bv.cells es),.blk C3 31 (rc A0),.blk B9 31 (rc A1)]/\Ah K4 wx)
  case first=>
   by_cases cj:t<e.q
   ·rw[Aq cj]
    go_upto_region 10 with fail;apply wl;refine zd X6 (0) (rc rt) (G3.1.range (i:=1) rR 0 4) underlying31 ?_;apply Ca 6 (rc rt) G3.1;intro O3 G2 N3;go_wp2_with fail;go_meet
    exact⟨rt,t,(if_pos cj).symm,(RT.1.dig G2.1.dig0),(show Nm.rl t<=L from by have h:=(RT.1.dig G2.1.dig0).rl;omega),G2.1,N3.1⟩
   rw[Aj cj];have H4:=tD A8 C2;go_wp2_with fail
   go_meet
   exact⟨e.b,e.q,(if_neg cj).symm,(RV.Is.isIn (J5.1.dig H4.1) I5.1),I5.1,G3.1,(Ah.refl _)⟩
  obtain⟨A1,A5,B2,B0,B4,B7,B8⟩:=hcut;generalize wc=O2 at*;have J8:=zH B2;clear B2;have F8:=zH B0;clear B0;have O0:=zH B4;clear B4;have C4:=zH B7;have C5:=zH B8;clear B7 B8;rcases Ck (A4<A5)with CL|CL
  ·go_upto_region 11 with fail
   apply wl;refine zd C3 (0) (rc A0) (C4.1.range (i:=5) rR 0 4) underlying31 ?_;refine zd B9 (0) (rc A1) (C4.1.range (i:=6) rR 0 4) underlying31 ?_;have D6:=tD C2 C5;refine zc (Dn 60000 _ _ A4 A5 _ (RV.In.nin (RV.In.mono (F7.1.dig D6.1) ω)) (RV.In.nin (RV.In.mono F8.1 ω)) ω) ?_;rintro e A3 ⟨rfl,hx⟩;have C0:=zH (C4.1.step hx);have F0:=zH (Ah.of_ext hx);clear hx;refine⟨.bool true,by rw[Aq CL.1],?_⟩;try simp only[ζ]
   go_upto_region 12 with fail;refine wp_region_held_drew (S:=fun x=>Fr (fun kz=>kz=A6) A3 x) kR (Fr.of_ext zb) (fun _=> ?_);have M4:=zH (C0.1.step (Aa.refl A3).drew);have E9:=zH (Ah.of_ext (w:=A3) zb);refine mR 1 (bs 6 2) B9 (0) (rc A1) (fun x hx=>Fr.range hx (show World.rangeAt A3 B9 (0) (rc A1)from(C0.1.range (i:=6) rR 0 4)) (C0.1.offBlk (i:=6) (j:=3) rR rR dC rR)) underlying31 (Fr.of_ext zb) ?_;refine zr 2 (bs 6 6) C3 (0) (rc A0) (fun x hx=>Fr.range hx (show World.rangeAt A3 C3 (0) (rc A0)from(C0.1.range (i:=5) rR 0 4)) (C0.1.offBlk (i:=5) (j:=3) rR rR dC rR)) underlying31 (Fr.of_ext zb) ?_;refine Fd.go (j:=0) (dj:=some 42) (u:= (rg rs)) ?_;have H2:=tD F0 E9;have H1:=tD (tD D6 F0) E9;refine Kv (b:=A3) (i:=3) (lj:=(bs 6 7)) (li:=(bs 6 14)) rR rR kR kR kR kR kR dC kR rR rR (fun x_ h_=>Fr.of_ext h_) (Aa.refl A3).drew (fun x_ h_=>Lc _ _ rR A6 (0) (rc rs) rR (Be (show World.rangeAt A3 A6 (0) (rc rs)from C0.1.range (i:=3) rR 0 4) h_) underlying31 rR kR) rR (by go_simp) kR (cM (L:=60000) (RV.In.nin (RV.In.mono (F8.1.dig H2.1) ω)) (RV.In.nin (RV.In.mono (F7.1.dig H1.1) ω)) ω) ?_;rintro e F2 ⟨c_,rfl,D0,hx⟩;have M3:=zH (M4.1.step hx);have K2:=zH (show Ah A3.drew F2 from Ah.of_ext hx);have F5:=zH (show Aa A3 F2 from(Aa.refl A3).drew.trans hx);have D2:=zH (show Fr (fun kz=>kz=A6) A3 F2 from(Fr.of_ext zb).trans (Fr.of_ext hx));obtain⟨P2,rfl,B6⟩:=D0;have L8:=zH B6;clear B6;have K3:=zH (show Nm.rl (A5-A4)<=L+L+1 from by have h1:=O0.1;have h2:=N9.1;have h3:=Nm.rl_sub A5 A4;omega);have J0:=hx;clear hx;refine⟨_,rfl,J0,?_⟩;try simp only[ζ]
   clear J0;refine To rR kR rR rR D2.1 (Lc _ _ rR A6 (0) (rc rs) rR (Be (show World.rangeAt A3 A6 (0) (rc rs)from C0.1.range (i:=3) rR 0 4) F5.1) underlying31 rR kR) (show _=(bs 6 15)by kernel_rfl) ?_;try simp only[ζ]
   have E1:=tD (tD (tD (tD (tD (tD (tD (tD (tD (tD I2 I1) I0) H9) F1) H7) C2) C5) F0) E9) K2;refine mC 4 (bs 6 31) (Nl (L:=60000) (RV.Is.nin (RS.1.dig E1.1) (Aw BS.1 ω)) (RV.Is.nin L8.1 (Aw K3.1 ω)) ω) ?_;rintro e K9 ⟨c_,rfl,D0,hx⟩;have G9:=zH (M3.1.step hx);have I4:=zH (Ah.of_ext hx);have D1:=zH (D2.1.trans (Fr.of_ext hx));obtain⟨A2,rfl,B6⟩:=D0;have F9:=zH B6;clear B6;have I7:=zH (show Nm.rl ((Fh f t ((es.map Bv.vl).take k))+(A5-A4))<=(2+KP)+(L+L+1)+1 from by have h1:=BS.1;have h2:=K3.1;have h3:=Nm.rl_add (Fh f t ((es.map Bv.vl).take k)) (A5-A4);omega);clear hx;apply zm D1.1;refine Dm (i:=5) (listed':=(bs 6 63)) rR kR rR kR _ _ _ rR G9.1 (ix:=3) rR 0 (rc A2) rR rR (by simp) kR (by simp[Value.oneCell']) (by simp[Ar]) ?_;intro K8 hh hd ho;have G8:=hN hh;have E3:=zH (hd);have F6:=zH (Fr.trans_new D1.1 ho (fun j hj=> .inl (by simpa using hj.symm)));clear hh hd ho;refine⟨F6.1,?_⟩
   (try simp only[Act.put])
   refine wpAnyH_done kR ?_ _;have D3:=zH ((Ml (p:=e.p) (q:=e.q) (a:=A4) (b:=A5) J7.1 J8.1).trans (if_pos CL.1));have E0:=tD (tD (tD (tD (tD (tD (tD A8 C2) C5) F0) E9) K2) I4) E3;go_wp2_with fail
   go_roundg (es.length-(k+1))
   case measure=>exact(by have L1:=HLT.1;omega)
   case rel=>exact⟨k+1,A2,rfl,(by go_num),HLT.1,(by rw[E6.1,D3.1];exact(F9.1.dig E3.1)),(by rw[E6.1,D3.1,J9.1];exact Aw I7.1 ω),G8.1.take 5,E0.1⟩
  go_upto_region 11 with fail;apply wl;refine zd C3 (0) (rc A0) (C4.1.range (i:=5) rR 0 4) underlying31 ?_;refine zd B9 (0) (rc A1) (C4.1.range (i:=6) rR 0 4) underlying31 ?_;have D9:=tD C2 C5;refine zc (Dn 60000 _ _ A4 A5 _ (RV.In.nin (RV.In.mono (F7.1.dig D9.1) ω)) (RV.In.nin (RV.In.mono F8.1 ω)) ω) ?_;rintro e K7 ⟨rfl,hx⟩;have G7:=zH (C4.1.step hx);have E2:=zH (Ah.of_ext hx);clear hx;refine⟨.bool false,by rw[Aj CL.1],?_⟩;try simp only[ζ]
  have D3:=zH ((Ml (p:=e.p) (q:=e.q) (a:=A4) (b:=A5) J7.1 J8.1).trans (if_neg CL.1));have D8:=tD (tD (tD (tD (tD (tD (tD (tD I2 I1) I0) H9) F1) H7) C2) C5) E2;have D7:=tD (tD (tD A8 C2) C5) E2;go_wp2_with fail
  go_roundg (es.length-(k+1))
  case measure=>exact(by have L1:=HLT.1;omega)
  case rel=>exact⟨k+1,rs,rfl,(by go_num),HLT.1,(by rw[E6.1,D3.1,Rat.add_zero];exact(RS.1.dig D8.1)),(by rw[E6.1,D3.1,J9.1,Rat.add_zero];exact Aw BS.1 (by have:=M1.1;omega)),G7.1.take 5,D7.1⟩
 obtain rfl:k=es.length:=by have:=HK.1;have:=HLT.1;omega
 have P3:¬(es.length:Int)<(es.length:Int):=ω;have HR:=zH (show Fh f t ((es.map Bv.vl).take es.length)=Fh f t (Eg ps)by rw[wI (by simp),G0.1]);go_upto_region 13 with fail;apply wl;refine zd A6 (0) (rc rs) (D4.1.range (i:=3) rR 0 4) underlying31 ?_;apply Ca 2 (rc rs) D4.1;intro K6 D5 I3;go_wp2_with fail;refine bodyPost_ret (v:= (rg rs)) ?_ rfl ⟨rs,rfl,by rw[<-HR.1];exact(RS.1.dig I3.1),by rw[<-HR.1];exact Aw BS.1 (by have:=Nat.mul_le_mul (show es.length<=60 by omega) (show 2*L+2<=802 by omega);omega),D5.1.ext⟩;exact By rfl rfl ((D5.1.blk (i:=2) rR).loadVar rfl rfl rR)
theorem aM (L:Nat)(u:Value)(ps:List QQ)(rf rt:RV)(f t:Rat)(w:World)(hu:Hs L w u ps)(hf:rf.In L w f)(ht:rt.In L w t)(h1L:1<=L)(hL:L<=20000)(hn:ps.length<=1200)(hLn:ps.length*(2*L+2)<=50400):
  Calls prog 22 #[u,(rg rf),(rg rt)] w fun e w'=>∃r:RV,e= .returned (rg r)/\r.Is w' (Fh f t (Eg ps))/\Nm.rl (Fh f t (Eg ps))<=60000/\Aa w w':=by
 have HU:=zH hu;have RF:=zH hf;have RT:=zH ht;clear hu hf ht;go_enter func22,ntmps22
 have H0:=zH (Hp.start w);go_upto_region 0 with fail;apply wl;apply Cd 31 (rc rf) H0.1;intro E6 N8 K1 _;apply Cd 31 (rc rt) K1.1;intro E5 N7 K0 _;refine Cd 31 rz K0.1 ?_;intro E4 N6 J9 _;go_upto_region 1 with fail;apply wl;refine zc (Ff 0 _ ω ω) ?_;rintro e N5 ⟨c_,rfl,B6,hx⟩;have J8:=zH (J9.1.step hx);obtain⟨D0,rfl,B0⟩:=B6;have I7:=zH B0;have L1:=zH (Bm 0 ω ω);clear B0 hx;refine zn ?_;refine Cd 31 rz J8.1 ?_;intro A4 N4 J7 K9;apply Ca 3 (rc D0) J7.1;intro N3 F7 K8;go_upto_region 2 with fail
 apply wl;refine Cy Af _ ?_;go_upto_region 3 with fail;apply wl;refine qV (u) ?_;refine zc (Vu L u ps _ (HU.1.ext F7.1.ext) h1L ω ω) ?_;rintro e D8 ⟨v_,es,rfl,B8,C5,E2,hx⟩;have I8:=zH C5;have O9:=zH E2;have O7:=zH B8.2;obtain⟨Am,cm,rfl,L8⟩:=Bi.form B8.1;have HA:=zH L8;clear C5 E2 L8;have F6:=zH (show Hp w D8 [.blk E6 31 (rc rf),.blk E5 31 (rc rt),.blk E4 31 rz,.blk A4 31 (rc D0),ro 73 8 Am es.length cm Bv.cells es]from F7.1.addRow hx B8.1);have K7:=zH (Ah.of_ext hx);clear B8 hx;refine zn ?_;refine Bq Af (iV ((es.length:Nat):Int)) _ ?_;have O2:es.length<=ps.length:=by have:=O9.1;omega
 have G6:=tD (tD K9 K8) K7;go_wp2_with fail;go_loopg [17] (es.length) (fun cq H8 wr=>∃(k:Nat) (rs:RV),cq=es.length-k/\H8= iV (k:Int)/\(k<=es.length)/\(rs.Is wr (Fh f t ((es.map Bv.vl).take k)))/\(Nm.rl (Fh f t ((es.map Bv.vl).take k))<=2+k*(2*L+2))/\Hp w wr [.blk E6 31 (rc rf),.blk E5 31 (rc rt),.blk E4 31 [.bool false,.slice none 0 0,.bool false,.slice none 0 0],.blk A4 31 (rc rs),.row 73 8 (.slice Am es.length cm) (es.length) (List.flatMap Bv.cells es)]/\Ah D8 wr)
 case atStart=>exact⟨0,D0,rfl,rfl,wM _,(by have h:=(I7.1.dig G6.1);simpa[Fh]using h),(by have h:=L1.1;simpa[Fh]using h),F6.1,Ah.refl _⟩
 obtain⟨k,rs,rfl,rfl,E0,D9,E1,L4,L7⟩:=hrel;generalize wr=N2 at*;have HK:=zH E0;clear E0;have RS:=zH D9;clear D9;have BS:=zH E1;clear E1;have C2:=zH L4;have K6:=zH L7;clear L4 L7 F6;rcases Ck (k<es.length)with HLT|HLT
 ·have L3:=HLT.1
  have O1:(k:Int)<(es.length:Int):=ω;obtain⟨gm,rfl⟩:=HA.1 ω;have P1:k*(2*L+2)<=50400:=Aw (xC _ (show k<=ps.length by omega)) hLn;have O3:(k+1)*(2*L+2)=k*(2*L+2)+(2*L+2):=by rw[xL,Nat.one_mul]
  generalize hkq:(k+1)*(2*L+2)=KQ at*;generalize hkq2:k*(2*L+2)=KP at*;obtain⟨e,H9⟩:∃e,es[k]?=some e:=⟨_,wC L3⟩;have M0:=zH H9;have H5:=zH (O7.1 e (wE H9));have O6:=zH H5.1.1;have O5:=zH H5.1.2.1;have M2:=zH H5.1.2.2.1;have M1:=zH H5.1.2.2.2;clear H9;have H4:=zH (Wd (f:=f) (t:=t) M0.1);have L9:=zH hkq;have O8:=zH hkq2;clear hkq hkq2 L3;go_upto_region 5 with fail
  apply wl;apply zp (.pointer (some ⟨gm,k*8,none⟩)) (by exact Eh (k:=k) underlying50 (l:=HLT.1) (f:=(wH _).symm));refine zd gm (k*8) [.bool e.a.n,.slice e.a.p e.a.l e.a.c,.bool e.a.m,.slice e.a.p2 e.a.l2 e.a.c2,.bool e.b.n,.slice e.b.p e.b.l e.b.c,.bool e.b.m,.slice e.b.p2 e.b.l2 e.b.c2] (C2.1.elem (f:=Bv.cells) (i:=4) rR Bv.len M0.1) underlying73 ?_;apply Cd 73 [.bool false,.slice none 0 0,.bool false,.slice none 0 0,.bool false,.slice none 0 0,.bool false,.slice none 0 0] C2.1;intro E3 N1 J6 D7;apply Ca 5 [.bool e.a.n,.slice e.a.p e.a.l e.a.c,.bool e.a.m,.slice e.a.p2 e.a.l2 e.a.c2,.bool e.b.n,.slice e.b.p e.b.l e.b.c,.bool e.b.m,.slice e.b.p2 e.b.l2 e.b.c2] J6.1;intro A8 B1 D6;go_upto_region 6 with fail;refine zy ?_;have F5:=zH (B1.1.step (Aa.refl A8).drew);have D5:=zH (Ah.of_ext (w:=A8) zb);refine Jv Af zb (bs 14 3) 0 1 _ _ ?_;refine zg 2 (bs 14 7) E3 (0) (rc e.a) (B1.1.range (i:=5) rR 0 4) underlying31 zb ?_;refine Rg B1.1 zb (bs 14 111) 3 5 6 _ _ _ ?_;refine zg 7 (bs 14 239) E3 (4) (rc e.b) (B1.1.range (i:=5) rR 4 4) underlying31 zb ?_;refine Rt B1.1 zb (bs 14 495) 8 _ ?_;refine FN.go2 (j1:=⟨10,some 11,31,[.bool false,.slice none 0 0,.bool false,.slice none 0 0]⟩) (j2:=⟨11,some 12,31,[.bool false,.slice none 0 0,.bool false,.slice none 0 0]⟩) (b:=A8) ?_ zb;have C8:=tD (tD (tD K6 D7) D6) D5;refine gN 4 (bs 14 511) (fk (fk trivial)) zb.size (fun xq B5=>iO 60000 _ _ e.p f _ (RV.Is.nin (O6.1.dig (C8.1.trans (Ah.of_ext B5))) (Aw M2.1 ω)) (RV.In.nin (RV.In.mono (RF.1.dig (F5.1.dig0.trans (Ah.of_ext B5))) ω)) ω) (by rintro x_ e M3 ⟨c_,rfl,B6,hx⟩;exact hx) ?_;rintro xq e H7 B5 ⟨c_,rfl,B6,hx⟩;replace hx:=B5.trans hx;clear B5;have D3:=zH (F5.1.step hx);have D4:=zH (show Ah A8.drew H7 from Ah.of_ext hx);have E9:=zH (zb.trans hx);obtain⟨A1,rfl,B0⟩:=B6;have C0:=zH B0;have H3:=zH (show Nm.rl (if e.p<f then f else e.p)<=L from by have h1:=M2.1;have h2:=(show Nm.rl f<=L from by have h:=(RF.1.dig D3.1.dig0).rl;omega);split<;>omega);clear B0;generalize hq_:(if e.p<f then f else e.p)=B4 at C0 H3⊢
  have F1:=zH hq_;clear hq_ hx;refine⟨_,rfl,?_⟩;try simp only[ζ]
  have B7:=tD C8 D4;refine gN 9 (bs 14 1023) (fk (fk trivial)) E9.1.size (fun xq B5=>cV 60000 _ _ e.q t _ (RV.Is.nin (O5.1.dig (B7.1.trans (Ah.of_ext B5))) (Aw M1.1 ω)) (RV.In.nin (RV.In.mono (RT.1.dig (D3.1.dig0.trans (Ah.of_ext B5))) ω)) ω) (by rintro x_ e M3 ⟨c_,rfl,B6,hx⟩;exact hx) ?_;rintro xq e N0 B5 ⟨c_,rfl,B6,hx⟩;replace hx:=B5.trans hx;clear B5;have F4:=zH (D3.1.step hx);have B2:=zH (Ah.of_ext hx);have I4:=zH (E9.1.trans hx);obtain⟨A0,rfl,B0⟩:=B6;have B9:=zH B0;have H2:=zH (show Nm.rl (if t<e.q then t else e.q)<=L from by have h1:=M1.1;have h2:=(show Nm.rl t<=L from by have h:=(RT.1.dig F4.1.dig0).rl;omega);split<;>omega);clear B0;generalize hq_:(if t<e.q then t else e.q)=B3 at B9 H2⊢
  have F0:=zH hq_;clear hq_ hx;refine⟨_,rfl,?_⟩;try simp only[ζ]
  refine pU (bs 14 4095) (fk (fk trivial)) I4.1.size B1.1 F4.1 ?_;intro D2 D1 H6 hx hh L6 L5 hs;have J5:=hN hh;have A7:=zH (Ah.of_ext hx);have I3:=zH (show Aa A8 H6 from hs);have K3:=zH (show A8.heap.size<=D2 from L6);have K2:=zH (show A8.heap.size<=D1 from L5);clear hh hx hs L6 L5;try simp only[ζ]
  refine bS 6 12 (bs 14 8191) (rc A1) J5.1 I3.1 K3.1 ?_;intro M9 J4 A6 I2;refine bS 7 13 (bs 14 16383) (rc A0) J4.1 I2.1 K2.1 ?_;intro M8 C1 A5 O4;refine wpAnyH_done kR ?_ _;rcases Ck (B4<B3)with CL|CL
  ·go_upto_region 7 with fail
   apply wl;refine Bq C1.1 _ _ ?_;have C7:=tD (tD (tD B2 A7) A6) A5;have C6:=tD (tD A7 A6) A5;refine aC C1.1 (Ig (L:=60000) (RV.In.nin (RV.In.mono (C0.1.dig C7.1) ω)) (RV.In.nin (RV.In.mono (B9.1.dig C6.1) ω)) ω) ?_;intro A2 A9 C4;apply zp τ (by exact Dp (e:=(Aq (rcmp_lt.2 CL.1))));go_upto_region 8 with fail
   refine wp_region_held_drew (S:=fun x=>Fr (fun kz=>kz=A4) A2 x) kR (Fr.of_ext zb) (fun _=> ?_);have J3:=zH (A9.1.step (Aa.refl A2).drew);have C3:=zH (Ah.of_ext (w:=A2) zb);refine mR 1 (bs 6 2) D1 (0) (rc A0) (fun x hx=>Fr.range hx (show World.rangeAt A2 D1 (0) (rc A0)from(A9.1.range (i:=7) rR 0 4)) (A9.1.offBlk (i:=7) (j:=3) rR rR dC rR)) underlying31 (Fr.of_ext zb) ?_;refine zr 2 (bs 6 6) D2 (0) (rc A1) (fun x hx=>Fr.range hx (show World.rangeAt A2 D2 (0) (rc A1)from(A9.1.range (i:=6) rR 0 4)) (A9.1.offBlk (i:=6) (j:=3) rR rR dC rR)) underlying31 (Fr.of_ext zb) ?_;refine Fd.go (j:=0) (dj:=some 35) (u:= (rg rs)) ?_;have G5:=tD (tD C6 C4) C3;have G4:=tD (tD C7 C4) C3;refine Kv (b:=A2) (i:=3) (lj:=(bs 6 7)) (li:=(bs 6 14)) rR rR kR kR kR kR kR dC kR rR rR (fun x_ h_=>Fr.of_ext h_) (Aa.refl A2).drew (fun x_ h_=>Lc _ _ rR A4 (0) (rc rs) rR (Be (show World.rangeAt A2 A4 (0) (rc rs)from A9.1.range (i:=3) rR 0 4) h_) underlying31 rR kR) rR (by go_simp) kR (sH (L:=60000) (RV.In.nin (RV.In.mono (B9.1.dig G5.1) ω)) (RV.In.nin (RV.In.mono (C0.1.dig G4.1) ω)) ω) ?_;rintro e C9 ⟨c_,rfl,B6,hx⟩;have J2:=zH (J3.1.step hx);have G9:=zH (show Ah A2.drew C9 from Ah.of_ext hx);have I0:=zH (show Aa A2 C9 from(Aa.refl A2).drew.trans hx);have E8:=zH (show Fr (fun kz=>kz=A4) A2 C9 from(Fr.of_ext zb).trans (Fr.of_ext hx));obtain⟨N9,rfl,B0⟩:=B6;have I6:=zH B0;clear B0;have H1:=zH (show Nm.rl (B3-B4)<=L+L+1 from by have h1:=H2.1;have h2:=H3.1;have h3:=Nm.rl_sub B3 B4;omega);have L2:=hx;clear hx;refine⟨_,rfl,L2,?_⟩;try simp only[ζ]
   clear L2;refine To rR kR rR rR E8.1 (Lc _ _ rR A4 (0) (rc rs) rR (Be (show World.rangeAt A2 A4 (0) (rc rs)from A9.1.range (i:=3) rR 0 4) I0.1) underlying31 rR kR) (show _=(bs 6 15)by kernel_rfl) ?_;try simp only[ζ]
   have G3:=tD (tD (tD (tD (tD (tD (tD (tD (tD (tD D7 D6) D5) D4) B2) A7) A6) A5) C4) C3) G9;refine mC 4 (bs 6 31) (sJ (L:=60000) (RV.Is.nin (RS.1.dig G3.1) (Aw BS.1 ω)) (RV.Is.nin I6.1 (Aw H1.1 ω)) ω) ?_;rintro e M7 ⟨c_,rfl,B6,hx⟩;have J1:=zH (J2.1.step hx);have K5:=zH (Ah.of_ext hx);have E7:=zH (E8.1.trans (Fr.of_ext hx));obtain⟨A3,rfl,B0⟩:=B6;have I5:=zH B0;clear B0;have L0:=zH (show Nm.rl ((Fh f t ((es.map Bv.vl).take k))+(B3-B4))<=(2+KP)+(L+L+1)+1 from by have h1:=BS.1;have h2:=H1.1;have h3:=Nm.rl_add (Fh f t ((es.map Bv.vl).take k)) (B3-B4);omega);clear hx;apply zm E7.1;refine Dm (i:=5) (listed':=(bs 6 63)) rR kR rR kR _ _ _ rR J1.1 (ix:=3) rR 0 (rc A3) rR rR (by simp) kR (by simp[Value.oneCell']) (by simp[Ar]) ?_;intro M6 hh hd ho;have J0:=hN hh;have G8:=zH (hd);have I1:=zH (Fr.trans_new E7.1 ho (fun j hj=> .inl (by simpa using hj.symm)));clear hh hd ho;refine⟨I1.1,?_⟩
   (try simp only[Act.put])
   refine wpAnyH_done kR ?_ _;have F2:=zH ((Ml (p:=e.p) (q:=e.q) (f:=f) (t:=t) F1.1.symm F0.1.symm).trans (if_pos CL.1));have G2:=tD (tD (tD (tD (tD (tD (tD (tD (tD B7 B2) A7) A6) A5) C4) C3) G9) K5) G8;go_wp2_with fail
   go_roundg (es.length-(k+1))
   case measure=>exact(by have O0:=HLT.1;omega)
   case rel=>exact⟨k+1,A3,rfl,(by go_num),HLT.1,(by rw[H4.1,F2.1];exact(I5.1.dig G8.1)),(by rw[H4.1,F2.1,L9.1];exact Aw L0.1 ω),J0.1.take 5,G2.1⟩
  go_upto_region 7 with fail;apply wl;refine Bq C1.1 _ _ ?_;have G1:=tD (tD (tD B2 A7) A6) A5;have G0:=tD (tD A7 A6) A5;refine aC C1.1 (Ig (L:=60000) (RV.In.nin (RV.In.mono (C0.1.dig G1.1) ω)) (RV.In.nin (RV.In.mono (B9.1.dig G0.1) ω)) ω) ?_;intro M5 I9 G7;apply zp φ (by exact Dp (e:=(Aj (fun hh=>CL.1 (rcmp_lt.1 hh)))));have F2:=zH ((Ml (p:=e.p) (q:=e.q) (f:=f) (t:=t) F1.1.symm F0.1.symm).trans (if_neg CL.1));have F9:=tD (tD (tD (tD (tD (tD (tD (tD D7 D6) D5) D4) B2) A7) A6) A5) G7;have F8:=tD (tD (tD (tD (tD B7 B2) A7) A6) A5) G7;go_wp2_with fail
  go_roundg (es.length-(k+1))
  case measure=>exact(by have O0:=HLT.1;omega)
  case rel=>exact⟨k+1,rs,rfl,(by go_num),HLT.1,(by rw[H4.1,F2.1,Rat.add_zero];exact(RS.1.dig F9.1)),(by rw[H4.1,F2.1,L9.1,Rat.add_zero];exact Aw BS.1 (by have:=O8.1;omega)),I9.1.take 5,F8.1⟩
 obtain rfl:k=es.length:=by have:=HK.1;have:=HLT.1;omega
 have P0:¬(es.length:Int)<(es.length:Int):=ω;have HR:=zH (show Fh f t ((es.map Bv.vl).take es.length)=Fh f t (Eg ps)by rw[wI (by simp),I8.1]);go_upto_region 10 with fail;apply wl;refine zd A4 (0) (rc rs) (C2.1.range (i:=3) rR 0 4) underlying31 ?_;apply Ca 2 (rc rs) C2.1;intro M4 F3 K4;go_wp2_with fail;refine bodyPost_ret (v:= (rg rs)) ?_ rfl ⟨rs,rfl,by rw[<-HR.1];exact(RS.1.dig K4.1),by rw[<-HR.1];exact Aw BS.1 (by have:=Aw (xC (2*L+2) (show es.length<=ps.length by omega)) hLn;omega),F3.1.ext⟩;exact By rfl rfl ((F3.1.blk (i:=2) rR).loadVar rfl rfl rR)
theorem sQ (q r:Rat):(q+r)/2=Rat.divInt (q.num*r.den+r.num*q.den) ((q.den:Int)*r.den+(q.den:Int)*r.den):=by
 rw[Nm.add_eq,Rat.divInt_eq_div,Rat.divInt_eq_div,Rat.intCast_add (((q.den:Nat):Int)*r.den)];have hd:((((q.den:Nat):Int)*((r.den:Nat):Int):Int):Rat)≠0:=by
  have h:=Int.mul_ne_zero (a:=(q.den:Int)) (b:=(r.den:Int)) (by have:=q.den_nz;omega) (by have:=r.den_nz;omega);exact_mod_cast h
 generalize (((((q.den:Nat):Int)*((r.den:Nat):Int):Int)):Rat)=D at*;generalize ((q.num*r.den+r.num*q.den:Int):Rat)=A at*;rw[Rat.div_def,Rat.div_def,Rat.div_def];have h1:=Rat.inv_mul_cancel D hd;have h2:(2:Rat)⁻¹+(2:Rat)⁻¹=1:=by decide+kernel
 have h3:=Rat.inv_mul_cancel (D+D) (by grind);generalize D⁻¹=i at*;generalize (2:Rat)⁻¹=h at*;generalize (D+D)⁻¹=j at*;grind
theorem kQ (n m n' m':Bool)(u v u' v':Value)(L:Nat)(q r:Rat)(w:World)(h:Dt L w n u m v q)(h':Dt L w n' u' m' v' r)(hL:L<=70000):
  Calls prog 24 #[.agg #[.bool n,u,.bool m,v],.agg #[.bool n',u',.bool m',v']] w (Fn ((q+r)/2) w):=by
 have A0:=Oz (L:=L+1) (q:=q) (r:=r) (by have:=h.rl;omega) (by have:=h'.rl;omega);obtain⟨p1,l1,c1,p2,l2,c2,rfl,rfl⟩:=h.form;obtain⟨p3,l3,c3,p4,l4,c4,rfl,rfl⟩:=h'.form;have hE:Aa w ((μ (μ w n p1 l1 c1 m p2 l2 c2) n' p3 l3 c3 m' p4 l4 c4).alloc (.cells z4 31)):=((Ak.alloc _).alloc _).alloc _;have HC:=zH (Mq n m n' m' _ _ _ _ L q r _ (h.ext hE) (h'.ext hE) hL);have HI:=zH (fun W n1 v1 n2 v2 (x:Bu W n1 v1 (q.num*r.den)) (y:Bu W n2 v2 (r.num*q.den))=>Pd n1 n2 v1 v2 (2*(L+1)) _ _ W (x.isIn A0.1) (y.isIn A0.2.1) ω);have HJ:=zH (fun W n1 v1 n2 v2 (x:Bu W n1 v1 ((q.den:Int)*r.den)) (y:Bu W n2 v2 ((q.den:Int)*r.den))=>Pd n1 n2 v1 v2 (2*(L+1)) _ _ W (x.isIn A0.2.2) (y.isIn A0.2.2) ω);have A3:=Ks _ _ _ A0.1 A0.2.1;have A5:=Ks _ _ _ A0.2.2 A0.2.2;have B2:(q.den:Int)*r.den+(q.den:Int)*r.den≠0:=by have h_:=Int.mul_ne_zero (a:=(q.den:Int)) (b:=(r.den:Int)) (by have:=q.den_nz;omega) (by have:=r.den_nz;omega);omega
 have B3:=zH (fun W n1 v1 n2 v2 (x:Bu W n1 v1 (q.num*r.den+r.num*q.den)) (y:Bu W n2 v2 ((q.den:Int)*r.den+(q.den:Int)*r.den))=>(show Calls prog 52 #[.agg #[.bool n1,v1],.agg #[.bool n2,v2]] W (Fn ((q+r)/2) W)by
  rw[sQ];exact Iu n1 n2 v1 v2 (2*(L+1)+1) _ _ W (x.isIn A3) (y.isIn A5) ω B2))
 have HG:=zH (Ha (μ (μ w n p1 l1 c1 m p2 l2 c2) n' p3 l3 c3 m' p4 l4 c4));have B6:=zH (fun w1 n1 t1 n2 t2 u0 u1 u2 u3=>Dq (w:=(μ w n p1 l1 c1 m p2 l2 c2).alloc (.cells #[.bool n',.slice p3 l3 c3,.bool m',.slice p4 l4 c4] 31)) (w1:=w1) (n:=n1) (u:=t1) (m:=n2) (v:=t2) (q:=(q+r)/2) (u0:=u0) (u1:=u1) (u2:=u2) (u3:=u3));have HE:=zH hE;clear h h' hE A0 A3 A5 B2;go_enter func24,ntmps24
 go_wp2_with fail;refine HC.1.mono ?_;rintro e w1 ⟨n1,v1,n2,v2,n3,v3,rfl,i1,i2,i3,he⟩;obtain⟨f1,f2,f3,rfl⟩:=i1.form;obtain⟨f4,f5,f6,rfl⟩:=i2.form;obtain⟨f7,f8,f9,rfl⟩:=i3.form;have I1:=zH i1;have I2:=zH i2;have I3:=zH i3;clear i1 i2 i3;go_wp2_with fail
 have A9:=he.size;simp only[wG]at A9;obtain⟨wm,A1⟩:∃wm,wm=(ν (ν w1 n1 f1 f2 f3) n2 f4 f5 f6).alloc (.cells #[.bool n3,.slice f7 f8 f9] 29):=⟨_,rfl⟩;rw[<-A1];have A2:Aa w1 wm:=by rw[A1];exact((Ak.alloc _).alloc _).alloc _
 have m0:Al wm w1.heap.size 29 #[.bool n1,.slice f1 f2 f3]:=by rw[A1];exact((Al.new w1 _ _).alloc _).alloc _
 have m1:Al wm (w1.heap.size+1) 29 #[.bool n2,.slice f4 f5 f6]:=by rw[A1];exact(Al.new_at _ _ (by simp) _ _).alloc _
 have m2:Al wm (w1.heap.size+1+1) 29 #[.bool n3,.slice f7 f8 f9]:=by rw[A1];exact Al.new_at _ _ (by simp) _ _
 have h1:=fun W (x:Aa wm W)=>HI.1 W _ _ _ _ (I1.1.ext (A2.trans x)) (I2.1.ext (A2.trans x))
 have h2:=fun W b t b' t' (y:Bu W b t (q.num*r.den+r.num*q.den)) (z:Bu W b' t' ((q.den:Int)*r.den+(q.den:Int)*r.den))=>B3.1 W _ _ _ _ y z
 have h3:=fun W (x:Aa wm W)=>HJ.1 W _ _ _ _ (I3.1.ext (A2.trans x)) (I3.1.ext (A2.trans x))
 have H3:=zH h3;have H1:=zH h1;have H2:=zH h2;have B4:=zH (he.trans A2);have gl:∀w',Ba (w.heap.size+1+1) wm w'->w'.cell? ⟨w1.heap.size,0,none⟩=some (.bool n1)/\w'.cell? ⟨w1.heap.size,1,none⟩=some (.slice f1 f2 f3)/\w'.cell? ⟨w1.heap.size+1,0,none⟩=some (.bool n2)/\w'.cell? ⟨w1.heap.size+1,1,none⟩=some (.slice f4 f5 f6)/\w'.cell? ⟨w1.heap.size+1+1,0,none⟩=some (.bool n3)/\w'.cell? ⟨w1.heap.size+1+1,1,none⟩=some (.slice f7 f8 f9):=fun w' x=>
  ⟨(m0.own x ω).cell 0,(m0.own x ω).cell 1,(m1.own x ω).cell 0,(m1.own x ω).cell 1,(m2.own x ω).cell 0,(m2.own x ω).cell 1⟩
 clear A1 A2 m0 m1 m2 h1 h2 h3 A9 HI HJ B3 I1 I2 I3;go_region_held3 (fun w'=>Ba (w.heap.size+1+1) wm w') (first|(with_reducible assumption)|(with_reducible exact Ba.drew (Ba.refl _ _))|(with_reducible (apply Ba.of_ext;assumption))|(with_reducible (refine Ba.set_at (Ba.set_at (Ba.set_at (Ba.set_at ?_ _ _ _) _ _ _) _ _ _) _ _ _;first|assumption|(apply Ba.of_ext;assumption))))
  (first|(go_at_call 53;((with_reducible refine(H1.1 _ (by first|assumption|exact Aa.drew Ak)).mono ?_));rintro e wx ⟨k1,r1,rfl,B1,A7⟩;obtain⟨g1,g2,g3,rfl⟩:=B1.form;have hx:Aa wm wx:=Aa.trans (by first|assumption|exact Aa.drew Ak) A7)|(go_at_call 53;((with_reducible refine(H3.1 _ (by first|assumption|exact Aa.drew Ak)).mono ?_));rintro e wz ⟨k2,r2,rfl,B0,A4⟩;obtain⟨g4,g5,g6,rfl⟩:=B0.form;have B5:Aa wm wz:=Aa.trans hx A4)|(go_at_call 52;((with_reducible refine(H2.1 _ _ _ _ _ (B1.ext A4) B0).mono ?_));rintro e wy ⟨b1,t1,b2,t2,rfl,hc,A6⟩;obtain⟨x1,y1,z1,x2,y2,z2,rfl,rfl⟩:=hc.form;have A8:Aa wm wy:=Aa.trans B5 A6;have gk:=HG.1 _ (B4.1.trans A8);simp only[wG]at gk))
 go_wp2_with fail;have st:=B6.1 _ _ _ _ _ (.bool b1) (.slice x1 y1 z1) (.bool b2) (.slice x2 y2 z2) (B4.1.trans A8) hc;simp only[wG]at st;refine bodyPost_ret (v:= .agg #[.bool b1,.slice x1 y1 z1,.bool b2,.slice x2 y2 z2]) ?_ rfl ⟨_,_,_,_,rfl,st.1,((Ak.alloc _).alloc _).trans st.2⟩;simp[results,results24,go_sem, *]
theorem vE {L:Nat}{w:World}{cs ct:Array Value}{q r:Rat}(hp:Ee L w cs q)(hq:Ee L w ct r)(hL:L<=70000):
    Calls prog 24 #[.agg cs,.agg ct] w fun e w'=>∃c,e= .returned (.agg c)/\Mt w' c ((q+r)/2)/\Aa w w':=by
  obtain⟨a,rfl,h1⟩:=hp;obtain⟨b,rfl,h2⟩:=hq;refine(kQ _ _ _ _ _ _ _ _ L q r w h1 h2 hL).mono fun e w' h=> ?_
  obtain⟨c,rfl,h3,h4⟩:=Fn.v h;exact⟨_,rfl,⟨c,rfl,h3⟩,h4⟩
theorem Hp.pickL {w0 w:World}{m:List Dl}(h:Hp w0 w m)(is:List Nat)(hn:is.Nodup)(es:List Dl)(he:is.map (fun i=>m[i]?)=es.map some):Hp w0 w es:=by
 have A0:∀(k:Nat) (e:Dl),es[k]?=some e->∃i,is[k]?=some i/\m[i]?=some e:=by
  intro k e hk;have h1:=congrArg (fun l=>l[k]?) he;simp only[xJ,hk,Option.map_some]at h1;cases h2:is[k]?with
  |none=>rw[h2]at h1;simp at h1
  |some i=>rw[h2]at h1;simp at h1;exact⟨i,rfl,h1⟩
 refine⟨h.ext,fun k e hk=> ?_,fun i j e f hi hj hij=> ?_⟩
 ·obtain⟨i,_,h2⟩:=A0 k e hk
  exact h.all i e h2
 obtain⟨a,ha,h2⟩:=A0 i e hi;obtain⟨b,hb,h3⟩:=A0 j f hj;refine h.apart a b e f h2 h3 fun hab=>hij ?_
 subst hab;exact(List.getElem?_inj (List.getElem?_eq_some_iff.1 ha).1 hn).1 (ha.trans hb.symm)
theorem Hp.callO {w0 w w':World}{m:List Dl}{ir:Nat}{f f':Dl}{G:Nat->Prop}(h:Hp w0 w m)(hr:m[ir]?=some f)(x:Fr G w w')(hG:∀k,G k->f.own=some k)(h2:Hp w0 w' [f'])
  (hf:f'.own=f.own):Hp w0 w' (m.set ir f'):=by
 have A2:ir<m.length:=(List.getElem?_eq_some_iff.1 hr).1;have A0:∀(j:Nat) (y:Dl),(m.set ir f')[j]?=some y->(j=ir/\y=f')\/(j≠ir/\m[j]?=some y):=by
  intro j y hj;rw[List.getElem?_set]at hj;by_cases h1:ir=j
  ·rw[if_pos h1,if_pos (h1▸A2)]at hj
   injection hj with hj
   exact .inl ⟨h1.symm,hj.symm⟩
  rw[if_neg h1]at hj;exact .inr ⟨fun e=>h1 e.symm,hj⟩
 have A1:∀(j:Nat) (y:Dl),j≠ir->m[j]?=some y->y.Holds w0.heap.size w':=by
  intro j y hj hy;have hd:=h.apart j ir y f hy hr hj;exact Dl.Holds.fr (h.all j y hy) x (fun k hk hg=>hd k hk (hG k hg))
 refine⟨h2.ext,fun j y hj=> ?_,fun i j e g hi hj hij k hk hk2=> ?_⟩
 ·rcases A0 j y hj with⟨_,rfl⟩|⟨h1,h3⟩
  ·exact h2.all 0 _ rfl
  exact A1 j y h1 h3
 rcases A0 i e hi with⟨e1,rfl⟩|⟨e1,e3⟩<;>rcases A0 j g hj with⟨d1,rfl⟩|⟨d1,d3⟩
 ·omega
 ·exact h.apart ir j f g hr d3 (Ne.symm d1) k (hf▸hk) hk2
 ·exact h.apart i ir e f e3 hr e1 k hk (hf▸hk2)
 exact h.apart i j e g e3 d3 hij k hk hk2
theorem lY (u:Value)(rule:Int)(a b:Int×Int)(rs:List Bb)(es:List Bv)(y:Rat)(rf rt:RV)(w:World)(hu:Hs 60 w u (es.map Bv.vl))(he:es.map Bv.vl=Jl rule (Fu y rs))(hf:rf.In 60 w (((a.1:Int)):Rat))(ht:rt.In 60 w (((b.1:Int)):Rat))
  (hok:Hh rs=true)(ha:Dy a)(hb:Dy b)(h1:a.1<=b.1)(hs:Gj rs<=24)(hy:Nm.rl y<=52):
  Calls prog 22 #[u,(rg rf),(rg rt)] w fun e w'=>∃r:RV,e= .returned (rg r)/\r.Is w' (Jk rule a b rs y)/\Nm.rl (Jk rule a b rs y)<=90/\Aa w w':=by
 have hl:(es.map Bv.vl).length<=24:=by rw[he];exact Uv rule y hs
 refine(aM 60 u _ rf rt _ _ w hu hf ht dC dC ω ω).mono ?_;rintro e w' ⟨r,rfl,h2,_,hx⟩;rw[he,eV]at h2;exact⟨r,rfl,h2,Aw (jQ hok ha hb h1 hs hy) (by decide),hx⟩
theorem Bi.capA {w:World}{b n c size:Nat}{T:TypeId}{A:Option Addr}{xs:List Value}(h:Bi w b T size (.slice A n c) n xs):n<=9223372036854775807:=by
  obtain⟨_,⟨_,h2⟩|⟨g,c',r,_,_,_,h3,h4,_⟩⟩:=h
  · omega
  unfold maxLen at h4;omega
def qR (_Bl _Br _Bf _Bt Bs:Nat)(_A:Option Addr)(_n _cap:Nat)(_rule:Int)(_rf _rt:RV)(q:Rat)(w0 w w':World):Prop:=
  ∃rvz:RV,rvz.Is w' q/\Nm.rl q<=60000/\Hp w0 w' [.blk Bs 31 (rc rvz)]/\Ah w w'/\Fr (fun kz=>kz=Bs) w w'
theorem nJ (A:Option Addr)(cap:Nat)(rs:List Bb)(rule:Int)(a b:Int×Int)(lo hi q:Rat)(rl_ rh rf rt rq:RV)(Bl Br Bf Bt Bs:Nat)(w0 w:World)(hh:Hp w0 w [.blk Bl 22 [.slice A rs.length cap],.blk Br 3 [iV rule],.blk Bf 31 (rc rf),.blk Bt 31 (rc rt),.blk Bs 31 (rc rq)])
  (hu:Ch w0 (.slice A rs.length cap) rs)(hn:rs.length<=1048576)(hr:∀r,r∈rs->r.length<=1048576)(hru: -9223372036854775808<=rule/\rule<=9223372036854775807)(hok:Hh rs=true)(ha:Dy a)(hb:Dy b)(h1:a.1<=b.1)(hs:Gj rs<=24)
  (hlo:rl_.Is w lo)(hlol:Nm.rl lo<=24)(hhi:rh.Is w hi)(hhil:Nm.rl hi<=24)(hf:rf.Is w (((a.1:Int)):Rat))(ht:rt.Is w (((b.1:Int)):Rat))(hq:rq.Is w q)(hql:Nm.rl q<=50000):
  Calls prog 21 #[(rg rl_),(rg rh),.pointer (π Bl),.pointer (π Br),.pointer (π Bf),.pointer (π Bt),.pointer (π Bs)] w fun e w'=>
   e= .returned (.tuple #[])/\qR Bl Br Bf Bt Bs A rs.length cap rule rf rt (q+Jk rule a b rs ((lo+hi)/2)*(hi-lo)) w0 w w':=by
 have H0:=zH hh;have HU:=zH hu;have HN:=zH hn;have H7:=zH hr;clear hu hr;have H6:=zH hru;have C5:=zH hok;have C4:=zH ha;have C3:=zH hb;have C2:=zH hs;have RL:=zH hlo;have BL:=zH hlol;have RH:=zH hhi;have BH:=zH hhil;have RF:=zH hf;have RT:=zH ht;have RQ:=zH hq;have BQ:=zH hql;have BF:=zH (Bm a.1 (by have:=Bg C4.1;omega) (by have:=Bg C4.1;omega));have BT:=zH (Bm b.1 (by have:=Bg C3.1;omega) (by have:=Bg C3.1;omega));clear hh hru hok ha hb hs hlo hlol hhi hhil hf ht hq hql;go_enter func21,ntmps21
 go_upto_region 0 with fail;apply wl;apply aA 31 (rc rl_) H0.1;intro X1 w2 H4 hx B2;have D4:=zH (Ah.of_ext hx);have K6:=zH (show Fr (fun kz=>kz=Bs) w w2 from(Fr.of_ext (G:=fun kz=>kz=Bs) (Aa.refl w)).trans (Fr.of_ext hx));clear hx B2;apply aA 31 (rc rh) H4.1;intro X8 w9 B6 hx B2;have J1:=zH (Ah.of_ext hx);have D6:=zH (K6.1.trans (Fr.of_ext hx));clear hx B2;go_upto_region 1 with fail
 refine zy ?_;have C7:=zH (B6.1.step (Aa.refl w9).drew);have J0:=zH (Ah.of_ext (w:=w9) zb);have H5:=zH (D6.1.trans (Fr.of_ext (Aa.refl w9).drew));refine Rt B6.1 zb (bs 11 1) 0 _ ?_;refine Cr (g:=Br) (o:=0) (v:= iV rule) (i:=1) (listed':=(bs 11 3)) rR kR kR kR (by intro _ _ _ h;exact h) rR (fun x hx=>Aa.get hx (show World.cell? w9 ⟨Br,0,none⟩=some (iV rule)from At (B6.1.range (i:=1) rR 0 1))) (by intro x hq;go_simp<;>with_reducible rfl) zb kR ?_;refine qT B6.1 zb (bs 11 207) 2 3 6 7 _ _ _ _ ?_;refine gG 9 (some 9) 31 rz w9 C7.1 ?_;have B1:=tD (tD D4 J1) J0;refine gL 4 (bs 11 719) (bs 11 223) zb.size C7.1 zb (fun xq A2=>vE (L:=60000) (RV.Is.nin (RL.1.dig (B1.1.trans (Ah.of_ext A2))) (Aw BL.1 ω)) (RV.Is.nin (RH.1.dig (B1.1.trans (Ah.of_ext A2))) (Aw BH.1 ω)) ω) (by rintro x_ e D0 ⟨c_,rfl,A6,hx⟩;exact hx) ?_;rintro xq e F0 A2 ⟨c_,rfl,A6,hx⟩;replace hx:=A2.trans hx;clear A2;have C6:=zH (C7.1.step hx);have I9:=zH (show Ah w9.drew F0 from Ah.of_ext hx);have H3:=zH (H5.1.trans (Fr.of_ext hx));have C1:=zH (zb.trans hx);obtain⟨F1,rfl,A3⟩:=A6;have G1:=zH A3;clear A3;have E7:=zH (show Nm.rl ((lo+hi)/2)<=2*24+3 from kT BL.1 BH.1);clear hx;refine⟨_,rfl,?_⟩;try simp only[ζ]
 refine gL 5 (bs 11 735) (bs 11 255) C1.1.size C6.1 C1.1 (fun xq A2=>fT 52 (.slice A rs.length cap) rs rule F1 ((lo+hi)/2) _ (HU.1.ext (C6.1.step A2).ext) (RV.Is.isIn (G1.1.dig (Ah.of_ext A2)) (Aw E7.1 dC)) dC dC HN.1 H7.1 H6.1) (by rintro x_ e D0 ⟨vs,es,rfl,A8,A7,B4,hx⟩;exact hx) ?_;rintro xq e J6 A2 ⟨vs,es,rfl,A8,A7,B4,hx⟩;replace hx:=A2.trans hx;clear A2;have D7:=zH (C6.1.step hx);have I8:=zH (Ah.of_ext hx);have H2:=zH (H3.1.trans (Fr.of_ext hx));have C0:=zH (C1.1.trans hx);have SV:=zH (Hf.reads A8);have VL:=zH A7;clear A8 A7 B4 hx;refine⟨_,rfl,?_⟩;try simp only[ζ]
 have B0:=tD (tD B1 I9) I8;refine gL 8 (bs 11 767) (bs 11 511) C0.1.size D7.1 C0.1 (fun xq A2=>lY (vs) rule a b rs es ((lo+hi)/2) rf rt _ (SV.1.ext A2) VL.1 (RV.Is.isIn (RF.1.dig (B0.1.trans (Ah.of_ext A2))) (Aw BF.1 dC)) (RV.Is.isIn (RT.1.dig (B0.1.trans (Ah.of_ext A2))) (Aw BT.1 dC)) C5.1 C4.1 C3.1 h1 C2.1 (Aw E7.1 dC)) (by rintro x_ e D0 ⟨A0,rfl,A3,B8,hx⟩;exact hx) ?_;rintro xq e J5 A2 ⟨A0,rfl,A3,B8,hx⟩;replace hx:=A2.trans hx;clear A2;have I4:=zH (D7.1.step hx);have I7:=zH (Ah.of_ext hx);have H1:=zH (H2.1.trans (Fr.of_ext hx));have D5:=zH (C0.1.trans hx);have G0:=zH A3;have E6:=zH B8;clear A3 B8 hx;refine⟨_,rfl,?_⟩;try simp only[ζ]
 refine gE (bs 11 1023) D5.1.size I4.1 D5.1 ?_;intro B9 E9 hx hh hs B2;have I3:=hN hh;have E3:=zH (Ah.of_ext hx);have G9:=zH (H1.1.trans (Fr.of_ext hx));have F6:=zH (show Aa w9 E9 from hs);have D8:=zH (show w9.heap.size<=B9 from B2);have G2:=zH (Aw D6.1.size D8.1);clear hh hx B2 hs;try simp only[ζ]
 refine Dm (i:=10) (listed':=(bs 11 2047)) rR kR rR kR _ _ _ rR I3.1 (ix:=7) rR 0 (rc A0) rR rR (by simp) kR (by simp[Value.oneCell']) (by simp[Ar]) ?_;intro A1 hh hd ho;have A4:=hN hh;have E2:=zH (hd);have G8:=zH (G9.1.trans_new ho (fun j hj=> .inr (by injection hj with hj;rw[<-hj];exact G2.1)));have F5:=zH (Ba.ext ho F6.1 D8.1);clear hh hd ho;refine⟨F5.1,?_⟩
 (try simp only[Act.put])
 refine wpAnyH_done kR ?_ _;go_upto_region 2 with fail;refine wp_region_held_drew (S:=fun x=>Fr (fun kz=>kz=Bs) A1 x) kR (Fr.of_ext zb) (fun _=> ?_);have I2:=zH (A4.1.step (Aa.refl A1).drew);have E1:=zH (Ah.of_ext (w:=A1) zb);have G7:=zH (G8.1.trans (Fr.of_ext (Aa.refl A1).drew));refine mR 1 (bs 8 2) B9 (0) (rc A0) (fun x hx=>Fr.range hx (show World.rangeAt A1 B9 (0) (rc A0)from(A4.1.range (i:=7) rR 0 4)) (A4.1.offBlk (i:=7) (j:=4) rR rR dC rR)) underlying31 (Fr.of_ext zb) ?_;refine mR 2 (bs 8 6) X8 (0) (rc rh) (fun x hx=>Fr.range hx (show World.rangeAt A1 X8 (0) (rc rh)from(A4.1.range (i:=6) rR 0 4)) (A4.1.offBlk (i:=6) (j:=4) rR rR dC rR)) underlying31 (Fr.of_ext zb) ?_;refine zr 3 (bs 8 14) X1 (0) (rc rl_) (fun x hx=>Fr.range hx (show World.rangeAt A1 X1 (0) (rc rl_)from(A4.1.range (i:=5) rR 0 4)) (A4.1.offBlk (i:=5) (j:=4) rR rR dC rR)) underlying31 (Fr.of_ext zb) ?_;refine Fd.go (j:=0) (dj:=some 19) (u:= (rg rq)) ?_;have A9:=tD (tD (tD (tD B0 I7) E3) E2) E1;refine Kv (b:=A1) (i:=4) (lj:=(bs 8 15)) (li:=(bs 8 30)) rR rR kR kR kR kR kR dC kR rR rR (fun x_ h_=>Fr.of_ext h_) (Aa.refl A1).drew (fun x_ h_=>Lc _ _ rR Bs (0) (rc rq) rR (Be (show World.rangeAt A1 Bs (0) (rc rq)from A4.1.range (i:=4) rR 0 4) h_) underlying31 rR kR) rR (by go_simp) kR (sH (L:=60000) (RV.Is.nin (RH.1.dig A9.1) (Aw BH.1 ω)) (RV.Is.nin (RL.1.dig A9.1) (Aw BL.1 ω)) ω) ?_;rintro e B7 ⟨c_,rfl,A6,hx⟩;have I1:=zH (I2.1.step hx);have E0:=zH (show Ah A1.drew B7 from Ah.of_ext hx);have G6:=zH (G7.1.trans (Fr.of_ext hx));have D1:=zH (show Aa A1 B7 from(Aa.refl A1).drew.trans hx);have F4:=zH (show Fr (fun kz=>kz=Bs) A1 B7 from(Fr.of_ext zb).trans (Fr.of_ext hx));obtain⟨J8,rfl,A3⟩:=A6;have F9:=zH A3;clear A3;have E5:=zH (show Nm.rl (hi-lo)<=24+24+1 from by have h1:=BH.1;have h2:=BL.1;have h3:=Nm.rl_sub hi lo;omega);have B3:=hx;clear hx;refine⟨_,rfl,B3,?_⟩;try simp only[ζ]
 clear B3;have C9:=tD (tD (tD E3 E2) E1) E0;refine Kv (b:=A1) (i:=5) (lj:=(bs 8 31)) (li:=(bs 8 62)) rR rR kR kR kR kR kR dC kR rR rR (fun x_ h_=>Fr.of_ext h_) D1.1 (fun x_ h_=>Lc _ _ rR Bs (0) (rc rq) rR (Be (show World.rangeAt A1 Bs (0) (rc rq)from A4.1.range (i:=4) rR 0 4) h_) underlying31 rR kR) rR (by go_simp) kR (sI (L:=60000) (RV.Is.nin (G0.1.dig C9.1) (Aw E6.1 ω)) (RV.Is.nin F9.1 (Aw E5.1 ω)) ω) ?_;rintro e E8 ⟨c_,rfl,A6,hx⟩;have I0:=zH (I1.1.step hx);have I6:=zH (Ah.of_ext hx);have G5:=zH (G6.1.trans (Fr.of_ext hx));have F2:=zH (show Aa A1 E8 from D1.1.trans hx);have D3:=zH (F4.1.trans (Fr.of_ext hx));obtain⟨J7,rfl,A3⟩:=A6;have F8:=zH A3;clear A3;have E4:=zH (show Nm.rl ((Jk rule a b rs ((lo+hi)/2))*(hi-lo))<=90+(24+24+1)from by have h1:=E6.1;have h2:=E5.1;have h3:=Nm.rl_mul (Jk rule a b rs ((lo+hi)/2)) (hi-lo);omega);have B3:=hx;clear hx;refine⟨_,rfl,B3,?_⟩;try simp only[ζ]
 clear B3;refine To rR kR rR rR D3.1 (Lc _ _ rR Bs (0) (rc rq) rR (Be (show World.rangeAt A1 Bs (0) (rc rq)from A4.1.range (i:=4) rR 0 4) F2.1) underlying31 rR kR) (show _=(bs 8 63)by kernel_rfl) ?_;try simp only[ζ]
 have B5:=tD (tD A9 E0) I6;refine mC 6 (bs 8 127) (sJ (L:=60000) (RV.Is.nin (RQ.1.dig B5.1) (Aw BQ.1 ω)) (RV.Is.nin F8.1 (Aw E4.1 ω)) ω) ?_;rintro e J4 ⟨c_,rfl,A6,hx⟩;have H9:=zH (I0.1.step hx);have I5:=zH (Ah.of_ext hx);have G4:=zH (G5.1.trans (Fr.of_ext hx));have D2:=zH (D3.1.trans (Fr.of_ext hx));obtain⟨A5,rfl,A3⟩:=A6;have F7:=zH A3;clear A3;have J2:=zH (show Nm.rl (q+((Jk rule a b rs ((lo+hi)/2))*(hi-lo)))<=50000+(90+(24+24+1))+1 from by have h1:=BQ.1;have h2:=E4.1;have h3:=Nm.rl_add q ((Jk rule a b rs ((lo+hi)/2))*(hi-lo));omega);clear hx;apply zm D2.1;refine Dm (i:=7) (listed':=(bs 8 255)) rR kR rR kR _ _ _ rR H9.1 (ix:=4) rR 0 (rc A5) rR rR (by simp) kR (by simp[Value.oneCell']) (by simp[Ar]) ?_;intro J3 hh hd ho;have H8:=hN hh;have D9:=zH (hd);have G3:=zH (G4.1.trans_new ho (fun j hj=> .inl (by injection hj with hj;exact hj.symm)));have F3:=zH (Fr.trans_new D2.1 ho (fun j hj=> .inl (by simpa using hj.symm)));clear hh hd ho;refine⟨F3.1,?_⟩
 (try simp only[Act.put])
 refine wpAnyH_done kR ?_ _;go_wp2_with fail;first|refine bodyPost_end (v:= .tuple #[]) (results_none rfl _ _ _) rfl ?_|refine bodyPost_ret (v:= .tuple #[]) (results_none rfl _ _ _) rfl ?_
 have C8:=tD (tD B5 I5) D9;exact⟨rfl,A5,(F7.1.dig D9.1),Aw J2.1 (by decide),H8.1.pickL [4] (by decide) _ (by rfl),C8.1,G3.1⟩
def uS (a b:Int×Int)(rs:List Bb)(w:World)(e:Ending)(w':World):Prop:=
  ∃(v:Value) (es:List Bd),e= .returned v/\Bi w' w.heap.size 31 4 v es.length (es.flatMap Bd.cells)/\(es.map Bd.q).Pairwise (· < ·)/\(∀x,x∈es.map Bd.q↔x∈tI a b rs)/\(∀e,e∈es->e.Ok 24 w')/\Aa w w'
def vW (X1 X6 X42 X70 X71 X90 X100 X164:Nat)(a b:Int×Int)(r61 r66:RV)(base:List Rat)(A1:Option Addr)(m c1:Nat)(w W1:World)(pre:List Yq)(W:World):Prop:=
  ∃ (A:Option Addr) (n c:Nat) (es:List Bd) (A2:Option Addr) (c2:Nat),Hp w W [.blk X1 24 [iV a.1,iV a.2],.blk X6 24 [iV b.1,iV b.2],.blk X42 24 [iV a.1,iV a.2,iV b.1,iV b.2],.blk X70 31 (rc r61),.blk X71 31 (rc r66),.row 31 4 (.slice A n c) (n) (List.flatMap Bd.cells es),.blk X90 54 [.slice A n c],.blk X100 84 [.func (.func 58) #[] #[.pointer (π X70),.pointer (π X71),.pointer (π X90)]],.blk X164 85 [.slice A2 pre.length c2],.row 92 4 (.slice A2 pre.length c2) (pre.length) (List.flatMap Jb (pre.map Subtype.val))]/\Ah W1 W/\(∀k,Value.ownBlock (.slice A n c)=some k->Value.ownBlock (.slice A1 m c1)=some k\/W1.heap.size<=k)/\(∀k,Value.ownBlock (.slice A2 pre.length c2)=some k->W1.heap.size<=k)/\
    es.map Bd.q=base++iX a b [] (pre.map Subtype.val)/\n=es.length/\n<=5000+5000*pre.length/\(∀e,e∈es->e.Ok 24 W)/\W1.heap.size<=W.heap.size
theorem qH (X1 X6 X42 X70 X71 X90 X100 X164:Nat)(a b:Int×Int)(r61 r66:RV)(base:List Rat)(A1:Option Addr)(m c1:Nat)(w W1:World)(hw:w.heap.size<=W1.heap.size):OwnFrom W1.heap.size (vW X1 X6 X42 X70 X71 X90 X100 X164 a b r61 r66 base A1 m c1 w W1):=by
 rintro s W W' row ⟨A,n,c,es,A2,c2,h1,h2,h3,h4,h5,h6,h7,h8,h9⟩ hg hr;have d:Ah W W':=Ah.keptQ hg (fun k hk=>(hr k hk).2);exact⟨A,n,c,es,A2,c2,h1.keptQ hg (fun k hk=>⟨Aw hw (hr k hk).1,(hr k hk).2⟩),h2.trans d,h3,h4,h5,h6,h7,fun e he=>(h8 e he).dig d,Aw h9 hg.size⟩
def vM (X1 X6 X100 X164:Nat)(W1:World)(x:Yq)(a':Act)(W:World):Prop:=
  ∃(J:Nat->Value) (Xp Xq:Nat),Al W Xp 24 ([iV x.1.1.1,iV x.1.1.2]:List Value).toArray/\Al W Xq 24 ([iV x.1.2.1,iV x.1.2.2]:List Value).toArray/\Xp≠Xq/\W1.heap.size<=Xp/\W1.heap.size<=Xq/\a'={tmps:=#[J 0,J 1,J 2,J 3,.pointer (π X1),.pointer (π X6),J 6,J 7,J 8,J 9,.pointer (π X100),J 11,J 12,J 13,J 14,.pointer (π X164),.pointer (π Xp),.pointer (π Xq),J 18,J 19,J 20,J 21,J 22,J 23,J 24,J 25,J 26,J 27,J 28,J 29,J 30,J 31,J 32,J 33,J 34,J 35,J 36,J 37,J 38,J 39,J 40,J 41,J 42,J 43,J 44,J 45,J 46,J 47,J 48,J 49,J 50,J 51,J 52,J 53,J 54,J 55,J 56,J 57,J 58,J 59,J 60,J 61,J 62,J 63,J 64,J 65,J 66,J 67,J 68,J 69,J 70,J 71,J 72,J 73,J 74,J 75,J 76,J 77,J 78,J 79,J 80,J 81,J 82,J 83,J 84,J 85,J 86,J 87,J 88,J 89,J 90,J 91,J 92,J 93,J 94,J 95,J 96,J 97,J 98,J 99,J 100,J 101,J 102,J 103,J 104,J 105,J 106,J 107,J 108,J 109,J 110,J 111,J 112,J 113,J 114,J 115,J 116,J 117,J 118,J 119,J 120,J 121,J 122,J 123,J 124,J 125,J 126,J 127,J 128,J 129],defers:=[]}
theorem qI (X1 X6 X100 X164:Nat)(W1:World)(x:Yq)(a':Act):OwnFrom W1.heap.size (fun(_:Unit) W=>vM X1 X6 X100 X164 W1 x a' W):=by
  rintro _ W W' row ⟨J,Xp,Xq,h1,h2,h3⟩ hg hr;exact⟨J,Xp,Xq,h1.kept hg (fun k hk=>(hr k hk).2),h2.kept hg (fun k hk=>(hr k hk).2),h3⟩
theorem tJ {X1 X6 X100 X164 Xp Xq:Nat}{W1 W:World}{x:Yq}{a':Act}(h1:Al W Xp 24 ([iV x.1.1.1,iV x.1.1.2]:List Value).toArray)(h2:Al W Xq 24 ([iV x.1.2.1,iV x.1.2.2]:List Value).toArray)(h3:Xp≠Xq)(h4:W1.heap.size<=Xp)(h5:W1.heap.size<=Xq)
    (h6:a'={tmps:=#[γ a' 0,γ a' 1,γ a' 2,γ a' 3,.pointer (π X1),.pointer (π X6),γ a' 6,γ a' 7,γ a' 8,γ a' 9,.pointer (π X100),γ a' 11,γ a' 12,γ a' 13,γ a' 14,.pointer (π X164),.pointer (π Xp),.pointer (π Xq),γ a' 18,γ a' 19,γ a' 20,γ a' 21,γ a' 22,γ a' 23,γ a' 24,γ a' 25,γ a' 26,γ a' 27,γ a' 28,γ a' 29,γ a' 30,γ a' 31,γ a' 32,γ a' 33,γ a' 34,γ a' 35,γ a' 36,γ a' 37,γ a' 38,γ a' 39,γ a' 40,γ a' 41,γ a' 42,γ a' 43,γ a' 44,γ a' 45,γ a' 46,γ a' 47,γ a' 48,γ a' 49,γ a' 50,γ a' 51,γ a' 52,γ a' 53,γ a' 54,γ a' 55,γ a' 56,γ a' 57,γ a' 58,γ a' 59,γ a' 60,γ a' 61,γ a' 62,γ a' 63,γ a' 64,γ a' 65,γ a' 66,γ a' 67,γ a' 68,γ a' 69,γ a' 70,γ a' 71,γ a' 72,γ a' 73,γ a' 74,γ a' 75,γ a' 76,γ a' 77,γ a' 78,γ a' 79,γ a' 80,γ a' 81,γ a' 82,γ a' 83,γ a' 84,γ a' 85,γ a' 86,γ a' 87,γ a' 88,γ a' 89,γ a' 90,γ a' 91,γ a' 92,γ a' 93,γ a' 94,γ a' 95,γ a' 96,γ a' 97,γ a' 98,γ a' 99,γ a' 100,γ a' 101,γ a' 102,γ a' 103,γ a' 104,γ a' 105,γ a' 106,γ a' 107,γ a' 108,γ a' 109,γ a' 110,γ a' 111,γ a' 112,γ a' 113,γ a' 114,γ a' 115,γ a' 116,γ a' 117,γ a' 118,γ a' 119,γ a' 120,γ a' 121,γ a' 122,γ a' 123,γ a' 124,γ a' 125,γ a' 126,γ a' 127,γ a' 128,γ a' 129],defers:=[]}):vM X1 X6 X100 X164 W1 x a' W:=⟨fun q=>a'.tmps.getD q undef,Xp,Xq,h1,h2,h3,h4,h5,h6⟩
theorem aT (u:Value)(rs:List Bb)(a b:Int×Int)(w:World)(hu:Ch w u rs)(hn:rs.length<=1048576)(hr:∀r,r∈rs->r.length<=1048576):
  Calls prog 28 #[u,.agg #[iV a.1,iV a.2],.agg #[iV b.1,iV b.2]] w (uS a b rs w):=by
 have HU:=zH hu;have HN:=zH hn;have HR:=zH hr;obtain⟨A,cu,rfl,hA⟩:=hu;have HA:=zH hA;clear hA hr;refine(callsIn_wide (n:=4)).1 ?_;refine callsIn_of_wp_marks func28 rfl trivial ?_ rfl;simp only[ntmps28,List.size_toArray,xB,List.length_nil,Nat.reduceAdd,Nat.reduceSub,Array.replicate_succ,Array.replicate_zero,List.push_toArray,List.append_toArray,wT,wR];refine wpIn_wide.2 ?_;refine Go.Code.wp_mono Qi.m ?_;have H0:=zH (Hp.start w);go_upto_region 0 with fail
 apply wl;apply Cd 24 [iV a.1,iV a.2] H0.1;intro X1 w2 H3 _;apply Cd 24 [iV b.1,iV b.2] H3.1;intro X6 w7 H8 _;refine Cy Af _ ?_;rcases Ck (Hh rs=true)with HVQ|HVQ
 ·have HV:=HVQ
  rcases Ck (Dd [a,b]=true)with HB|HB
  ·have I0:=HB
   rcases Ck (b.2<=a.2)with HLE|HLE
   ·go_upto_region 1 with fail
    apply wl;refine Cy Af _ ?_;refine zc (Du _ rs _ (HU.1.ext H8.1.ext) HN.1 HR.1) ?_;rintro e w16 ⟨rfl,hx⟩;have o4:=zH (H8.1.step hx);clear hx;refine⟨.bool true,by rw[HV.1],?_⟩;try simp only[ζ]
    refine Ek o4.1 φ φ _ _ ?_;apply fL 2 24 [iV a.1,iV a.2,iV b.1,iV b.2] o4.1;intro t4 w22 o3 _;refine zc (Hv (.slice (π t4) 2 2) [a,b] _ (Jd o3.1 (i:=2) rR) (by simp)) ?_;rintro e w25 ⟨rfl,hx⟩;have o1:=zH (o3.1.step hx);clear hx;refine⟨.bool true,by rw[I0.1],?_⟩;try simp only[ζ]
    refine dQ o1.1 φ φ φ _ _ _ _ ?_;apply zp τ (by exact sX (e:=(Aq (by have D0:=HLE.1;omega))));apply zq τ;go_upto_region 2 with fail;apply wl;refine Cy Af _ ?_;go_wp2_with fail;exact⟨_,results_tmp rfl _ _ _,_,[],rfl,Bi.nil _ _ _ _,by simp,by rw[show tI a b rs=[]from if_neg (fun h=>by have h1:=h.2.2.2;have h2:=HLE.1;omega)];simp,by simp,o1.1.ext⟩
   go_upto_region 1 with fail;apply wl;refine Cy Af _ ?_;refine zc (Du _ rs _ (HU.1.ext H8.1.ext) HN.1 HR.1) ?_;rintro e w37 ⟨rfl,hx⟩;have o0:=zH (H8.1.step hx);clear hx;refine⟨.bool true,by rw[HV.1],?_⟩;try simp only[ζ]
   refine Ek o0.1 φ φ _ _ ?_;apply fL 2 24 [iV a.1,iV a.2,iV b.1,iV b.2] o0.1;intro C9 w43 n9 _;refine zc (Hv (.slice (π C9) 2 2) [a,b] _ (Jd n9.1 (i:=2) rR) (by simp)) ?_;rintro e P6 ⟨rfl,hx⟩;have X5:=zH (n9.1.step hx);clear hx;refine⟨.bool true,by rw[I0.1],?_⟩;try simp only[ζ]
   refine dQ X5.1 φ φ φ _ _ _ _ ?_;apply zp φ (by exact sX (e:=(Aj (by have D0:=HLE.1;omega))));apply zq φ;have D4:=Xu.1 HB.1;have oa:=Bg D4.1;have ob:=Bg D4.2;have m8:=zH D4;clear D4;go_upto_region 3 with fail
   refine zy ?_;have H56:=zH (X5.1.step (Aa.refl P6).drew);refine qT X5.1 zb (bs 10 27) 0 1 3 4 _ _ _ _ ?_;refine FN.go2 (j1:=⟨6,some 7,31,[.bool false,.slice none 0 0,.bool false,.slice none 0 0]⟩) (j2:=⟨7,some 8,31,[.bool false,.slice none 0 0,.bool false,.slice none 0 0]⟩) (b:=P6) ?_ zb;refine gN 2 (bs 10 31) (fk (fk trivial)) zb.size (fun xq L7=>Ff a.2 _ ω ω) (by rintro x_ e p1 ⟨c_,rfl,M5,hx⟩;exact hx) ?_;rintro xq e w60 L7 ⟨c_,rfl,M5,hx⟩;replace hx:=L7.trans hx;clear L7;have H62:=zH (H56.1.step hx);have m5:=zH (zb.trans hx);obtain⟨A5,rfl,C8⟩:=M5;have a4:=zH C8;have X8:=zH (Bm a.2 ω ω);clear C8 hx;refine⟨_,rfl,?_⟩;try simp only[ζ]
   refine gN 5 (bs 10 63) (fk (fk trivial)) m5.1.size (fun xq L7=>Ff b.2 _ ω ω) (by rintro x_ e p1 ⟨c_,rfl,M5,hx⟩;exact hx) ?_;rintro xq e w65 L7 ⟨c_,rfl,M5,hx⟩;replace hx:=L7.trans hx;clear L7;have H67:=zH (H62.1.step hx);have D67:=zH (Ah.of_ext hx);have t8:=zH (m5.1.trans hx);obtain⟨A0,rfl,C8⟩:=M5;have a3:=zH C8;have X7:=zH (Bm b.2 ω ω);clear C8 hx;refine⟨_,rfl,?_⟩;try simp only[ζ]
   refine pU (bs 10 255) (fk (fk trivial)) t8.1.size X5.1 H67.1 ?_;intro B2 B1 p4 hx hh l9 l8 hs;have H73:=hN hh;have p0:=zH (Ah.of_ext hx);have t7:=zH (show Aa P6 p4 from hs);have G76:=zH (show P6.heap.size<=B2 from l9);have G77:=zH (show P6.heap.size<=B1 from l8);clear hh hx hs l9 l8;try simp only[ζ]
   refine bS 3 8 (bs 10 511) (rc A5) H73.1 t7.1 G76.1 ?_;intro w78 H79 o9 t6;refine bS 4 9 (bs 10 1023) (rc A0) H79.1 t6.1 G77.1 ?_;intro w82 n8 o8 S85;refine wpAnyH_done kR ?_ _;go_upto_region 4 with fail;apply wl;refine Bq n8.1 _ _ ?_;apply fL 2 31 [.bool A5.n,.slice A5.p A5.l A5.c,.bool A5.m,.slice A5.p2 A5.l2 A5.c2,.bool A0.n,.slice A0.p A0.l A0.c,.bool A0.m,.slice A0.p2 A0.l2 A0.c2] n8.1;intro P3 w87 H88 o7;apply Cd 54 [.slice none 0 0] H88.1;intro A6 w91 H92 o6;apply vT 6 (.slice (π P3) 2 2) H92.1;intro p3 n7 o5;have H98:=zH (show Hp w p3 [.blk X1 24 [iV a.1,iV a.2],.blk X6 24 [iV b.1,iV b.2],.blk C9 24 [iV a.1,iV a.2,iV b.1,iV b.2],.blk B2 31 (rc A5),.blk B1 31 (rc A0),ro 31 4 (π P3) 2 2 Bd.cells ([(⟨A5,(((a.2):Int):Rat)⟩:Bd),(⟨A0,(((b.2):Int):Rat)⟩:Bd)]),.blk A6 54 [.slice (π P3) 2 2]]from n7.1.turn (r:=none) (i:=5) (e:= .blk P3 31 [.bool A5.n,.slice A5.p A5.l A5.c,.bool A5.m,.slice A5.p2 A5.l2 A5.c2,.bool A0.n,.slice A0.p A0.l A0.c,.bool A0.m,.slice A0.p2 A0.l2 A0.c2]) (e':= .row 31 4 (.slice (π P3) 2 2) (2) (List.flatMap Bd.cells ([(⟨A5,(((a.2):Int):Rat)⟩:Bd),(⟨A0,(((b.2):Int):Rat)⟩:Bd)]))) (by rfl) (fun k h=>by cases h) (World.grownBy.refl _ _) (n7.1.litRow17 (i:=5) (n:=2) (by rfl) (by rfl) (by decide)) (fun k hk=> .inl hk));go_upto_region 5 with fail
   apply wl;refine Cy Af _ ?_;apply Cd 84 [.nilFunc] H98.1;intro A8 s1 j3 W7;apply vT 7 (.func (.func 58) #[] #[.pointer (π B2),.pointer (π B1),.pointer (π A6)]) j3.1;intro Q1 T1 W6;have G4:=tD (tD (tD (tD (tD (tD (tD (tD D67 p0) o9) o8) o7) o6) o5) W7) W6;have G3:=tD (tD (tD (tD (tD (tD (tD p0 o9) o8) o7) o6) o5) W7) W6;have d6:=zH (show∀e,e∈[(⟨A5,(((a.2):Int):Rat)⟩:Bd),(⟨A0,(((b.2):Int):Rat)⟩:Bd)]->e.Ok 24 Q1 from(by simp only[List.forall_mem_cons,List.not_mem_nil,false_imp_iff,implies_true,and_true];exact⟨⟨(a4.1.dig G4.1),Aw X8.1 (by decide)⟩,⟨(a3.1.dig G3.1),Aw X7.1 (by decide)⟩⟩));go_upto_region 6 with fail
   apply wl;refine Cn Af _ (iV ((rs.length:Nat):Int)) _ ?_;go_wp2_with fail;go_loopg [56] (rs.length) (fun cq Z0 wr=>∃(i:Nat) (m:Nat) (es:List Bd) (A1:Option Addr) (c1:Nat),cq=rs.length-i/\Z0= iV (i:Int)/\(i<=rs.length)/\(m=es.length/\m<=2+Gj (rs.take i))/\(es.map Bd.q=[(((a.2):Int):Rat),(((b.2):Int):Rat)]++rG a b (rs.take i))/\(∀e,e∈es->e.Ok 24 wr)/\Hp w wr [.blk X1 24 [iV a.1,iV a.2],.blk X6 24 [iV b.1,iV b.2],.blk C9 24 [iV a.1,iV a.2,iV b.1,iV b.2],.blk B2 31 (rc A5),.blk B1 31 (rc A0),.row 31 4 (.slice A1 m c1) (m) (List.flatMap Bd.cells es),.blk A6 54 [.slice A1 m c1],.blk A8 84 [.func (.func 58) #[] #[.pointer (π B2),.pointer (π B1),.pointer (π A6)]]]/\Ah Q1 wr)
   case atStart=>exact⟨0,2,[(⟨A5,(((a.2):Int):Rat)⟩:Bd),(⟨A0,(((b.2):Int):Rat)⟩:Bd)],some ⟨P3,0,none⟩,2,rfl,rfl,wM _,⟨rfl,by simp[Gj]⟩,rfl,d6.1,T1.1,Ah.refl _⟩
   obtain⟨i,m,es,A1,c1,rfl,rfl,K4,Q3,K6,J6,E5,E6⟩:=hrel;generalize wr=Y6 at*;have v1:=zH K4;clear K4;have HM:=zH Q3;clear Q3;have n6:=zH K6;clear K6;have m9:=zH J6;clear J6;have I2:=zH E5;have G8:=zH E6;clear E5 E6 T1;rcases Ck (i<rs.length)with HLT|HLT
   ·have H4:=HLT.1
    obtain⟨r,H6⟩:∃r,rs[i]?=some r:=⟨_,wC H4⟩;have X2:=zH H6;have hrl:=HR.1 r (wE H6);obtain⟨g,W8,rfl,M0⟩:=HA.1 ω;obtain⟨B,cb,F1,A2_,t0,s3,B3⟩:=M0 i r H6;injection s3 with e1_ e2_ e3_
    subst e1_;subst e3_;have u4:=zH F1;have u5:=zH B3;clear H6 F1 B3 M0 e2_;go_upto_region 7 with fail
    apply wl;apply zp τ (by exact Dp (e:=(Aq ω)));go_upto_region 8 with fail;apply wl;apply zp (.pointer (some ⟨g,W8+i,none⟩)) (by exact Eh (k:=i) underlying22 (l:=H4) (f:=(show W8+i=W8+i*1 by omega)));refine ze g (W8+i) (.slice B r.length cb) (Dr (I2.1.ext.get u4.1)) ?_;refine Cy Af _ ?_;go_upto_region 9 with fail;apply wl;refine Cn Af _ (iV ((r.length:Nat):Int)) _ ?_;have u1:=zH (show Gj (rs.take i)+r.length<=4096 from by have h_:=Fo X2.1;have B3:=Fe rs (i+1);have C5:=Fc HV.1;omega);go_wp2_with fail
    go_loopg [62] (r.length) (fun cq Y9 wr=>∃(k:Nat) (m2:Nat) (C0:List Bd) (A2:Option Addr) (c2:Nat),cq=r.length-k/\Y9= iV (k:Int)/\(k<=r.length)/\(m2=C0.length/\m2<=2+(Gj (rs.take i)+k))/\(C0.map Bd.q=[(((a.2):Int):Rat),(((b.2):Int):Rat)]++rG a b (rs.take i)++(r.take k).flatMap (fun p=>bF (((a.2):Int):Rat) (((b.2):Int):Rat) (p.2:Rat)))/\(∀e,e∈C0->e.Ok 24 wr)/\Hp w wr [.blk X1 24 [iV a.1,iV a.2],.blk X6 24 [iV b.1,iV b.2],.blk C9 24 [iV a.1,iV a.2,iV b.1,iV b.2],.blk B2 31 (rc A5),.blk B1 31 (rc A0),.row 31 4 (.slice A2 m2 c2) (m2) (List.flatMap Bd.cells C0),.blk A6 54 [.slice A2 m2 c2],.blk A8 84 [.func (.func 58) #[] #[.pointer (π B2),.pointer (π B1),.pointer (π A6)]]]/\Ah Y6 wr)
    case atStart=>exact⟨0,m,es,A1,c1,rfl,rfl,wM _,⟨HM.1.1,HM.1.2⟩,(by rw[n6.1];simp),(fun g_ hg_=>(m9.1 g_ hg_)),I2.1,Ah.refl _⟩
    obtain⟨k,m2,C0,A2,c2,rfl,rfl,K3,K1,E4,E1,E5,E6⟩:=hrel;generalize wr=s0 at*;have u9:=zH K3;clear K3;have S6:=zH K1;clear K1;have S7:=zH E4;clear E4;have S5:=zH E1;clear E1;have O7:=zH E5;have J5:=zH E6;clear E5 E6 I2;rcases Ck (k<r.length)with HLU|HLU
    ·have P2:=HLU.1
     have s4:r≠ []:=by intro h_;rw[h_]at P2;simp at P2
     obtain⟨gr,l0,rfl,L9⟩:=u5.1 s4;have HPA:=zH L9;obtain⟨p,M0⟩:∃p,r[k]?=some p:=⟨_,wC P2⟩;have u7:=zH M0;have u6:=zH (Sv L9 M0);have v0:=zH (Xt HV.1 X2.1 M0);have op:=Bg v0.1;clear M0 L9;go_upto_region 10 with fail
     apply wl;apply zp τ (by exact Dp (e:=(Aq ω)));go_upto_region 11 with fail;apply wl;apply zp (.pointer (some ⟨gr,l0+k*2,none⟩)) (by exact Eh (k:=k) underlying43 (l:=P2) (f:=rfl));refine zd gr (l0+k*2) [iV p.1,iV p.2] (Be u6.1 O7.1.ext) underlying24 ?_;apply Cd 24 [iV 0,iV 0] O7.1;intro H9 r9 j0 J4;apply Ca 8 [iV p.1,iV p.2] j0.1;intro C3 C7 J3;go_upto_region 12 with fail;refine wp_region_held_drew (S:=fun x=>Fr (fun kz=>kz=A6\/Value.ownBlock (.slice A2 m2 c2)=some kz) C3 x) kR (Fr.of_ext zb) (fun _=> ?_);have i9:=zH (C7.1.step (Aa.refl C3).drew);have J2:=zH (Ah.of_ext (w:=C3) zb);refine Cr (g:=A8) (o:=0) (v:= .func (.func 58) #[] #[.pointer (π B2),.pointer (π B1),.pointer (π A6)]) (i:=0) (listed':=(bs 5 1)) rR kR kR kR (by intro _ _ _ h;exact h) rR (fun x hx=>Fr.cell hx (show World.cell? C3 ⟨A8,0,none⟩=some (.func (.func 58) #[] #[.pointer (π B2),.pointer (π B1),.pointer (π A6)])from At (C7.1.range (i:=7) rR 0 1)) (fun hk=>hk.elim (C7.1.offBlk (i:=7) (j:=6) rR rR dC rR) (C7.1.offRow (i:=7) (j:=5) rR rR dC rR))) (by intro x hq;go_simp<;>with_reducible rfl) (Fr.of_ext zb) kR ?_;try simp only[ζ]
     refine zx 1 (bs 5 3) (.pointer (some ⟨H9,1,none⟩)) (Fr.of_ext zb) ?_;refine Cr (g:=H9) (o:=1) (v:= iV p.2) (i:=2) (listed':=(bs 5 7)) rR kR kR kR (by intro _ _ _ h;exact h) rR (fun x hx=>Fr.cell hx (show World.cell? C3 ⟨H9,1,none⟩=some (iV p.2)from At (C7.1.range (i:=8) rR 1 1)) (fun hk=>hk.elim (C7.1.offBlk (i:=8) (j:=6) rR rR dC rR) (C7.1.offRow (i:=8) (j:=5) rR rR dC rR))) (by intro x hq;go_simp<;>with_reducible rfl) (Fr.of_ext zb) kR ?_;try simp only[ζ]
     refine mC 3 (bs 5 15) (Ff p.2 _ ω ω) ?_;rintro e L4 ⟨c_,rfl,M5,hx⟩;have C2:=zH (i9.1.step hx);have J1:=zH (show Ah C3.drew L4 from Ah.of_ext hx);have Q8:=zH (show Fr (fun kz=>kz=A6\/Value.ownBlock (.slice A2 m2 c2)=some kz) C3 L4 from(Fr.of_ext zb).trans (Fr.of_ext hx));obtain⟨Z1,rfl,C8⟩:=M5;have a6:=zH C8;have j9:=zH (Bm p.2 ω ω);clear C8 hx;apply zm Q8.1;have V1:=tD (tD (tD (tD (tD (tD G4 G8) J5) J4) J3) J2) J1;have V0:=tD (tD (tD (tD (tD (tD G3 G8) J5) J4) J3) J2) J1;have U9:=tD (tD (tD J4 J3) J2) J1;refine mC 4 (bs 5 31) (Xo 24 dC Z1 A5 A0 (((p.2):Int):Rat) (((a.2):Int):Rat) (((b.2):Int):Rat) B2 B1 A6 A2 m2 c2 C0 w _ (C2.1.pick2 (ib:=6) (ir:=5) rR rR dC) a6.1 (Aw j9.1 ω) (a4.1.dig V1.1) (a3.1.dig V0.1) (Aw X8.1 ω) (Aw X7.1 ω) (C2.1.range (i:=3) rR 0 4) (C2.1.range (i:=4) rR 0 4) (fun h_=>h_.elim (C2.1.offBlk (i:=3) (j:=6) rR rR dC rR) (C2.1.offRow (i:=3) (j:=5) rR rR dC rR)) (fun h_=>h_.elim (C2.1.offBlk (i:=4) (j:=6) rR rR dC rR) (C2.1.offRow (i:=4) (j:=5) rR rR dC rR)) S6.1.1 (by have h_:=S6.1.2;have B3:=u1.1;omega) (fun g_ hg_=>(S5.1 g_ hg_).dig U9.1)) ?_;rintro e Q0 ⟨rfl,B9⟩;unfold Yk at B9;obtain⟨H2,F7,D3,F4,F1,B3,C5,C4,F0,E9,E8,E7⟩:=B9;have N2:=zH F0;have G0:=zH (And.intro E9 E8);have N6:=zH E7;have f1:=zH C4;have f0:=zH C5;have i8:=zH (show Hp w Q0 [.blk X1 24 [iV a.1,iV a.2],.blk X6 24 [iV b.1,iV b.2],.blk C9 24 [iV a.1,iV a.2,iV b.1,iV b.2],.blk B2 31 (rc A5),.blk B1 31 (rc A0),ro 31 4 H2 D3 F7 Bd.cells F4,.blk A6 54 [.slice H2 D3 F7],.blk A8 84 [.func (.func 58) #[] #[.pointer (π B2),.pointer (π B1),.pointer (π A6)]],.blk H9 24 [iV p.1,iV p.2]]from C2.1.call2 (ib:=6) (ir:=5) (e:= .blk A6 54 [.slice A2 m2 c2]) (f:= .row 31 4 (.slice A2 m2 c2) (m2) (List.flatMap Bd.cells C0)) (e':= .blk A6 54 [.slice H2 D3 F7]) (f':= .row 31 4 (.slice H2 D3 F7) (D3) (List.flatMap Bd.cells F4)) (by rfl) (by rfl) (by decide) C5 (fun k_ hk_=>hk_.elim (fun h_=> .inl (by rw[h_];rfl)) .inr) F1 (fun k_ hk_=> .inl hk_) C4);have j6:=zH (show Ah L4 Q0 from B3);clear F1 B3 C4 F0 E9 E8 E7;have hx:=True.intro;have a2:=zH (Q8.1.trans (C5));clear hx;apply zm a2.1;refine wpAnyH_done kR ?_ _;go_upto_region 13 with fail
     apply wl;apply zp (iV ((k+1:Nat):Int)) (by exact Hr ω);apply zq (iV ((k+1:Nat):Int));have U8:=tD (tD (tD (tD (tD J5 J4) J3) J2) J1) j6;go_wp2_with fail
     go_roundg (r.length-(k+1))
     case measure=>exact(ω)
     case rel=>exact⟨k+1,D3,F4,H2,F7,rfl,(by go_num),P2,⟨G0.1.1,by have h_:=G0.1.2;have B3:=S6.1.2;omega⟩,(by rw[N2.1,S7.1,cJ u7.1,<-wN];rfl),(fun g_ hg_=>(N6.1 g_ hg_)),i8.1.take 8,U8.1⟩
    have P2:=HLU.1;have hku:=u9.1;obtain rfl:k=r.length:=ω
    go_upto_region 10 with fail;apply wl;apply zp φ (by exact Dp (e:=(Aj (Int.lt_irrefl _))));go_upto_region 14 with fail;apply wl;apply zp (iV ((i+1:Nat):Int)) (by exact Hr ω);apply zq (iV ((i+1:Nat):Int));have U7:=tD G8 J5;go_wp2_with fail
    go_roundg (rs.length-(i+1))
    case measure=>exact(ω)
    case rel=>exact⟨i+1,m2,C0,A2,c2,rfl,(by go_num),H4,⟨S6.1.1,by have h_:=S6.1.2;have B3:=Fo X2.1;omega⟩,(by rw[S7.1,xK,mN X2.1,wN]),(fun g_ hg_=>(S5.1 g_ hg_)),O7.1,U7.1⟩
   have H4:=HLT.1;have hki:=v1.1;obtain rfl:i=rs.length:=ω
   go_upto_region 7 with fail;apply wl;apply zp φ (by exact Dp (e:=(Aj (Int.lt_irrefl _))));go_upto_region 15 with fail;apply wl;apply Cd 85 [.slice none 0 0] I2.1;intro A7 Y5 i7 P1;have G2:=zH (show Hp w Y5 [.blk X1 24 [iV a.1,iV a.2],.blk X6 24 [iV b.1,iV b.2],.blk C9 24 [iV a.1,iV a.2,iV b.1,iV b.2],.blk B2 31 (rc A5),.blk B1 31 (rc A0),ro 31 4 A1 m c1 Bd.cells es,.blk A6 54 [.slice A1 m c1],.blk A8 84 [.func (.func 58) #[] #[.pointer (π B2),.pointer (π B1),.pointer (π A6)]],.blk A7 85 [.slice none 0 0],ro 92 4 none 0 0 Jb ([])]from i7.1.addNil 92 4);go_upto_region 16 with fail
   apply wl;refine Cy Af _ ?_;refine zc (Wm _ rs _ (HU.1.ext G2.1.ext) HN.1 HR.1) ?_;rintro e B5 ⟨Bx,ve,rfl,m4,s9,K9,hR,hx⟩;have v9:=zH m4;have v8:=zH s9;have v7:=zH K9;rw[if_pos HV.1]at hR;have u2:=zH hR;clear m4 K9 hR;have G1:=zH (G2.1.step hx);have P0:=zH (Ah.of_ext hx);clear hx;refine zn ?_;have hbo:=G2.1.lt (i:=6) (k:=A6) (by rfl) rfl;have hbe:=G2.1.lt (i:=8) (k:=A7) (by rfl) rfl;have m0:=fun k (hk:Value.ownBlock (.slice A1 m c1)=some k)=>G2.1.lt (i:=5) (k:=k) (by rfl) (by exact hk)
   have u3:=zH (show Gi (fun k=>¬(fun k=>k=A6\/k=A7\/Value.ownBlock (.slice A1 m c1)=some k\/B5.heap.size<=k) k) B5 ve rs from u2.1.imp (fun k h hk=>by rcases hk with rfl|rfl|hk|hk;omega;omega;have h2:=m0 k hk;omega;omega));have d3:=zH (show w.heap.size<=B5.heap.size from G1.1.ext.size);have s6:¬(fun k=>k=A6\/k=A7\/Value.ownBlock (.slice A1 m c1)=some k\/B5.heap.size<=k) Bx:=fun hk=>by have h1:=v9.1;have h9:=v8.1;rcases hk with hk|hk|hk|hk;omega;omega;have h2:=m0 _ hk;omega;omega
   have U6:=tD P1 P0;have U5:=tD (tD (tD G4 G8) P1) P0;have U4:=tD (tD (tD G3 G8) P1) P0;have S4:=zH (G1.1.lt (i:=0) (k:=X1) (by rfl) rfl);have S3:=zH (G1.1.lt (i:=1) (k:=X6) (by rfl) rfl);have S2:=zH (G1.1.lt (i:=2) (k:=C9) (by rfl) rfl);go_wp2_with fail
   refine wpIn_wide.1 (Tt (n:=4) ω (fun k=>k=A6\/k=A7\/Value.ownBlock (.slice A1 m c1)=some k\/B5.heap.size<=k) Bx ve rs rR v7.1 s6 u3.1 HN.1 HV.1 (fun k h=> .inr (.inr (.inr h))) (vW X1 X6 C9 B2 B1 A6 A8 A7 a b A5 A0 (es.map Bd.q) A1 m c1 w B5) (qH X1 X6 C9 B2 B1 A6 A8 A7 a b A5 A0 (es.map Bd.q) A1 m c1 w B5 d3.1) ⟨A1,m,c1,es,none,0,G1.1,Ah.refl _,fun k hk=> .inl hk,by simp[Value.ownBlock],by simp[iX],HM.1.1,by have h1:=HM.1.2;have h2:=Fe rs rs.length;have h3:=Fc HV.1;omega,(fun g_ hg_=>(m9.1 g_ hg_).dig U6.1),Bz _⟩ (vM X1 X6 A8 A7 B5) (qI X1 X6 A8 A7 B5) ?assign ?body ?done);case assign=>
    intro l pre x W K hi hK;obtain⟨A,n,c,C0,A2,c2,hh,hd,M4,M3,K7,K8,M1,D4,L8⟩:=hi;have N3:=zH L8;have H0:=zH hh;have HK:=zH hK;have HF:=zH (And.intro M4 (And.intro M3 (And.intro K7 (And.intro K8 M1))));have D8:=zH D4;have HD:=zH hd;clear L8 hh hK M4 M3 D4 K7 K8 M1 hd;unfold Iq;simp only[zA,zB,zC];refine wpIn_seq ?_;refine Ac kR (fun⟨_,_,h⟩=>h) ?_;apply aA 24 [iV 0,iV 0] H0.1;intro Q7 Y4 i6 hx B0;have R0:=zH (show W.heap.size<=Q7 from Aw (Fr.of_ext (G:=fun kz=>False) (Aa.refl W)).size B0);have W5:=zH (Ah.of_ext hx);have d2:=zH (show Fr (fun kz=>False) W Y4 from(Fr.of_ext (G:=fun kz=>False) (Aa.refl W)).trans (Fr.of_ext hx));clear hx B0;apply aS 10 [iV x.1.1.1,iV x.1.1.2] i6.1;intro r8 i5 hd ho;have W4:=zH (hd);have S1:=zH (d2.1.trans_new ho (fun j hj=> .inr (by injection hj with hj;rw[<-hj];exact R0.1)));clear hd ho;refine Ac kR (fun⟨_,_,h⟩=>h) ?_;apply aA 24 [iV 0,iV 0] i5.1;intro t5 r7 i4 hx B0;have Q9:=zH (Aw S1.1.size B0);have W3:=zH (Ah.of_ext hx);have d1:=zH (S1.1.trans (Fr.of_ext hx));clear hx B0;apply aS 11 [iV x.1.2.1,iV x.1.2.2] i4.1;intro r6 I1 hd ho;have W2:=zH (hd);have M8:=zH (d1.1.trans_new ho (fun j hj=> .inr (by injection hj with hj;rw[<-hj];exact Q9.1)));clear hd ho;refine HK.1 _ _ (KeepsFrom.of_fr M8.1 (fun _ h=>h.elim)) (M8.1.imp (fun _ h=>h.elim)) ⟨A,n,c,C0,A2,c2,I1.1.take 10,HD.1.trans (((W5.1.trans W4.1).trans W3.1).trans W2.1),HF.1.1,HF.1.2.1,HF.1.2.2.1,HF.1.2.2.2.1,HF.1.2.2.2.2,fun e he=>(D8.1 e he).dig (((W5.1.trans W4.1).trans W3.1).trans W2.1),Aw N3.1 M8.1.size⟩ (tJ (I1.1.blk (i:=10) rR) (I1.1.blk (i:=11) rR) ?_ (Aw N3.1 R0.1) (Aw N3.1 Q9.1) rR);exact fun e=>I1.1.apart 10 11 _ _ (by rfl) (by rfl) (by decide) Q7 (by rfl) (by rw[e];rfl)
   case body=>
    intro l pre x a' W hi s8 Z4;obtain⟨A,n,c,C0,A2,c2,hh,hd,M4,M3,K7,K8,M1,D4,L8⟩:=hi;obtain⟨J,Xp,Xq,m3,m1,l6,l7,Q5,rfl⟩:=s8;have N3:=zH L8;have HD:=zH hd;have n5:=zH M4;have n2:=zH M3;have d4:=zH K7;have d9:=zH K8;have d8:=zH M1;have D8:=zH D4;have P4:=zH x.2;have H0:=zH (show Hp w W [.blk X1 24 [iV a.1,iV a.2],.blk X6 24 [iV b.1,iV b.2],.blk C9 24 [iV a.1,iV a.2,iV b.1,iV b.2],.blk B2 31 (rc A5),.blk B1 31 (rc A0),ro 31 4 A n c Bd.cells C0,.blk A6 54 [.slice A n c],.blk A8 84 [.func (.func 58) #[] #[.pointer (π B2),.pointer (π B1),.pointer (π A6)]],.blk A7 85 [.slice A2 pre.length c2],ro 92 4 A2 pre.length c2 Jb (pre.map Subtype.val),.blk Xp 24 [iV x.1.1.1,iV x.1.1.2],.blk Xq 24 [iV x.1.2.1,iV x.1.2.2]]from hh.addTyp3 m3 m1 l6 d3.1 l7 Q5 (by simp[Ar]) (by simp[Ar]) (by simp only[List.forall_mem_cons,List.not_mem_nil,false_imp_iff,implies_true,and_true];exact⟨.inr (fun k hk=>by injection hk with hk;rw[<-hk];exact S4.1),.inr (fun k hk=>by injection hk with hk;rw[<-hk];exact S3.1),.inr (fun k hk=>by injection hk with hk;rw[<-hk];exact S2.1),.inl (by simp[Dl.typ]),.inl (by simp[Dl.typ]),.inl (by simp[Dl.typ]),.inl (by simp[Dl.typ]),.inl (by simp[Dl.typ]),.inl (by simp[Dl.typ]),.inl (by simp[Dl.typ])⟩));have A9:=zH Z4;obtain⟨o2,Q4⟩:∃o2,o2=Value.ownBlock (.slice A2 pre.length c2):=⟨_,rfl⟩;have d7:=zH Q4;clear Q4;have n0:=zH (a4.1.dig ((U5.1).trans HD.1));have n1:=zH (a3.1.dig ((U4.1).trans HD.1));have H5:=zH (show Fr (fun kz=>kz=A6\/kz=A7\/Value.ownBlock (.slice A n c)=some kz\/o2=some kz) W W from Fr.of_ext (Aa.refl W));clear hh hd M4 M3 K7 K8 M1 D4 L8 m3 m1 l6 l7 Q5;gi_upto_region 19 with fail
    refine Ac kR (fun⟨_,_,h⟩=>h) ?_;refine Ek H0.1 _ _ _ _ ?_;apply aL 2 3 [iV a.1,iV b.1] H0.1;intro D7 Y3 T0 hx B0;have J0:=zH (Ah.of_ext hx);have d0:=zH (H5.1.trans (Fr.of_ext hx));clear hx B0;refine Bq Af _ _ ?_;refine wpList_nil ?_;skip
    gi_wp2_with fail
    gi_loopg [83] (2) (fun cq Y8 wr=>∃(kx:Nat) (A3:Option Addr) (n3:Nat) (c3:Nat) (D5:List Bd),cq=2-kx/\Y8= iV (kx:Int)/\(kx<=2)/\(n3=D5.length/\n3<=n+kx)/\(D5.map Bd.q=(es.map Bd.q)++iX a b [] (pre.map Subtype.val)++fN a b x.1 kx)/\(∀e,e∈D5->e.Ok 24 wr)/\((∀k,Value.ownBlock (.slice A3 n3 c3)=some k->Value.ownBlock (.slice A n c)=some k\/W.heap.size<=k))/\(Fr (fun kz=>kz=A6\/kz=A7\/Value.ownBlock (.slice A n c)=some kz\/o2=some kz) W wr)/\Hp w wr [.blk X1 24 [iV a.1,iV a.2],.blk X6 24 [iV b.1,iV b.2],.blk C9 24 [iV a.1,iV a.2,iV b.1,iV b.2],.blk B2 31 (rc A5),.blk B1 31 (rc A0),.row 31 4 (.slice A3 n3 c3) (n3) (List.flatMap Bd.cells D5),.blk A6 54 [.slice A3 n3 c3],.blk A8 84 [.func (.func 58) #[] #[.pointer (π B2),.pointer (π B1),.pointer (π A6)]],.blk A7 85 [.slice A2 pre.length c2],.row 92 4 (.slice A2 pre.length c2) (pre.length) (List.flatMap Jb (pre.map Subtype.val)),.blk Xp 24 [iV x.1.1.1,iV x.1.1.2],.blk Xq 24 [iV x.1.2.1,iV x.1.2.2],.blk D7 3 [iV a.1,iV b.1]]/\Ah Y3 wr)
    case atStart=>exact⟨0,A,n,c,C0,rfl,rfl,ω,⟨d9.1,ω⟩,(by rw[d4.1];simp[fN]),(fun g_ hg_=>(D8.1 g_ hg_).dig J0.1),(fun k hk=> .inl hk),d0.1,T0.1,Ah.refl _⟩
    obtain⟨kx,A3,n3,c3,D5,rfl,rfl,K2,K0,E3,E0,J8,B8,E5,E6⟩:=hrel;generalize wr=Y2 at*;have u8:=zH K2;clear K2;have O0:=zH K0;clear K0;have O6:=zH E3;clear E3;have N8:=zH E0;clear E0;have X4:=zH J8;clear J8;have H5:=zH B8;clear B8;have B4:=zH E5;have G7:=zH E6;clear E5 E6 T0;rcases Ck (kx<2)with HKT|HKT
    ·obtain⟨xv,l1⟩:∃xv,xv=if kx=0 then a.1 else b.1:=⟨_,rfl⟩
     have X0:=zH l1;clear l1;have l3: -1048576<=xv/\xv<=1048576:=by rw[X0.1];split<;>omega
     have M9:=zH l3;clear l3;gi_upto_region 20 with fail
     refine Ac kR (fun⟨_,_,h⟩=>h) ?_;apply zp τ (by exact Dp (e:=(Aq (by have D0:=A9.1;have W9:=HKT.1;omega))));refine wpList_nil ?_;gi_upto_region 21 with fail
     refine Ac kR (fun⟨_,_,h⟩=>h) ?_;apply zp (.pointer (some ⟨D7,kx,none⟩)) (by exact Eh (k:=kx) underlying89 (l:=(by have h_:=HKT.1;omega)) (f:=(show kx=0+kx*1 by omega)));refine ze D7 kx (iV xv) (by rw[X0.1];exact lV B4.1 (i:=12) rR kx HKT.1) ?_;apply zq (iV xv);refine wpList_nil ?_;rcases Ck (Ru x.1.1 x.1.2 xv)with HYC|HYC
     ·gi_upto_region 22 with fail
      refine Ac kR (fun⟨_,_,h⟩=>h) ?_;refine zd Xp (0) [iV x.1.1.1,iV x.1.1.2] (B4.1.range (i:=10) rR 0 2) underlying24 ?_;refine zd Xq (0) [iV x.1.2.1,iV x.1.2.2] (B4.1.range (i:=11) rR 0 2) underlying24 ?_;apply qV (iV xv);refine zc (((dS x.1.1 x.1.2 xv _ (by have h_:=M9.1;omega)).mono (fun _ _ h_=>Le.yes h_ HYC.1))) ?_;rintro e r5 ⟨L6,rfl,C8,hx⟩;have i3:=zH (B4.1.step hx);have O9:=zH (Ah.of_ext hx);have S0:=zH (H5.1.trans (Fr.of_ext hx));have a5:=zH C8;have j8:=zH (cF (x:=xv) HYC.1.1 HYC.1.2.1 M9.1);clear C8 hx;refine zn ?_;refine Cn Af _ _ τ ?_;refine aA 31 rz i3.1 ?_;intro a0 r4 i1 hx B0;have b3:=zH (Aw S0.1.size B0);have I9:=zH (Ah.of_ext hx);have c9:=zH (S0.1.trans (Fr.of_ext hx));clear hx B0;apply aS 13 (rc L6) i1.1;intro Y1 B7 hd ho;have I8:=zH (hd);have R9:=zH (c9.1.trans_new ho (fun j hj=> .inr (by injection hj with hj;rw[<-hj];exact b3.1)));clear hd ho;apply zq τ;refine wpList_nil ?_;gi_upto_region 23 with fail
      refine Ac kR (fun⟨_,_,h⟩=>h) ?_;apply zq τ;refine wpList_nil ?_;gi_upto_region 24 with fail
      refine Ac kR (fun⟨_,_,h⟩=>h) ?_;refine Bq B7.1 _ _ ?_;have U3:=tD I9 I8;have L2:=tD (tD (tD (tD J0 G7) O9) I9) I8;have U2:=tD (tD O9 I9) I8;refine zc (Xo 24 dC L6 A5 A0 (Mu x.1.1 x.1.2 xv) (((a.2):Int):Rat) (((b.2):Int):Rat) B2 B1 A6 A3 n3 c3 D5 w _ (B7.1.pick2 (ib:=6) (ir:=5) rR rR dC) (a5.1.dig U3.1) (Aw j8.1 ω) (n0.1.dig L2.1) (n1.1.dig L2.1) (Aw X8.1 ω) (Aw X7.1 ω) (B7.1.range (i:=3) rR 0 4) (B7.1.range (i:=4) rR 0 4) (fun h_=>h_.elim (B7.1.offBlk (i:=3) (j:=6) rR rR dC rR) (B7.1.offRow (i:=3) (j:=5) rR rR dC rR)) (fun h_=>h_.elim (B7.1.offBlk (i:=4) (j:=6) rR rR dC rR) (B7.1.offRow (i:=4) (j:=5) rR rR dC rR)) O0.1.1 (by have h_:=O0.1.2;have B3:=d8.1;have C5:=A9.1;have C4:=HKT.1;omega) (fun g_ hg_=>(N8.1 g_ hg_).dig U2.1)) ?_;rintro e P9 ⟨rfl,B9⟩;unfold Yk at B9;obtain⟨H1,F6,D2,F3,F1,B3,C5,C4,F0,E9,E8,E7⟩:=B9;have N1:=zH F0;have F9:=zH (And.intro E9 E8);have N5:=zH E7;have O4:=zH C4;have O2:=zH C5;have i0:=zH (show Hp w P9 [.blk X1 24 [iV a.1,iV a.2],.blk X6 24 [iV b.1,iV b.2],.blk C9 24 [iV a.1,iV a.2,iV b.1,iV b.2],.blk B2 31 (rc A5),.blk B1 31 (rc A0),ro 31 4 H1 D2 F6 Bd.cells F3,.blk A6 54 [.slice H1 D2 F6],.blk A8 84 [.func (.func 58) #[] #[.pointer (π B2),.pointer (π B1),.pointer (π A6)]],.blk A7 85 [.slice A2 pre.length c2],ro 92 4 A2 pre.length c2 Jb (pre.map Subtype.val),.blk Xp 24 [iV x.1.1.1,iV x.1.1.2],.blk Xq 24 [iV x.1.2.1,iV x.1.2.2],.blk D7 3 [iV a.1,iV b.1],.blk a0 31 (rc L6)]from B7.1.call2 (ib:=6) (ir:=5) (e:= .blk A6 54 [.slice A3 n3 c3]) (f:= .row 31 4 (.slice A3 n3 c3) (n3) (List.flatMap Bd.cells D5)) (e':= .blk A6 54 [.slice H1 D2 F6]) (f':= .row 31 4 (.slice H1 D2 F6) (D2) (List.flatMap Bd.cells F3)) (by rfl) (by rfl) (by decide) C5 (fun k_ hk_=>hk_.elim (fun h_=> .inl (by rw[h_];rfl)) .inr) F1 (fun k_ hk_=> .inl hk_) C4);have j5:=zH (show Ah Y1 P9 from B3);have c8:=zH (R9.1.trans_fr O2.1 (fun k hk=>hk.elim (fun h=> .inl (.inl h)) (fun hk=>(X4.1 k hk).elim (fun h=> .inl (.inr (.inr (.inl h)))) .inr)));clear F1 B3 C4 F0 E9 E8 E7;have hx:=True.intro;clear hx;refine zn ?_;refine wpList_nil ?_;gi_upto_region 25 with fail
      refine Ac kR (fun⟨_,_,h⟩=>h) ?_;apply zp (iV ((kx+1:Nat):Int)) (by exact Hr (by have D0:=A9.1;have W9:=HKT.1;have Z2:=M9.1;omega));apply zq (iV ((kx+1:Nat):Int));refine wpList_nil ?_;have U1:=tD (tD (tD (tD G7 O9) I9) I8) j5;gi_wp2_with fail
      go_roundg (2-(kx+1))
      case measure=>exact(by have D0:=A9.1;have W9:=HKT.1;have Z2:=M9.1;have s2:=(show kx<2 from HKT.1);omega)
      case rel=>exact⟨kx+1,H1,D2,F6,F3,rfl,(by go_num),(by have h_:=HKT.1;omega),⟨F9.1.1,by have h_:=F9.1.2;have B3:=O0.1.2;omega⟩,(by rw[N1.1,O6.1,Ur _ _ _ _ HKT.1,<-X0.1,jM HYC.1,wN];simp[bF]),(fun g_ hg_=>(N5.1 g_ hg_)),(fun k_ hk_=>(O4.1 k_ hk_).elim (fun h_=>X4.1 k_ h_) (fun h_=> .inr (Aw R9.1.size h_))),c8.1,i0.1.take 13,U1.1⟩
     gi_upto_region 22 with fail
     refine Ac kR (fun⟨_,_,h⟩=>h) ?_;refine zd Xp (0) [iV x.1.1.1,iV x.1.1.2] (B4.1.range (i:=10) rR 0 2) underlying24 ?_;refine zd Xq (0) [iV x.1.2.1,iV x.1.2.2] (B4.1.range (i:=11) rR 0 2) underlying24 ?_;apply qV (iV xv);refine zc (((dS x.1.1 x.1.2 xv _ (by have h_:=M9.1;omega)).mono (fun _ _ h_=>Le.no h_ HYC.1))) ?_;rintro e r3 ⟨rfl,hx⟩;have g9:=zH (B4.1.step hx);have W1:=zH (Ah.of_ext hx);have R8:=zH (H5.1.trans (Fr.of_ext hx));clear hx;refine zn ?_;refine Cn Af _ _ φ ?_;refine aA 31 rz g9.1 ?_;intro t3 r2 g8 hx B0;have b2:=zH (Aw R8.1.size B0);have W0:=zH (Ah.of_ext hx);have c7:=zH (R8.1.trans (Fr.of_ext hx));clear hx B0;refine aS 13 rz g8.1 ?_;intro r1 g7 hd ho;have V9:=zH (hd);have c6:=zH (c7.1.trans_new ho (fun j hj=> .inr (by injection hj with hj;rw[<-hj];exact b2.1)));clear hd ho;apply zq φ;refine wpList_nil ?_;gi_upto_region 23 with fail
     refine Ac kR (fun⟨_,_,h⟩=>h) ?_;apply zq φ;refine wpList_nil ?_;gi_upto_region 25 with fail
     refine Ac kR (fun⟨_,_,h⟩=>h) ?_;apply zp (iV ((kx+1:Nat):Int)) (by exact Hr (by have D0:=A9.1;have W9:=HKT.1;have Z2:=M9.1;omega));apply zq (iV ((kx+1:Nat):Int));refine wpList_nil ?_;have U0:=tD (tD W1 W0) V9;have T9:=tD (tD (tD G7 W1) W0) V9;gi_wp2_with fail
     go_roundg (2-(kx+1))
     case measure=>exact(by have D0:=A9.1;have W9:=HKT.1;have Z2:=M9.1;have s2:=(show kx<2 from HKT.1);omega)
     case rel=>exact⟨kx+1,A3,n3,c3,D5,rfl,(by go_num),(by have h_:=HKT.1;omega),⟨O0.1.1,by have h_:=O0.1.2;omega⟩,(by rw[O6.1,Ur _ _ _ _ HKT.1,<-X0.1,nT HYC.1];simp),(fun g_ hg_=>(N8.1 g_ hg_).dig U0.1),X4.1,c6.1,g7.1.take 13,T9.1⟩
    obtain rfl:kx=2:=by have h_:=u8.1;have B3:=HKT.1;omega
    gi_upto_region 20 with fail
    refine Ac kR (fun⟨_,_,h⟩=>h) ?_;apply zp φ (by exact Dp (e:=(Aj dC)));refine wpList_nil ?_;gi_upto_region 26 with fail
    refine Ac kR (fun⟨_,_,h⟩=>h) ?_;refine Cn B4.1 _ (iV ((pre.length:Nat):Int)) _ ?_;refine wpList_nil ?_;skip
    gi_wp2_with fail
    gi_loopg [101] (pre.length) (fun cq Y7 wr=>∃(i2:Nat) (A4:Option Addr) (n4:Nat) (c4:Nat) (H7:List Bd),cq=pre.length-i2/\Y7= iV (i2:Int)/\(i2<=pre.length)/\(n4=H7.length/\n4<=n+2+i2)/\(H7.map Bd.q=(es.map Bd.q)++iX a b [] (pre.map Subtype.val)++((Mv x.1 a.1).flatMap (bF a.2 b.2)++(Mv x.1 b.1).flatMap (bF a.2 b.2))++((pre.map Subtype.val).take i2).flatMap (fun o=>(Km o x.1).flatMap (bF a.2 b.2)))/\(∀e,e∈H7->e.Ok 24 wr)/\((∀k,Value.ownBlock (.slice A4 n4 c4)=some k->Value.ownBlock (.slice A n c)=some k\/W.heap.size<=k))/\(Fr (fun kz=>kz=A6\/kz=A7\/Value.ownBlock (.slice A n c)=some kz\/o2=some kz) W wr)/\Hp w wr [.blk X1 24 [iV a.1,iV a.2],.blk X6 24 [iV b.1,iV b.2],.blk C9 24 [iV a.1,iV a.2,iV b.1,iV b.2],.blk B2 31 (rc A5),.blk B1 31 (rc A0),.row 31 4 (.slice A4 n4 c4) (n4) (List.flatMap Bd.cells H7),.blk A6 54 [.slice A4 n4 c4],.blk A8 84 [.func (.func 58) #[] #[.pointer (π B2),.pointer (π B1),.pointer (π A6)]],.blk A7 85 [.slice A2 pre.length c2],.row 92 4 (.slice A2 pre.length c2) (pre.length) (List.flatMap Jb (pre.map Subtype.val)),.blk Xp 24 [iV x.1.1.1,iV x.1.1.2],.blk Xq 24 [iV x.1.2.1,iV x.1.2.2],.blk D7 3 [iV a.1,iV b.1]]/\Ah Y2 wr)
    case atStart=>exact⟨0,A3,n3,c3,D5,rfl,rfl,wM _,⟨O0.1.1,O0.1.2⟩,(by rw[O6.1];simp[fN]),(fun g_ hg_=>(N8.1 g_ hg_)),X4.1,H5.1,B4.1,Ah.refl _⟩
    obtain⟨i2,A4,n4,c4,H7,rfl,rfl,K5,J9,E2,D9,J7,B8,E5,E6⟩:=hrel;generalize wr=P8 at*;have v2:=zH K5;clear K5;have N9:=zH J9;clear J9;have O5:=zH E2;clear E2;have N7:=zH D9;clear D9;have X3:=zH J7;clear J7;have H5:=zH B8;clear B8;have C6:=zH E5;have I7:=zH E6;clear E5 E6 B4;rcases Ck (i2<pre.length)with HLT4|HLT4
    ·have H4:=HLT4.1
     obtain⟨o,l5⟩:∃o,pre[i2]?=some o:=⟨_,wC H4⟩;have P5:=zH o.2;have m7:=zH (show(pre.map Subtype.val)[i2]?=some o.1 by rw[xJ,l5];rfl);skip
     have m6:=zH (show(pre.map Subtype.val).take (i2+1)=(pre.map Subtype.val).take i2++[o.1]by rw[List.take_add_one,m7.1];rfl);clear l5;obtain⟨ge,Z5⟩:=Bi.form (C6.1.row (i:=9) (by rfl)) |>.elim (fun A_ h_=>h_.elim (fun c_ B3=>(show∃ge,A2=some ⟨ge,0,none⟩from by obtain⟨e_,C5⟩:=B3;injection e_ with e1_ e2_ e3_;subst e1_;exact C5 ω)));subst Z5;gi_upto_region 27 with fail
     refine Ac kR (fun⟨_,_,h⟩=>h) ?_;apply zp τ (by exact Dp (e:=(Aq (by have D0:=A9.1;omega))));refine wpList_nil ?_;gi_upto_region 28 with fail
     refine Ac kR (fun⟨_,_,h⟩=>h) ?_;apply zp (.pointer (some ⟨ge,i2*4,none⟩)) (by exact Eh (k:=i2) underlying85 (l:=H4) (f:=(wH _).symm));refine zd ge (i2*4) [iV o.1.1.1,iV o.1.1.2,iV o.1.2.1,iV o.1.2.2] (C6.1.elem (f:=Jb) (i:=9) rR Hb m7.1) underlying92 ?_;apply aA 92 [iV 0,iV 0,iV 0,iV 0] C6.1;intro D6 r0 g6 hx B0;have b1:=zH (show W.heap.size<=D6 from Aw H5.1.size B0);have G6:=zH (Ah.of_ext hx);have c5:=zH (H5.1.trans (Fr.of_ext hx));clear hx B0;apply aS 13 [iV o.1.1.1,iV o.1.1.2,iV o.1.2.1,iV o.1.2.2] g6.1;intro q9 C1 hd ho;have G5:=zH (hd);have R7:=zH (c5.1.trans_new ho (fun j hj=> .inr (by injection hj with hj;rw[<-hj];exact b1.1)));clear hd ho;refine wpList_nil ?_;rcases Ck (Db o.1.1 o.1.2 x.1.1 x.1.2=1)with HSG|HSG
     ·gi_upto_region 29 with fail
      refine Ac kR (fun⟨_,_,h⟩=>h) ?_;refine Cy Af _ ?_;refine zd D6 (0) [iV o.1.1.1,iV o.1.1.2] (C1.1.range (i:=13) rR 0 2) underlying24 ?_;refine Cy Af _ ?_;refine zd D6 (2) [iV o.1.2.1,iV o.1.2.2] (C1.1.range (i:=13) rR 2 2) underlying24 ?_;refine Bq C1.1 _ _ ?_;refine zc (((Oi o.1.1 o.1.2 x.1.1 x.1.2 _ P5.1.1 P5.1.2 P4.1.1 P4.1.2).mono (fun _ _ h_=>Iz.yes h_ HSG.1))) ?_;rintro e q8 ⟨Q2,L5,rfl,C8,l4,hx⟩;have g5:=zH (C1.1.step hx);have O8:=zH (Ah.of_ext hx);have R6:=zH (R7.1.trans (Fr.of_ext hx));have t9:=zH C8;have a1:=zH l4;have j7:=zH (Zh P5.1.1 P5.1.2 P4.1.1 P4.1.2).2;clear C8 l4 hx;refine zn ?_;refine Ek Af _ _ _ _ ?_;refine aA 31 rz g5.1 ?_;intro Z9 q7 g4 hx B0;have b0:=zH (Aw R6.1.size B0);have I6:=zH (Ah.of_ext hx);have R5:=zH (R6.1.trans (Fr.of_ext hx));clear hx B0;refine aA 31 rz g4.1 ?_;intro Z8 q6 g3 hx B0;have a9:=zH (Aw R5.1.size B0);have I5:=zH (Ah.of_ext hx);have c0:=zH (R5.1.trans (Fr.of_ext hx));clear hx B0;apply aS 14 (rc Q2) g3.1;intro q5 g2 hd ho;have I4:=zH (hd);have b9:=zH (c0.1.trans_new ho (fun j hj=> .inr (by injection hj with hj;rw[<-hj];exact b0.1)));clear hd ho;apply aS 15 (rc L5) g2.1;intro Y0 B6 hd ho;have I3:=zH (hd);have R3:=zH (b9.1.trans_new ho (fun j hj=> .inr (by injection hj with hj;rw[<-hj];exact a9.1)));clear hd ho;apply zq (iV 1);refine wpList_nil ?_;gi_upto_region 30 with fail
      refine Ac kR (fun⟨_,_,h⟩=>h) ?_;apply zq (iV 1);apply zp τ (by exact Kf (e:=(Aq rfl)));refine wpList_nil ?_;gi_upto_region 31 with fail
      refine Ac kR (fun⟨_,_,h⟩=>h) ?_;refine Bq B6.1 _ _ ?_;have T8:=tD (tD (tD I6 I5) I4) I3;have L1:=tD (tD (tD (tD (tD (tD (tD (tD (tD J0 G7) I7) G6) G5) O8) I6) I5) I4) I3;have T7:=tD (tD (tD (tD (tD (tD G6 G5) O8) I6) I5) I4) I3;refine zc (Xo 24 dC L5 A5 A0 (Jm o.1.1 o.1.2 x.1.1 x.1.2) (((a.2):Int):Rat) (((b.2):Int):Rat) B2 B1 A6 A4 n4 c4 H7 w _ (B6.1.pick2 (ib:=6) (ir:=5) rR rR dC) (a1.1.dig T8.1) (Aw j7.1 ω) (n0.1.dig L1.1) (n1.1.dig L1.1) (Aw X8.1 ω) (Aw X7.1 ω) (B6.1.range (i:=3) rR 0 4) (B6.1.range (i:=4) rR 0 4) (fun h_=>h_.elim (B6.1.offBlk (i:=3) (j:=6) rR rR dC rR) (B6.1.offRow (i:=3) (j:=5) rR rR dC rR)) (fun h_=>h_.elim (B6.1.offBlk (i:=4) (j:=6) rR rR dC rR) (B6.1.offRow (i:=4) (j:=5) rR rR dC rR)) N9.1.1 (by have h_:=N9.1.2;have B3:=d8.1;have C5:=A9.1;omega) (fun g_ hg_=>(N7.1 g_ hg_).dig T7.1)) ?_;rintro e P7 ⟨rfl,B9⟩;unfold Yk at B9;obtain⟨G9,F5,D1,F2,F1,B3,C5,C4,F0,E9,E8,E7⟩:=B9;have N0:=zH F0;have F8:=zH (And.intro E9 E8);have N4:=zH E7;have O3:=zH C4;have O1:=zH C5;have g1:=zH (show Hp w P7 [.blk X1 24 [iV a.1,iV a.2],.blk X6 24 [iV b.1,iV b.2],.blk C9 24 [iV a.1,iV a.2,iV b.1,iV b.2],.blk B2 31 (rc A5),.blk B1 31 (rc A0),ro 31 4 G9 D1 F5 Bd.cells F2,.blk A6 54 [.slice G9 D1 F5],.blk A8 84 [.func (.func 58) #[] #[.pointer (π B2),.pointer (π B1),.pointer (π A6)]],.blk A7 85 [.slice (π ge) pre.length c2],ro 92 4 (π ge) pre.length c2 Jb (pre.map Subtype.val),.blk Xp 24 [iV x.1.1.1,iV x.1.1.2],.blk Xq 24 [iV x.1.2.1,iV x.1.2.2],.blk D7 3 [iV a.1,iV b.1],.blk D6 92 [iV o.1.1.1,iV o.1.1.2,iV o.1.2.1,iV o.1.2.2],.blk Z9 31 (rc Q2),.blk Z8 31 (rc L5)]from B6.1.call2 (ib:=6) (ir:=5) (e:= .blk A6 54 [.slice A4 n4 c4]) (f:= .row 31 4 (.slice A4 n4 c4) (n4) (List.flatMap Bd.cells H7)) (e':= .blk A6 54 [.slice G9 D1 F5]) (f':= .row 31 4 (.slice G9 D1 F5) (D1) (List.flatMap Bd.cells F2)) (by rfl) (by rfl) (by decide) C5 (fun k_ hk_=>hk_.elim (fun h_=> .inl (by rw[h_];rfl)) .inr) F1 (fun k_ hk_=> .inl hk_) C4);have j4:=zH (show Ah Y0 P7 from B3);have b8:=zH (R3.1.trans_fr O1.1 (fun k hk=>hk.elim (fun h=> .inl (.inl h)) (fun hk=>(X3.1 k hk).elim (fun h=> .inl (.inr (.inr (.inl h)))) .inr)));clear F1 B3 C4 F0 E9 E8 E7;have hx:=True.intro;clear hx;refine zn ?_;refine wpList_nil ?_;gi_upto_region 32 with fail
      refine Ac kR (fun⟨_,_,h⟩=>h) ?_;apply zp (iV ((i2+1:Nat):Int)) (by exact Hr (by have D0:=A9.1;omega));apply zq (iV ((i2+1:Nat):Int));refine wpList_nil ?_;have T6:=tD (tD (tD (tD (tD (tD (tD (tD I7 G6) G5) O8) I6) I5) I4) I3) j4;gi_wp2_with fail
      go_roundg (pre.length-(i2+1))
      case measure=>exact(by have D0:=A9.1;omega)
      case rel=>exact⟨i2+1,G9,D1,F5,F2,rfl,(by go_num),H4,⟨F8.1.1,by have h_:=F8.1.2;have B3:=N9.1.2;omega⟩,(by rw[N0.1,O5.1,m6.1,List.flatMap_append,<-wN];simp[kH HSG.1,bF]),(fun g_ hg_=>(N4.1 g_ hg_)),(fun k_ hk_=>(O3.1 k_ hk_).elim (fun h_=>X3.1 k_ h_) (fun h_=> .inr (Aw R3.1.size h_))),b8.1,g1.1.take 13,T6.1⟩
     gi_upto_region 29 with fail
     refine Ac kR (fun⟨_,_,h⟩=>h) ?_;refine Cy Af _ ?_;refine zd D6 (0) [iV o.1.1.1,iV o.1.1.2] (C1.1.range (i:=13) rR 0 2) underlying24 ?_;refine Cy Af _ ?_;refine zd D6 (2) [iV o.1.2.1,iV o.1.2.2] (C1.1.range (i:=13) rR 2 2) underlying24 ?_;refine Bq C1.1 _ _ ?_;refine zc (((Oi o.1.1 o.1.2 x.1.1 x.1.2 _ P5.1.1 P5.1.2 P4.1.1 P4.1.2).mono (fun _ _ h_=>Iz.no h_ HSG.1))) ?_;rintro e q4 ⟨rfl,hx⟩;have g0:=zH (C1.1.step hx);have V8:=zH (Ah.of_ext hx);have R2:=zH (R7.1.trans (Fr.of_ext hx));clear hx;refine zn ?_;refine Ek Af _ _ _ (iV (Db o.1.1 o.1.2 x.1.1 x.1.2)) ?_;refine aA 31 rz g0.1 ?_;intro t2 q3 f9 hx B0;have a8:=zH (Aw R2.1.size B0);have V7:=zH (Ah.of_ext hx);have R1:=zH (R2.1.trans (Fr.of_ext hx));clear hx B0;refine aA 31 rz f9.1 ?_;intro t1 q2 f8 hx B0;have a7:=zH (Aw R1.1.size B0);have V6:=zH (Ah.of_ext hx);have b7:=zH (R1.1.trans (Fr.of_ext hx));clear hx B0;refine aS 14 rz f8.1 ?_;intro q1 f7 hd ho;have V5:=zH (hd);have b6:=zH (b7.1.trans_new ho (fun j hj=> .inr (by injection hj with hj;rw[<-hj];exact a8.1)));clear hd ho;refine aS 15 rz f7.1 ?_;intro q0 f6 hd ho;have V4:=zH (hd);have b5:=zH (b6.1.trans_new ho (fun j hj=> .inr (by injection hj with hj;rw[<-hj];exact a7.1)));clear hd ho;apply zq (iV (Db o.1.1 o.1.2 x.1.1 x.1.2));refine wpList_nil ?_;gi_upto_region 30 with fail
     refine Ac kR (fun⟨_,_,h⟩=>h) ?_;apply zq (iV (Db o.1.1 o.1.2 x.1.1 x.1.2));apply zp φ (by exact Kf (e:=(Aj HSG.1)));refine wpList_nil ?_;gi_upto_region 32 with fail
     refine Ac kR (fun⟨_,_,h⟩=>h) ?_;apply zp (iV ((i2+1:Nat):Int)) (by exact Hr (by have D0:=A9.1;omega));apply zq (iV ((i2+1:Nat):Int));refine wpList_nil ?_;have T5:=tD (tD (tD (tD (tD (tD G6 G5) V8) V7) V6) V5) V4;have T4:=tD (tD (tD (tD (tD (tD (tD I7 G6) G5) V8) V7) V6) V5) V4;gi_wp2_with fail
     go_roundg (pre.length-(i2+1))
     case measure=>exact(by have D0:=A9.1;omega)
     case rel=>exact⟨i2+1,A4,n4,c4,H7,rfl,(by go_num),H4,⟨N9.1.1,by have h_:=N9.1.2;omega⟩,(by rw[O5.1,m6.1,List.flatMap_append];simp[oI HSG.1]),(fun g_ hg_=>(N7.1 g_ hg_).dig T5.1),X3.1,b5.1,f6.1.take 13,T4.1⟩
    have H4:=HLT4.1;have hi4:=v2.1;obtain rfl:i2=pre.length:=ω
    gi_upto_region 27 with fail
    refine Ac kR (fun⟨_,_,h⟩=>h) ?_;apply zp φ (by exact Dp (e:=(Aj (Int.lt_irrefl _))));refine wpList_nil ?_;gi_upto_region 33 with fail
    refine Ac kR (fun⟨_,_,h⟩=>h) ?_;refine Cy C6.1 _ ?_;refine zd Xp (0) [iV x.1.1.1,iV x.1.1.2] (C6.1.range (i:=10) rR 0 2) underlying24 ?_;refine zd Xq (0) [iV x.1.2.1,iV x.1.2.2] (C6.1.range (i:=11) rR 0 2) underlying24 ?_;refine Cy Af _ ?_;refine zp (w':=(P8.alloc (.cells ([iV x.1.1.1,iV x.1.1.2,iV x.1.2.1,iV x.1.2.2]:List Value).toArray 92))) (.slice (π P8.heap.size) 1 1) (by go_simp) ?_;refine Hn rR _ _ _ rR uI rR C6.1 (ix:=9) rR 1 1 [iV x.1.1.1,iV x.1.1.2,iV x.1.2.1,iV x.1.2.2] rR rfl (by simp[Value.oneCell']) (by simp[Ar]) dC (by unfold maxLen;exact(by have D0:=A9.1;omega)) (by have D0:=A9.1;omega) ?_;intro M6 L0 X9 hf hh hd hg;have T2:=zH hf;clear hf;rw[show List.flatMap Jb (pre.map Subtype.val)++[iV x.1.1.1,iV x.1.1.2,iV x.1.2.1,iV x.1.2.2]=_ from Ds Jb _ x.1]at hh;have f5:=hN hh;have V3:=zH (hd);have b4:=zH (show Fr (fun kz=>kz=A6\/kz=A7\/Value.ownBlock (.slice A n c)=some kz\/o2=some kz) W X9 from(H5.1.trans (Fr.of_ext (Ak.alloc _))).trans_new hg (fun j hj=> .inl (.inr (.inr (.inr (d7.1.trans hj))))));clear hh hd hg;try simp only[ζ]
    apply aU 8 (.slice (π M6) (pre.length+1) L0) f5.1;intro p9 f4 hd ho;have V2:=zH (hd);have M7:=zH (b4.1.trans_new ho (fun j hj=> .inl (.inr (.inl (by injection hj with hj;exact hj.symm)))));clear hd ho;refine wpList_nil ?_;have T3:=tD V3 V2;gi_wp2
    exact⟨(KeepsFrom.of_fr M7.1 (fun k hk o ho=>hk.elim (fun e=>H0.1.cells (i:=6) (by rfl) (by rw[e];rfl) o ho) (fun hk=>hk.elim (fun e=>H0.1.cells (i:=8) (by rfl) (by rw[e];rfl) o ho) (fun hk=>hk.elim (fun e=>H0.1.cells (i:=5) (by rfl) (by exact e) o ho) (fun e=>H0.1.cells (i:=9) (by rfl) (by exact d7.1.symm.trans e) o ho))))),(M7.1.imp (fun k hk=>hk.elim .inl (fun hk=>hk.elim (fun e=> .inr (.inl e)) (fun hk=>hk.elim (fun e=>(n5.1 k e).elim (fun h=> .inr (.inr (.inl h))) (fun h=> .inr (.inr (.inr h)))) (fun e=> .inr (.inr (.inr (n2.1 k (d7.1.symm.trans e))))))))),A4,n4,c4,H7,some ⟨M6,0,none⟩,L0,(by have h_:=f4.1.take 10;rw[show pre.length+1=(pre++[x]).length by simp,show List.map Subtype.val pre++[x.1]=(pre++[x]).map Subtype.val by simp]at h_;exact h_),HD.1.trans ((((J0.1.trans G7.1).trans I7.1).trans V3.1).trans V2.1),(fun k hk=>(X3.1 k hk).elim (fun h=>n5.1 k h) (fun h=> .inr (Aw N3.1 h))),(fun k hk=>by have e_:M6=k:=(by simpa[Value.ownBlock]using hk);subst e_;exact T2.1.elim (fun q=>n2.1 _ q) (fun q=>Aw N3.1 (Aw H5.1.size q))),(by rw[O5.1,wI (by simp),xI,List.map_cons,List.map_nil,aV,wT];simp[Tp]),N9.1.1,(by have h_:=N9.1.2;have B3:=d8.1;have C5:=A9.1;simp;omega),(fun g_ hg_=>(N7.1 g_ hg_).dig T3.1),Aw N3.1 M7.1.size⟩
   rintro D xs W hD Z3 ⟨A,n,c,C0,A2,c2,hh,hd,M4,M3,K7,K8,M1,D4,L8⟩ hK;have H0:=zH hh;have d4:=zH K7;have d9:=zH K8;have D8:=zH D4;have u0:=zH Z3;have HD:=zH hK;have v5:=zH hD;have s5:C0.length<=90000000:=by have h1:xs.length=(Cc rs).length:=(by rw[<-Z3,wU]);have h2:=Es rs;have h3:=Fc HV.1;omega
   clear hh hd M4 M3 K7 K8 M1 D4 L8 Z3 hK hD;go_upto_region 34 with fail;apply wl;refine Cy H0.1 _ ?_;refine zc (cH 24 dC (.slice A n c) C0 _ _ (by have h_:=H0.1.row (i:=5) rR;rw[<-d9.1];exact h_) H0.1.ext.size D8.1 ω) ?_;rintro e L3 ⟨v3,D5,rfl,B3,M2,C4,F0,E9,E8,E7⟩;have v4:=zH M2;have d5:=zH (And.intro E9 (And.intro E8 E7));have v6:=zH C4;have HS:=zH (H0.1.turn (i:=5) (e:= .row 31 4 (.slice A n c) (n) (List.flatMap Bd.cells C0)) (e':= .row 31 4 v3 D5.length (D5.flatMap Bd.cells)) (by rfl) (fun k h=>h) M2 B3 (fun k hk=> .inl (by have h_:v3.ownBlock=some k:=hk;rw[F0]at h_;exact h_)));clear B3 M2 C4 F0 E9 E8 E7;have hx:=True.intro;clear hx;refine zn ?_;refine zq (v3) ?_;go_wp2_with fail
   have Z6:L3.heap[D]?=some (.deferred (some [])):=(v4.1.block D (Array.getElem?_eq_some_iff.1 HD.1).1 (fun e=>by have h1:=H0.1.cells (i:=5) (by rfl) (by exact e.symm) _ HD.1;cases h1)).trans HD.1;refine⟨by simp,.inl ⟨_,_,rfl,run_takeDeferred Z6,?_⟩⟩;have Q6:=HS.1.keptQ (grownBy_putObj' L3 D (.deferred none)) (fun k hk=>by injection hk with hk;subst hk;exact⟨Aw d3.1 v5.1,_,Z6,rfl⟩);have s7:=v6.1.trans (Ah.keptQ (grownBy_putObj' L3 D (.deferred none)) (fun k hk=>by injection hk with hk;subst hk;exact⟨_,Z6,rfl⟩));refine⟨_,results_tmp rfl _ _ _,v3,D5,rfl,Q6.row (i:=5) rR,d5.1.1,fun q=>(d5.1.2.1 q).trans ?_,fun e he=>(D8.1 e (d5.1.2.2 e he)).dig s7,Q6.ext⟩;rw[d4.1,n6.1,u0.1,xK];unfold tI;rw[if_pos ⟨HV.1,m8.1.1,m8.1.2,by have h_:=HLE.1;omega⟩]
  have I0:=zH (Bool.eq_false_iff.2 HB.1);go_upto_region 1 with fail;apply wl;refine Cy Af _ ?_;refine zc (Du _ rs _ (HU.1.ext H8.1.ext) HN.1 HR.1) ?_;rintro e p8 ⟨rfl,hx⟩;have S9:=zH (H8.1.step hx);clear hx;refine⟨.bool true,by rw[HV.1],?_⟩;try simp only[ζ]
  refine Ek S9.1 φ φ _ _ ?_;apply fL 2 24 [iV a.1,iV a.2,iV b.1,iV b.2] S9.1;intro Z7 p7 S8 _;refine zc (Hv (.slice (π Z7) 2 2) [a,b] _ (Jd S8.1 (i:=2) rR) (by simp)) ?_;rintro e p6 ⟨rfl,hx⟩;have f3:=zH (S8.1.step hx);clear hx;refine⟨.bool false,by rw[I0.1],?_⟩;try simp only[ζ]
  refine Hz Af τ τ τ _ _ _ _ _ ?_;apply zq τ;go_upto_region 2 with fail;apply wl;refine Cy Af _ ?_;go_wp2_with fail;exact⟨_,results_tmp rfl _ _ _,_,[],rfl,Bi.nil _ _ _ _,by simp,by rw[show tI a b rs=[]from if_neg (fun h=>HB.1 (Xu.2 ⟨h.2.1,h.2.2.1⟩))];simp,by simp,f3.1.ext⟩
 have HV:=zH (Bool.eq_false_iff.2 HVQ.1);go_upto_region 1 with fail;apply wl;refine Cy Af _ ?_;refine zc (Du _ rs _ (HU.1.ext H8.1.ext) HN.1 HR.1) ?_;rintro e p5 ⟨rfl,hx⟩;have f2:=zH (H8.1.step hx);clear hx;refine⟨.bool false,by rw[HV.1],?_⟩;try simp only[ζ]
 refine Hz Af τ τ _ _ _ _ _ τ ?_;refine dQ Af τ _ _ _ _ _ τ ?_;go_upto_region 2 with fail;apply wl;refine Cy Af _ ?_;go_wp2_with fail;exact⟨_,results_tmp rfl _ _ _,_,[],rfl,Bi.nil _ _ _ _,by simp,by rw[show tI a b rs=[]from if_neg (fun h=>HVQ.1 h.1)];simp,by simp,f2.1.ext⟩
end
end Go.Proofs.YthlfilomhgeheaaGreat
