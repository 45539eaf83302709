/- Contracts that the claim stands on: XArN to XInB19. -/
import Derived.Maps.Own
import Derived.Maps.OwnOps
import Derived.Test.YtngikkggjidenabGreatM6
set_option maxRecDepth 100000
set_option maxHeartbeats 4000000
namespace Go.Proofs.YtngikkggjidenabGreat
open Go.RowKit
theorem okR_pts {rs:List Ring}{r:Ring}{p:Int×Int}(h:okR rs=true)(hr:r∈rs)(hp:p∈r):okP p:=by
  obtain⟨i,hi⟩:=List.mem_iff_getElem?.1 hr;obtain⟨k,hk⟩:=List.mem_iff_getElem?.1 hp;exact okR_ptk h hi hk
def Kd (D:Nat)(q:Rat):Prop:=∃z:Int,q*((D:Int):Rat)=(z:Rat)
theorem Kd.add {D:Nat}{q r:Rat}(h:Kd D q)(k:Kd D r):Kd D (q+r):=by
  obtain⟨a,ha⟩:=h;obtain⟨b,hb⟩:=k;exact⟨a+b,by rw[Rat.intCast_add,<-ha,<-hb];grind⟩
theorem Kd.sub {D:Nat}{q r:Rat}(h:Kd D q)(k:Kd D r):Kd D (q-r):=by
  obtain⟨a,ha⟩:=h;obtain⟨b,hb⟩:=k;exact⟨a-b,by rw[Rat.intCast_sub,<-ha,<-hb];grind⟩
theorem Kd.mul {D E:Nat}{q r:Rat}(h:Kd D q)(k:Kd E r):Kd (D*E) (q*r):=by
  obtain⟨a,ha⟩:=h;obtain⟨b,hb⟩:=k;exact⟨a*b,by rw[Int.natCast_mul,Rat.intCast_mul,Rat.intCast_mul,<-ha,<-hb];grind⟩
theorem Kd.int (D:Nat)(z:Int):Kd D (z:Rat):=⟨z*D,by rw[Rat.intCast_mul]⟩
theorem Kd.up {D E:Nat}{q:Rat}(h:Kd D q)(k:D∣E):Kd E q:=by
  obtain⟨m,rfl⟩:=k;obtain⟨a,ha⟩:=h;exact⟨a*m,by rw[Int.natCast_mul,Rat.intCast_mul,Rat.intCast_mul,<-ha];grind⟩
theorem Kd.den (q:Rat):Kd q.den q:=⟨q.num,by
  have e:q=(q.num:Rat)/(((q.den:Nat):Int):Rat):=by rw[<-Rat.divInt_eq_div];exact(Rat.num_divInt_den q).symm
  have h:(((q.den:Nat):Int):Rat)≠0:=by exact_mod_cast q.den_nz
  have k:=Rat.inv_mul_cancel _ h;rw[Rat.div_def]at e;generalize (((q.den:Nat):Int):Rat)=u at*
  generalize (q.num:Rat)=v at*
  rw[e];grind⟩
theorem Kd.half {D:Nat}{q r:Rat}(h:Kd D q)(k:Kd D r):Kd (2*D) ((q+r)/2):=by
  obtain⟨a,ha⟩:=h;obtain⟨b,hb⟩:=k;refine⟨a+b,?_⟩;rw[Int.natCast_mul,Rat.intCast_mul,Rat.intCast_add,<-ha,<-hb,Rat.div_def];have e:(2:Rat)⁻¹*(((2:Nat):Int):Rat)=1:=by decide+kernel
  generalize (2:Rat)⁻¹=i at*
  generalize (((2:Nat):Int):Rat)=u at*
  grind
theorem Kd.rl {D M:Nat}{q:Rat}(hD:0<D)(h:Kd D q)(h1: -((M:Int):Rat)<=q)(h2:q<=((M:Int):Rat)):Nm.rl q<=max (Nm.nl (M*D)) (max (Nm.nl D) 1):=by
 obtain⟨a,ha⟩:=h;have hd:(0:Rat)<((D:Int):Rat):=by exact_mod_cast hD
 have e:q=Rat.divInt a D:=by
  rw[Rat.divInt_eq_div,<-ha,Rat.div_def,Rat.mul_assoc,Rat.mul_inv_cancel _ (by grind),Rat.mul_one]
 rw[e];refine Nat.le_trans (Nm.rl_divInt _ _) ?_;have k:a.natAbs<=M*D:=by
  have k1:(a:Rat)<=(((M*D:Nat):Int):Rat):=by
   rw[<-ha,Int.natCast_mul,Rat.intCast_mul];exact Rat.mul_le_mul_of_nonneg_right h2 (by grind)
  have k2:(((-(M*D:Nat):Int)):Rat)<=(a:Rat):=by
   rw[<-ha,Int.natCast_mul,Rat.intCast_neg,Rat.intCast_mul];have:=Rat.mul_le_mul_of_nonneg_right h1 (c:=((D:Int):Rat)) (by grind);grind
  have k3:a<=((M*D:Nat):Int):=by exact_mod_cast k1
  have k4: -((M*D:Nat):Int)<=a:=by exact_mod_cast k2
  omega
 have:=Nm.nl_mono k;have:Nm.nl (D:Int).natAbs=Nm.nl D:=by rw[Int.natAbs_natCast]
 omega
def dn:List Rat->Nat
  | []=>1
  |x::l=>x.den*dn l
theorem dn_pos:∀l:List Rat,0<dn l
  | []=>Nat.one_pos
  |x::l=>Nat.mul_pos x.den_pos (dn_pos l)
theorem dn_kd {q:Rat}:∀{l:List Rat},q∈l->Kd (dn l) q
  | x::l,h=>by
    rcases List.mem_cons.1 h with e|e
    · subst e;exact(Kd.den q).up ⟨dn l,rfl⟩
    exact(dn_kd e).up ⟨x.den,Nat.mul_comm _ _⟩
theorem dn_nl {c:Nat}:∀{l:List Rat},(∀x,x∈l->Nm.rl x<=c)->Nm.nl (dn l)<=c*l.length+1
  | [],_=>Nat.le_trans (Nm.nl_le (k:=1) (by decide)) (by simp)
  | x::l,h=>by
    have h1:=Nm.nl_mul x.den (dn l);have h2:=dn_nl (l:=l) fun z hz=>h z (List.mem_cons_of_mem _ hz)
    have h3:Nm.nl x.den<=c:=Nat.le_trans (Nat.le_max_right _ _) (h x List.mem_cons_self);show Nm.nl (x.den*dn l)<=_;rw[List.length_cons,Nat.mul_add];omega
def dy1 (e:Edge):Nat:=if e.2.2-e.1.2=0 then 1 else(e.2.2-e.1.2).natAbs
def dyL:List Edge->Nat
  | []=>1
  |e::l=>dy1 e*dyL l
theorem dy1_pos (e:Edge):0<dy1 e:=by unfold dy1;split<;>omega
theorem dyL_pos:∀l:List Edge,0<dyL l
  | []=>Nat.one_pos
  |e::l=>Nat.mul_pos (dy1_pos e) (dyL_pos l)
theorem dyL_dvd {e:Edge}:∀{l:List Edge},e∈l->dy1 e∣dyL l
  | x::l,h=>by
    rcases List.mem_cons.1 h with e|e
    · subst e;exact⟨dyL l,rfl⟩
    obtain⟨m,hm⟩:=dyL_dvd e;exact⟨dy1 x*m,by show dy1 x*dyL l=_;rw[hm,Nat.mul_left_comm]⟩
theorem dyL_nl:∀{l:List Edge},(∀e,e∈l->okP e.1/\okP e.2)->Nm.nl (dyL l)<=l.length+1
  | [],_=>Nm.nl_le (by decide)
  | e::l,h=>by
    have h1:=Nm.nl_mul (dy1 e) (dyL l);have h2:=dyL_nl (l:=l) fun z hz=>h z (List.mem_cons_of_mem _ hz)
    have h3:Nm.nl (dy1 e)<=1:=by
      obtain⟨a,b⟩:=h e List.mem_cons_self;have a2:=okP_out a;have b2:=okP_out b;refine Nm.nl_le ?_;unfold dy1;split<;>omega
    show Nm.nl (dy1 e*dyL l)<=_;rw[List.length_cons];omega
theorem slp_kd (e:Edge):Kd (dy1 e) (slp e.1 e.2):=by
 unfold slp dy1;split
 ·rename_i h;rw[h];exact⟨0,by rw[show((1:Int):Rat)/((0:Int):Rat)=0 from by decide+kernel];grind⟩
 rename_i h;have hz:(((e.2.2-e.1.2:Int)):Rat)≠0:=by exact_mod_cast h
 rcases Int.natAbs_eq (e.2.2-e.1.2)with k|k
 ·refine⟨e.2.1-e.1.1,?_⟩
  rw[<-k,Rat.div_def];have:=Rat.inv_mul_cancel _ hz;generalize (((e.2.2-e.1.2:Int)):Rat)=u at*
  grind
 refine⟨-(e.2.1-e.1.1),?_⟩;rw[show(((e.2.2-e.1.2).natAbs:Int))= -(e.2.2-e.1.2)from by omega,Rat.div_def,Rat.intCast_neg,Rat.intCast_neg];have:=Rat.inv_mul_cancel _ hz;generalize (((e.2.2-e.1.2:Int)):Rat)=u at*
 grind
theorem edX_kd {e:Edge}{F:Nat}{y:Rat}(h:Kd F y):Kd (dy1 e*F) (edX e y):=by
  rw[edX_lin];refine((slp_kd e).mul h).add (Kd.sub (Kd.int _ _) ?_);have:=(Kd.int 1 e.1.2).mul (slp_kd e);exact this.up ⟨F,by rw[Nat.one_mul]⟩
theorem mark_edge {y:Rat}{rs:List Ring}{m:QI}(h:m∈marksV y rs):∃e,e∈edgesOf rs/\m.1=edX e y:=by
  rw[marksV_ofA,Stb.mem_stab]at h;obtain⟨e,he,h⟩:=List.mem_filterMap.1 h;refine⟨e,he,?_⟩;unfold crossV at h;split at h
  · injection h with h;rw[<-h];rfl
  split at h
  · injection h with h;rw[<-h];rfl
  cases h
theorem runs_mem {P:Rat->Prop}:∀{ms:List QI} {s:Int},(∀m,m∈ms->P m.1)->∀r,r∈runs s ms->P r.1.1/\P r.1.2
  | [],_,_,_,h=>by simp[runs]at h
  | [_],_,_,_,h=>by simp[runs]at h
  | a::b::t,s,hp,r,h=>by
    rcases List.mem_cons.1 (show r∈((a.1,b.1),s+a.2)::runs (s+a.2) (b::t)from h)with e|e
    · subst e;exact⟨hp a List.mem_cons_self,hp b (List.mem_cons_of_mem _ List.mem_cons_self)⟩
    exact runs_mem (fun m hm=>hp m (List.mem_cons_of_mem _ hm)) r e
theorem spans_mem {P:Rat->Prop}{rule:Int}{ms:List QI}(h:∀m,m∈ms->P m.1):∀p,p∈spansV rule ms->P p.1/\P p.2:=by
  refine mergeV_ends fun p hp=> ?_
  unfold sel at hp;obtain⟨r,hr,rfl⟩:=List.mem_map.1 hp;exact runs_mem h r (List.mem_filter.1 hr).1
theorem len1_kd {D:Nat}{f t:Rat}{p:QQ}(hf:Kd D f)(ht:Kd D t)(h1:Kd D p.1)(h2:Kd D p.2):Kd D (len1 f t p):=by
  unfold len1;have k1:Kd D (if p.1<f then f else p.1):=by split<;>assumption
  have k2:Kd D (if t<p.2 then t else p.2):=by split<;>assumption
  generalize (if p.1<f then f else p.1)=u at*
  generalize (if t<p.2 then t else p.2)=v at*
  split
  · exact k2.sub k1
  exact Kd.int D 0
theorem lenV_kd {D:Nat}{f t:Rat}(hf:Kd D f)(ht:Kd D t):∀{l:List QQ},(∀p,p∈l->Kd D p.1/\Kd D p.2)->Kd D (lenV f t l)
  | [],_=>by rw[lenV_nil];exact Kd.int D 0
  | p::l,h=>by
    rw[lenV_cons];exact(len1_kd hf ht (h p List.mem_cons_self).1 (h p List.mem_cons_self).2).add (lenV_kd hf ht fun z hz=>h z (List.mem_cons_of_mem _ hz))
theorem widV_kd {rule:Int}{a b:Int×Int}{rs:List Ring}{F:Nat}{y:Rat}(h:Kd F y):Kd (dyL (edgesOf rs)*F) (widV rule a b rs y):=by
  refine lenV_kd (Kd.int _ _) (Kd.int _ _) (spans_mem (P:=Kd (dyL (edgesOf rs)*F)) fun m hm=> ?_);obtain⟨e,he,hx⟩:=mark_edge hm;rw[hx];exact(edX_kd h).up (Nat.mul_dvd_mul_right (dyL_dvd he) F)
theorem mergeV_cnt (l:List QQ):(mergeV l).length<=l.length:=by
  have h:=fold_len (sortedV l) (sortedV l).length;rw[List.take_length]at h;refine Nat.le_trans h ?_;unfold sortedV;rw[Stb.stab_len];exact List.length_filter_le _ _
theorem spans_cnt (rule:Int)(ms:List QI):(spansV rule ms).length<=ms.length:=by
  refine Nat.le_trans (mergeV_cnt _) (Nat.le_trans (sel_len _ _) ?_);rw[runs_len];omega
theorem marks_cnt (y:Rat)(rs:List Ring):(marksV y rs).length<=(edgesOf rs).length:=by
  rw[marksV_ofA,Stb.stab_len];exact List.length_filterMap_le _ _
theorem edges_cnt (rs:List Ring):(edgesOf rs).length<=tot rs:=by
  unfold edgesOf;split
  · exact edgesV_len rs
  simp[edgesV]
theorem putQ_cnt {y:Rat}:∀{l:List Rat},(putQ l y).length<=l.length+1
  | []=>by simp[putQ]
  | x::l=>by
    have:=putQ_cnt (y:=y) (l:=l);unfold putQ;split
    · simp;omega
    split<;>simp
theorem outQ_cnt {lo hi:Rat}:∀{all l:List Rat},(outQ lo hi l all).length<=l.length+all.length
  | [],l=>by simp[outQ]
  | x::all,l=>by
    show(outQ lo hi (if lo<x/\x<hi then putQ l x else l) all).length<=_;have h1:=outQ_cnt (lo:=lo) (hi:=hi) (all:=all) (l:=if lo<x/\x<hi then putQ l x else l);have h2:(if lo<x/\x<hi then putQ l x else l).length<=l.length+1:=by
      split
      · exact putQ_cnt
      omega
    rw[List.length_cons];omega
theorem flat_cnt {α β:Type}{f:α->List β}(h:∀x,(f x).length<=1):∀l:List α,(l.flatMap f).length<=l.length
  | []=>by simp
  | x::l=>by
    have:=h x;have:=flat_cnt h l;rw[List.flatMap_cons,List.length_append,List.length_cons];omega
theorem yatL_cnt (e:Edge)(x:Int):(yatL e x).length<=1:=by unfold yatL;split<;>simp
theorem segL_cnt (o e:Edge):(segL o e).length<=1:=by unfold segL;split<;>simp
theorem refC_cnt (a b:Int×Int)(N:Nat):∀(l p:List Edge),p.length+l.length<=N->(refC a b p l).length<=l.length*(N+2)
  | [],p,_=>by simp[refC]
  | x::l,p,h=>by
    have h1:=refC_cnt a b N l (p++[x]) (by simp at h⊢;omega);have h2:=flat_cnt (f:=fun o=>segL x o) (fun o=>segL_cnt x o) p;have h3:=yatL_cnt x a.1;have h4:=yatL_cnt x b.1;show(refStep a b p x++refC a b (p++[x]) l).length<=_;unfold refStep;simp only[List.length_append,List.length_cons,Nat.add_mul,Nat.one_mul]at h⊢;omega
theorem refP_cnt:∀rs:List Ring,(refP rs).length=tot rs
  | []=>rfl
  | r::rs=>by
    have:=refP_cnt rs;have e:tot (r::rs)=r.length+tot rs:=by
      have:=tot_app [r] rs;simpa[tot]using this
    rw[e,<-this];simp[refP]
theorem refL_cnt {a b:Int×Int}{rs:List Ring}{N:Nat}(h:tot rs<=N):(refL a b rs).length<=2+N+N*(N+2):=by
  unfold refL;split
  · rename_i k
    have h1:=outQ_cnt (lo:=(a.2:Rat)) (hi:=(b.2:Rat)) (all:=refAll a b rs) (l:=[(a.2:Rat),(b.2:Rat)]);have h2:=refC_cnt a b N (edgesV rs) [] (by have:=edgesV_len rs;simp;omega);have h3:=refP_cnt rs;have h4:=Nat.mul_le_mul_right (N+2) (Nat.le_trans (edgesV_len rs) h);unfold refAll at h1⊢;simp only[List.length_append,List.length_cons,List.length_nil]at h1;omega
  simp
theorem band_kd {W:Rat->Rat}{D F C M:Nat}(hW:∀y,Kd (2*D) y->Kd F (W y))(h0:∀y,0<=W y/\W y<=((C:Int):Rat)):∀{l:List Rat},(∀x,x∈l->Kd D x/\ -((M:Int):Rat)<=x/\x<=((M:Int):Rat))->l.Pairwise (· < ·)->Kd (F*D) (bandSum W l)/\0<=bandSum W l/\bandSum W l<=(((l.length*(C*(2*M)):Nat):Int):Rat)
 | [],_,_=>⟨Kd.int _ 0,by simp[bandSum],by simp[bandSum]⟩
 | [x],_,_=>⟨Kd.int _ 0,by simp[bandSum],by show(0:Rat)<=_;exact_mod_cast Int.natCast_nonneg _⟩
 |x::y::l,h,hs=>by
  obtain⟨k1,k2,k3⟩:=band_kd hW h0 (l:=y::l) (fun z hz=>h z (List.mem_cons_of_mem _ hz)) (List.pairwise_cons.1 hs).2;obtain⟨x1,x2,x3⟩:=h x List.mem_cons_self;obtain⟨y1,y2,y3⟩:=h y (List.mem_cons_of_mem _ List.mem_cons_self);have hxy:x<y:=(List.pairwise_cons.1 hs).1 y List.mem_cons_self;obtain⟨w1,w2⟩:=h0 ((x+y)/2);have wk:=hW _ (x1.half y1);have hd:0<=y-x/\y-x<=(((2*M:Nat):Int):Rat):=by
   rw[Int.natCast_mul,Rat.intCast_mul];have:(((2:Nat):Int):Rat)=2:=rfl;constructor<;>grind
  show Kd (F*D) (W ((x+y)/2)*(y-x)+bandSum W (y::l))/\0<=W ((x+y)/2)*(y-x)+bandSum W (y::l)/\W ((x+y)/2)*(y-x)+bandSum W (y::l)<=_;refine⟨(wk.mul (y1.sub x1)).add k1,?_,?_⟩
  ·have:=Rat.mul_nonneg w1 hd.1
   grind
  have e1:W ((x+y)/2)*(y-x)<=((C:Int):Rat)*(((2*M:Nat):Int):Rat):=by
   have a1:=Rat.mul_le_mul_of_nonneg_right w2 hd.1;have a2:=Rat.mul_le_mul_of_nonneg_left hd.2 (show(0:Rat)<=((C:Int):Rat)from by exact_mod_cast Int.natCast_nonneg C);grind
  have e2:((((x::y::l).length*(C*(2*M)):Nat):Int):Rat)=((C:Int):Rat)*(((2*M:Nat):Int):Rat)+((((y::l).length*(C*(2*M)):Nat):Int):Rat):=by
   rw[<-Rat.intCast_mul,<-Int.natCast_mul,<-Rat.intCast_add,<-Int.natCast_add];congr 2;rw[List.length_cons (a:=x),Nat.succ_mul,Nat.add_comm]
  rw[e2];grind
def part (rule:Int)(a b:Int×Int)(rs:List Ring)(k:Nat):Rat:=bandSum (widV rule a b rs) ((refL a b rs).take (k+1))
theorem part_zero (rule:Int)(a b:Int×Int)(rs:List Ring):part rule a b rs 0=0:=by
  unfold part;cases refL a b rs with
  |nil=>rfl
  |cons x l=>rfl
theorem band_snoc (W:Rat->Rat):∀(l:List Rat) (k:Nat) (x y:Rat),l[k]?=some x->l[k+1]?=some y->bandSum W (l.take (k+2))=bandSum W (l.take (k+1))+W ((x+y)/2)*(y-x)
  | [],k,x,y,h,_=>by simp at h
  | [z],0,x,y,_,h=>by simp at h
  | [z],k+1,x,y,h,_=>by simp at h
  | a::b::l,0,x,y,h,h2=>by
    simp at h h2;subst h h2;show W ((a+b)/2)*(b-a)+bandSum W [b]=bandSum W [a]+_;show W ((a+b)/2)*(b-a)+0=0+_;grind
  | a::b::l,k+1,x,y,h,h2=>by
    have ih:=band_snoc W (b::l) k x y (by simpa using h) (by simpa using h2);show W ((a+b)/2)*(b-a)+bandSum W (b::l.take (k+1))=W ((a+b)/2)*(b-a)+bandSum W (b::l.take k)+_;rw[List.take_succ_cons,List.take_succ_cons]at ih;rw[ih];grind
theorem part_succ {rule:Int}{a b:Int×Int}{rs:List Ring}{k:Nat}{x y:Rat}(h:(refL a b rs)[k]?=some x)(h2:(refL a b rs)[k+1]?=some y):part rule a b rs (k+1)=part rule a b rs k+widV rule a b rs ((x+y)/2)*(y-x):=band_snoc _ _ _ _ _ h h2
theorem part_all {rule:Int}{a b:Int×Int}{rs:List Ring}{k:Nat}(h:(refL a b rs).length<=k+1)(h1:a.1<b.1):part rule a b rs k=areaV rule a b rs:=by
  unfold part areaV;rw[List.take_of_length_le h];split
  · rename_i c
    have:¬evOk a b rs:=fun k=>by have:=k.2.2.2;omega
    rw[show refL a b rs=[]from if_neg this];rfl
  rfl
theorem part_rl {rule:Int}{a b:Int×Int}{rs:List Ring}(ha:okP a)(hb:okP b)(h1:a.1<=b.1)(ht:tot rs<=24)(hh:∀x,x∈refL a b rs->Nm.rl x<=24)(k:Nat):Nm.rl (part rule a b rs k)<=50000:=by
 have a2:=okP_out ha;have b2:=okP_out hb;by_cases c:evOk a b rs
 ·have hD:=dn_nl hh
  have hc:=refL_cnt (a:=a) (b:=b) ht;have hE:Nm.nl (dyL (edgesOf rs))<=25:=by
   refine Nat.le_trans (dyL_nl fun e he=> ?_) (by have:=edges_cnt rs;omega);rw[edgesOf_t c.1]at he;obtain⟨r,hr,h3,h4⟩:=edge_ends he;exact⟨okR_pts c.1 hr h3,okR_pts c.1 hr h4⟩
  have hp:=band_kd (W:=widV rule a b rs) (D:=dn (refL a b rs)) (F:=dyL (edgesOf rs)*(2*dn (refL a b rs))) (C:=2097152) (M:=1048576) (fun y hy=>widV_kd hy)
   (fun y=>⟨widV_nn y,Rat.le_trans (widV_le h1 y) (by rw[<-Rat.intCast_sub];exact Rat.intCast_le_intCast.2 (by omega))⟩) (l:=(refL a b rs).take (k+1))
   (fun x hx=>⟨dn_kd (List.mem_of_mem_take hx),by
    have h5:=refL_bd (List.mem_of_mem_take hx);have h6:(((-1048576:Int)):Rat)<=(a.2:Rat):=Rat.intCast_le_intCast.2 (by omega);have h7:(b.2:Rat)<=(((1048576:Nat):Int):Rat):=Rat.intCast_le_intCast.2 (by omega);exact⟨Rat.le_trans (by rw[<-Rat.intCast_neg];exact h6) h5.1,Rat.le_trans h5.2 h7⟩⟩)
   ((refL_srt a b rs).sublist (List.take_sublist _ _))
  have hpos:0<dyL (edgesOf rs)*(2*dn (refL a b rs))*dn (refL a b rs):=Nat.mul_pos (Nat.mul_pos (dyL_pos _) (Nat.mul_pos (by decide) (dn_pos _))) (dn_pos _);have hr:=Kd.rl (M:=((refL a b rs).take (k+1)).length*(2097152*(2*1048576))) hpos hp.1 (Rat.le_trans (by
   have:(0:Rat)<=(((((refL a b rs).take (k+1)).length*(2097152*(2*1048576)):Nat):Int):Rat):=by exact_mod_cast Int.natCast_nonneg _
   grind) hp.2.1) hp.2.2
  refine Nat.le_trans hr ?_;have n1:=Nm.nl_mul (((refL a b rs).take (k+1)).length*(2097152*(2*1048576))) (dyL (edgesOf rs)*(2*dn (refL a b rs))*dn (refL a b rs));have n2:=Nm.nl_mul (dyL (edgesOf rs)*(2*dn (refL a b rs))) (dn (refL a b rs));have n3:=Nm.nl_mul (dyL (edgesOf rs)) (2*dn (refL a b rs));have n4:=Nm.nl_mul 2 (dn (refL a b rs));have n5:Nm.nl 2<=1:=Nm.nl_le (by decide);have n6:Nm.nl (((refL a b rs).take (k+1)).length*(2097152*(2*1048576)))<=2:=by
   refine Nm.nl_le ?_;have:((refL a b rs).take (k+1)).length<=650:=by rw[List.length_take];omega
   have:=Nat.mul_le_mul_right (2097152*(2*1048576)) this;exact Nat.lt_of_le_of_lt this (by decide)
  omega
 unfold part;rw[show refL a b rs=[]from if_neg c];exact Nat.le_trans (show Nm.rl (0:Rat)<=1 from by decide+kernel) (by decide)
def fitE (rule:Int)(rs:List Ring):Int:=if okR rs=true then(if rule=1\/rule=2 then 0 else 2)else 12
def inbE (rule:Int)(a b:Int×Int)(rs:List Ring):Int:=if okR rs=true then(if rule=1\/rule=2 then(if okPt a.1 a.2=true/\okPt b.1 b.2=true then 0 else 6)else 2)else 12
theorem inbE_zero {rule:Int}{a b:Int×Int}{rs:List Ring}:inbE rule a b rs=0↔okR rs=true/\(rule=1\/rule=2)/\okPt a.1 a.2=true/\okPt b.1 b.2=true:=by
  unfold inbE;by_cases h1:okR rs=true<;>by_cases h2:rule=1\/rule=2<;>by_cases h3:okPt a.1 a.2=true/\okPt b.1 b.2=true<;>simp[h1,h2,h3]
def farI (n:Int):Bool:=decide (n< -4096)||decide (4096<n)
def cornV (x y:Int):Int×Int:=if (farI x||farI y)=true then(1048577,0)else(x*256,y*256)
def pixB (x y:Int):Int×Int:=if okPt (cornV x y).1 (cornV x y).2=true then cornV (x+1) (y+1)else cornV x y
theorem wid_rl {rule:Int}{a b:Int×Int}{rs:List Ring}{y:Rat}{c:Nat}(hok:okR rs=true)(ha:okP a)(hb:okP b)(h1:a.1<=b.1)(ht:tot rs<=24)(hy:Nm.rl y<=c):Nm.rl (widV rule a b rs y)<=c+30:=by
 have a2:=okP_out ha;have b2:=okP_out hb;have hE:Nm.nl (dyL (edgesOf rs))<=25:=by
  refine Nat.le_trans (dyL_nl fun e he=> ?_) (by have:=edges_cnt rs;omega);rw[edgesOf_t hok]at he;obtain⟨r,hr,h3,h4⟩:=edge_ends he;exact⟨okR_pts hok hr h3,okR_pts hok hr h4⟩
 have hd:Nm.nl y.den<=c:=Nat.le_trans (Nat.le_max_right _ _) hy;have k:=widV_kd (rule:=rule) (a:=a) (b:=b) (rs:=rs) (Kd.den y);have hpos:0<dyL (edgesOf rs)*y.den:=Nat.mul_pos (dyL_pos _) y.den_pos;have hr:=Kd.rl (M:=2097152) hpos k (Rat.le_trans (by decide+kernel) (widV_nn y)) (Rat.le_trans (widV_le h1 y) (by rw[<-Rat.intCast_sub];exact Rat.intCast_le_intCast.2 (by omega)));refine Nat.le_trans hr ?_;have n1:=Nm.nl_mul 2097152 (dyL (edgesOf rs)*y.den);have n2:=Nm.nl_mul (dyL (edgesOf rs)) y.den;have n3:Nm.nl 2097152<=1:=Nm.nl_le (by decide);omega
theorem rl_mid {p q:Rat}{c:Nat}(hp:Nm.rl p<=c)(hq:Nm.rl q<=c):Nm.rl ((p+q)/2)<=2*c+3:=by
  have h1:=Nm.rl_add p q;have h2:=Nm.rl_div (p+q) 2;have h3:Nm.rl (2:Rat)<=1:=by decide+kernel
  omega
theorem spans_few (rule:Int)(y:Rat){rs:List Ring}(h:tot rs<=24):(spansV rule (marksV y rs)).length<=24:=by
  have h1:=spans_cnt rule (marksV y rs);have h2:=marks_cnt y rs;have h3:=edges_cnt rs;omega
theorem len_wid (rule:Int)(a b:Int×Int)(rs:List Ring)(y:Rat):lenV (((a.1:Int)):Rat) (((b.1:Int)):Rat) (mergeV (spansV rule (marksV y rs)))=widV rule a b rs y:=by
  unfold widV spansV;rw[mergeV_idem]
end Go.Proofs.YtngikkggjidenabGreat
namespace Go.Proofs.YtngikkggjidenabGreat
open Go.RowKit
attribute [local go_sem ↓] Go.wp_at_zero Go.wp_at_succ run_max_ii run_min_ii
theorem fits_any (A:Option Addr)(cap:Nat)(rs:List Ring)(rule:Int)(k:Int)(w:World)(hu:RingsV w (.slice A rs.length cap) rs)(hn:rs.length<=1048576)(hr:∀r,r∈rs->r.length<=1048576)(hk:fitE rule rs=k):
  Calls Tryz.prog 34 #[.slice A rs.length cap,.int .i64 rule] w fun e w'=>e= .returned (.int .i64 k)/\Ext w w':=by
 subst hk;have HU:=zH hu;have HN:=zH hn;have HRR:=zH hr;clear hu hr;go_enter Tryz.func34,Tryz.ntmps34
 have H0:=zH (Hp.start w);go_upto_region 0 with fail
 refine wl ?_;refine zq (.int .i64 0) ?_;rcases emH (okR rs=true)with HV|HV
 ·go_upto_region 1 with fail
  refine wl ?_;refine zI1 (Hp.start _) _ ?_;refine zc (polyValid_any _ rs _ (HU.out.ext H0.out.ext) HN.out HRR.out) ?_;rintro e w4 ⟨rfl,hx⟩;have H5:=zH (H0.out.step hx);clear hx;refine⟨.bool true,by rw[HV.out],?_⟩;try simp only[Act.put,zA,zB,zC]
  refine zI2 (Hp.start _) (.bool false) (.bool false) ?_;rcases emH (rule=1)with H1|H1
  ·go_upto_region 3 with fail
   refine wl ?_;refine zq (.int .i64 rule) ?_;refine zp (.bool false) (by exact ezn (e:=(dec_f (fun h_=>h_ H1.out)))) ?_;refine zI5 (Hp.start _) (.bool false) _ _ (.bool false) (.bool false) ?_;go_upto_region 5 with fail
   refine wl ?_;refine zq (.int .i64 0) ?_;go_wp2_with fail
   go_ret
   exact⟨by rw[show fitE rule rs=0 from(if_pos HV.out).trans (if_pos (.inl H1.out))]<;>rfl,H5.out.ext⟩
  rcases emH (rule=2)with H2|H2
  ·go_upto_region 3 with fail
   refine wl ?_;refine zq (.int .i64 rule) ?_;refine zp (.bool true) (by exact ezn (e:=(dec_t H1.out))) ?_;refine zI2 (Hp.start _) (.bool true) (.int .i64 rule) ?_;refine zp (.bool false) (by exact ezn (e:=(dec_f (fun h_=>h_ H2.out)))) ?_;refine zI2 (Hp.start _) (.bool false) (.bool false) ?_;go_upto_region 5 with fail
   refine wl ?_;refine zq (.int .i64 0) ?_;go_wp2_with fail
   go_ret
   exact⟨by rw[show fitE rule rs=0 from(if_pos HV.out).trans (if_pos (.inr H2.out))]<;>rfl,H5.out.ext⟩
  go_upto_region 3 with fail
  refine wl ?_;refine zq (.int .i64 rule) ?_;refine zp (.bool true) (by exact ezn (e:=(dec_t H1.out))) ?_;refine zI2 (Hp.start _) (.bool true) (.int .i64 rule) ?_;refine zp (.bool true) (by exact ezn (e:=(dec_t H2.out))) ?_;refine zI2 (Hp.start _) (.bool true) (.bool true) ?_;go_upto_region 4 with fail
  refine wl ?_;refine zq (.int .i64 2) ?_;go_wp2_with fail
  go_ret
  exact⟨by rw[show fitE rule rs=2 from(if_pos HV.out).trans (if_neg (fun h_=>h_.elim H1.out H2.out))]<;>rfl,H5.out.ext⟩
 go_upto_region 1 with fail
 refine wl ?_;refine zI1 (Hp.start _) _ ?_;refine zc (polyValid_any _ rs _ (HU.out.ext H0.out.ext) HN.out HRR.out) ?_;rintro e w34 ⟨rfl,hx⟩;have H35:=zH (H0.out.step hx);clear hx;refine⟨.bool false,by rw[Bool.eq_false_iff.2 HV.out],?_⟩;try simp only[Act.put,zA,zB,zC]
 refine qV (.bool true) ?_;refine zq (.bool true) ?_;go_upto_region 2 with fail
 refine wl ?_;refine zq (.int .i64 12) ?_;go_wp2_with fail
 go_ret
 exact⟨by rw[show fitE rule rs=12 from if_neg HV.out]<;>rfl,H35.out.ext⟩
end Go.Proofs.YtngikkggjidenabGreat
namespace Go.Proofs.YtngikkggjidenabGreat
open Go.RowKit Go.Maps
attribute [local go_sem ↓] Go.wp_at_zero Go.wp_at_succ
theorem and_m1 {n:Int}(h: -9223372036854775808<=n/\n<=9223372036854775807):bits .and .i64 n (-1)=n:=by
  show IntKind.i64.wrap (((BitVec.ofInt 64 n&&& BitVec.ofInt 64 (-1)).toNat:Nat):Int)=n;rw[show BitVec.ofInt 64 (-1)=BitVec.allOnes 64 from by decide,BitVec.and_allOnes,IntKind.wrap_i64,BitVec.toNat_ofInt];omega
theorem and_1 (n:Int):bits .and .i64 n 1=n%2:=by
  show IntKind.i64.wrap (((BitVec.ofInt 64 n&&& BitVec.ofInt 64 1).toNat:Nat):Int)=n%2;rw[BitVec.toNat_and,show(BitVec.ofInt 64 1).toNat=1 from by decide,Nat.and_one_is_mod,IntKind.wrap_i64,BitVec.toNat_ofInt];omega
theorem and_0 (n:Int):bits .and .i64 n 0=0:=by
  show IntKind.i64.wrap (((BitVec.ofInt 64 n&&& BitVec.ofInt 64 0).toNat:Nat):Int)=0;rw[show BitVec.ofInt 64 0=0#64 from by decide,BitVec.and_zero,IntKind.wrap_i64];decide
section
variable {H:Type} {P:Program} {w:World} {ops:Array Oper} {rest:List Oper} {op:Oper} {a:Act} {Q:Exit->Act->World->Prop}
theorem mv_insert (hw:Region.wanted op (yielded ops a.tmps)=true)(m x v:Operand)(t:TypeId)(hop:op.op= .insert t m x v)
  (k e:TypeId)(K:Keyed P k)(ht:P.underlying t=some (.map k e))(R:Value->Option (DataW H×List MemPlace))(b n:Nat)(D:DataW H)
  (hm:a.eval m= .map (some b))(hown:w.ownsMap P k R b n D)(hn:n<maxLen)(key val:Value)(kl:Lit)(hx:a.eval x=key)(hv:a.eval v=val)(hkey:keyOf P k key=some kl)
  (d:DataW H)(ps:List MemPlace)(hval:R val=some (d,ps))
  (h:∀w',w'.ownsMap P k R b (n+1) (D.put kl d)->w.grownBy w' (some b)->wpList P ops Q rest (a.put op.dst undef) w'):wpList P ops Q (op::rest) a w:=by
 obtain⟨w',hrun,r1,r2⟩:=hown.update K ht hn hkey hval;refine wpList_if hw ?_;unfold Oper.wp execOp;simp only[hop];simp[hm,hx,hv,hrun,Result.andThen];exact h _ r1 r2
theorem mv_lookup (hw:Region.wanted op (yielded ops a.tmps)=true)(m x:Operand)(t:TypeId)(hop:op.op=Op.lookup t m x false)
  (k e:TypeId)(q:IntKind)(K:Keyed P k)(ht:P.underlying t=some (.map k e))(he:P.underlying e=some (.int q))(hz:(zeroValue e).run P w= .ok (.int q 0) w)(b n:Nat)(D:DataW H)
  (hm:a.eval m= .map (some b))(hown:w.ownsMap P k (plainElem P e) b n D)(key:Value)(kl:Lit)(hx:a.eval x=key)(hkey:keyOf P k key=some kl)
  (h:∀c:Int,D.atKey kl (.lit (.int q 0))= .lit (.int q c)->wpList P ops Q rest (a.put op.dst (.int q c)) w):wpList P ops Q (op::rest) a w:=by
 obtain⟨c,hrun,hat,_⟩:=hown.lookup_int K ht he hz hkey;refine wpList_if hw ?_;unfold Oper.wp execOp;simp only[hop];simp[hm,hx,hrun,Result.andThen];exact h c hat
end
def bitsD:DataW Unit:=((DataW.map []).put (.int .i64 1) (.lit (.int .i64 (-1)))).put (.int .i64 2) (.lit (.int .i64 1))
theorem bitsD_is:bitsD= .map [(.int .i64 1,.lit (.int .i64 (-1))),(.int .i64 2,.lit (.int .i64 1))]:=by
  unfold bitsD DataW.put;simp[DataW.insert,Lit.sameKey,Lit.before]
theorem bitsD_at (r c:Int)(h:bitsD.atKey (.int .i64 r) (.lit (.int .i64 0))= .lit (.int .i64 c)):c=if r=1 then-1 else if r=2 then 1 else 0:=by
 rw[bitsD_is]at h;unfold DataW.atKey at h;by_cases h1:r=1
 ·subst h1
  rw[if_pos rfl];have h2:(DataW.lit (.int .i64 (-1)):DataW Unit)= .lit (.int .i64 c):=h;injection h2 with h2
  injection h2 with _ h2
  exact h2.symm
 by_cases h2:r=2
 ·subst h2
  rw[if_neg h1,if_pos rfl];have h2:(DataW.lit (.int .i64 1):DataW Unit)= .lit (.int .i64 c):=h;injection h2 with h2
  injection h2 with _ h2
  exact h2.symm
 have h3:¬(1=r):=fun k=>h1 k.symm
 have h4:¬(2=r):=fun k=>h2 k.symm
 simp[Lit.sameKey,h3,h4]at h;simp[h1,h2,h]
theorem fills_any (n rule:Int)(w:World)(hn: -9223372036854775808<=n/\n<=9223372036854775807)(hr: -9223372036854775808<=rule/\rule<=9223372036854775807):
  Calls Tryz.prog 75 #[.int .i64 n,.int .i64 rule] w fun e w'=>e= .returned (.bool (fillsV n rule))/\Ext w w':=by
 have K:Keyed Tryz.prog 3:=int_keyed Tryz.underlying3;have wf1:∀z:Int,-9223372036854775808<=z/\z<=9223372036854775807->(Lit.int .i64 z).wf=true:=fun z h=>by
  have hmin:IntKind.i64.min= -9223372036854775808:=rfl;have hmax:IntKind.i64.max=9223372036854775807:=rfl;simp only[Lit.wf,Bool.and_eq_true,decide_eq_true_eq];omega
 have HK:=zH K;have HW:=zH wf1;have HN:=zH hn;have HRU:=zH hr;clear K wf1 hn hr;go_enter Tryz.func75,Tryz.ntmps75
 go_upto_region 1 with fail
 refine wp_region_lit ?_;refine zp (w':=w.alloc (.map #[] 0)) (.map (some w.heap.size)) (by have hmm:= @run_makeMap Tryz.prog;go_simp) ?_;refine mv_insert (H:=Unit) (by rfl) _ _ _ _ (by rfl) 3 3 HK.out Tryz.underlying132 (plainElem Tryz.prog 3) w.heap.size 0 (.map []) (by rfl) (World.ownsMap_made w _ _ _) (by unfold maxLen;decide) (.int .i64 1) (.int .i64 (-1)) (.int .i64 1) (by rfl) (by rfl) (keyOf_int_mk Tryz.underlying3 (HW.out 1 (by decide))) (.lit (.int .i64 (-1))) [] (plainElem_int Tryz.underlying3 (HW.out (-1) (by decide))) ?_;intro w1 o1 g1
 (try simp only[Act.put])
 refine mv_insert (H:=Unit) (by rfl) _ _ _ _ (by rfl) 3 3 HK.out Tryz.underlying132 (plainElem Tryz.prog 3) w.heap.size 1 _ (by rfl) o1 (by unfold maxLen;decide) (.int .i64 2) (.int .i64 1) (.int .i64 2) (by rfl) (by rfl) (keyOf_int_mk Tryz.underlying3 (HW.out 2 (by decide))) (.lit (.int .i64 1)) [] (plainElem_int Tryz.underlying3 (HW.out 1 (by decide))) ?_;intro w2 o2 g2
 (try simp only[Act.put])
 have HX:=zH (show Ext w w2 from(((Ext.refl w).alloc (.map #[] 0)).grown g1 (fun k hk=>by injection hk with hk;omega)).grown g2 (fun k hk=>by injection hk with hk;omega));have HO:=zH (show w2.ownsMap Tryz.prog 3 (plainElem Tryz.prog 3) w.heap.size 2 bitsD from o2);clear o1 g1 o2 g2;refine zp (w':=w2) (.map (some w.heap.size)) (by go_simp) ?_;refine zp (w':=w2) (.map (some w.heap.size)) (by go_simp) ?_;go_upto_region 2 with fail
 refine wp_region_lit ?_;refine zp (w':=w2) (.int .i64 n) (by go_simp) ?_;refine zp (w':=w2) (.map (some w.heap.size)) (by go_simp) ?_;refine zp (w':=w2) (.int .i64 rule) (by go_simp) ?_;refine mv_lookup (H:=Unit) (by rfl) _ _ _ (by rfl) 3 3 .i64 HK.out Tryz.underlying132 Tryz.underlying3 (Tryz.zeroValue3 _) w.heap.size 2 bitsD (by rfl) HO.out (.int .i64 rule) (.int .i64 rule) (by rfl) (keyOf_int_mk Tryz.underlying3 (HW.out rule HRU.out)) ?_;intro c hc;have hc2:=bitsD_at rule c hc;have hb:(bits .and .i64 n c != 0)=fillsV n rule:=by
  unfold fillsV;by_cases h1:rule=1
  ·subst h1
   rw[hc2,if_pos rfl,and_m1 HN.out];by_cases h0:n=0<;>simp[h0]
  by_cases h2:rule=2
  ·subst h2
   rw[hc2,if_neg h1,if_pos rfl,and_1];by_cases h0:n%2=0<;>simp[h0]
  rw[hc2,if_neg h1,if_neg h2,and_0];simp[h1,h2]
 have HB:=zH hb;clear hc hc2 hb;try simp only[Act.put,zA,zB,zC]
 go_wp2_with fail
 go_ret
 exact⟨by rw[<-HB.out];rfl,HX.out⟩
end Go.Proofs.YtngikkggjidenabGreat
namespace Go.Proofs.YtngikkggjidenabGreat
open Go.RowKit
attribute [local go_sem ↓] Go.wp_at_zero Go.wp_at_succ run_max_ii run_min_ii
theorem merge_any (L:Nat)(u:Value)(ps:List QQ)(w:World)(hu:SpansV L w u ps)(h1L:1<=L)(hL:L<=60000)(hn:ps.length<=20000):
  Calls Tryz.prog 73 #[u] w fun e w'=>∃v es,e= .returned v/\SpR L w' w.heap.size v es/\es.map SpE.vl=mergeV ps/\es.length<=ps.length/\Ext w w':=by
 obtain⟨A,cu,rfl,hA⟩:=hu;obtain⟨i0,hi,hz0,hz1,hz2⟩:=info_parts infoSp;have HL1:=zH h1L;have HI:=zH (And.intro hi (And.intro hz0 (And.intro hz1 hz2)));have HA:=zH (fun(w':World) (x:Ext w w') (k:Nat) (p:QQ) (hp:ps[k]?=some p)=>(show∃g off,A=some ⟨g,off,none⟩/\∃cs:List Value,w'.rangeAt g (off+k*8) cs/\PtIn L w' cs.toArray p.1 p.2 by
  obtain⟨g,off,h1,h2⟩:=hA (by have:=(List.getElem?_eq_some_iff.1 hp).1;omega);obtain⟨cs,h3,h4⟩:=h2 k p hp;exact⟨g,off,h1,cs,range_ext h3 x,h4.ext x⟩))
 clear hi hz0 hz1 hz2 hA;go_enter Tryz.func73,Tryz.ntmps73
 go_wp2_with fail
 go_loopg [3,12] ps.length (fun c v i wr=>∃(k:Nat) (es:List SpE) (v2:Value),k<=ps.length/\c=ps.length-k/\i= .int .i64 k/\v2=v/\SpR L wr w.heap.size v2 es/\es.map SpE.vl=some2 (ps.take k)/\es.length<=k/\Ext w wr)
 case atStart=>exact⟨0,[],_,Nat.zero_le _,rfl,rfl,rfl,⟨RowN.nil _ _ _ _,by simp⟩,rfl,Nat.le_refl _,Ext.refl _⟩
 obtain⟨k,es,v,hk,rfl,rfl,rfl,hsp,hes,hek,hx⟩:=hrel;have HSP:=zH hsp;have HES:=zH (And.intro hes hek);have HX:=zH hx;clear hsp hes hx;by_cases hlt:k<ps.length
 ·have hlt2:(k:Int)<(ps.length:Int):=by omega
  obtain⟨p,hp⟩:∃p,ps[k]?=some p:=⟨_,List.getElem?_eq_getElem hlt⟩;obtain⟨g,off,rfl,cs,hr,hpt⟩:=HA.out wr HX.out k p hp;have HSM:=zH (some2_succ hp);have hcl:cs.length=8:=by have:=hpt.size;simpa using this
  have cs_one:∀v,v∈cs->v.oneCell'=true:=by
   have h:=hpt.one;rw[Array.all_eq_true_iff_forall_mem]at h;exact fun v hv=>h v (by simpa using hv)
  have HR:=zH hr;have HPT:=zH hpt;have HCL:=zH hcl;have HLT:=zH hlt;have HFAR0:=zH (fun X hX=>sp_far (X:=X) HSP.out hX);clear hr hpt hp hlt;go_upto_region 4 with fail
  refine wp_region_lit ?_;refine zq (.pointer (some ⟨g,off+k*8,none⟩)) ?_;refine wpList_if (by rfl) (wp_load_mid _ _ (by rfl) g (off+k*8) (by rfl) cs _ HR.out Tryz.underlying94 (by rfl) (by rw[HCL.out];kernel_rfl) ?_);try simp only[Act.put,zA,zB,zC]
  clear hcl;refine zp (w':=wr.alloc (.cells z8 94)) (.pointer (some ⟨wr.heap.size,0,none⟩)) (by go_simp) ?_;refine pO (cs).toArray (Blk.new wr _ _) (by simp[HCL.out]) (by rw[show((cs).toArray:Array Value).size=8 by simp[HCL.out]];kernel_rfl) (all_oneCell_toArray cs_one) ?_
  (try simp only[Act.put])
  obtain⟨xq1,xq2⟩:=new_var wr 94 z8 (cs).toArray (by simp[HCL.out]);generalize (wr.alloc (.cells z8 94)).setCells wr.heap.size 0 ((cs).toArray:Array Value).toList=w4 at*
  have HFAR:=zH (HFAR0.out wr.heap.size (Nat.le_refl _));generalize wr.heap.size=X4 at*
  have HEw4:=zH xq1;have HBX4:=zH xq2;clear xq1 xq2;go_upto_region 5 with fail
  refine wp_region_lit ?_;refine zq (.pointer (some ⟨X4,0,none⟩)) ?_;refine pP 0 4 HBX4.out Tryz.underlying33 (by simp[HCL.out]) ?_;try simp only[Act.put,zA,zB,zC]
  refine zq (.pointer (some ⟨X4,4,none⟩)) ?_;refine pP 4 4 HBX4.out Tryz.underlying33 (by simp[HCL.out]) ?_;try simp only[Act.put,zA,zB,zC]
  obtain⟨z,hz⟩:∃z,z=rcmp p.1 p.2:=⟨_,rfl⟩;have hzl:z<0↔p.1<p.2:=by rw[hz];exact rcmp_lt
  refine mv_call (by rfl) (by go_simp) (pCmpS hz (HPT.out.ext HEw4.out).c0 (HPT.out.ext HEw4.out).c1 (by omega)) ?_;rintro e w5 ⟨rfl,hx⟩;have HEw5:=zH (show Ext w4 w5 from((Ext.refl w4)).trans hx);clear hx;refine⟨_,rfl,?_⟩;try simp only[Act.put,zA,zB,zC]
  clear hz;have HPT5:=zH ((HPT.out.ext HEw4.out).ext HEw5.out);have HB5:=zH (HBX4.out.ext HEw5.out);have HXw5:=zH ((HX.out.trans HEw4.out).trans HEw5.out);have HSP5:=zH ((HSP.out.ext HEw4.out).ext HEw5.out);clear HEw4 HEw5 HBX4 HPT HR HSP;by_cases hpq:p.1<p.2
  ·have hz2:z<0:=hzl.2 hpq
   clear hzl;refine zq (.bool true) ?_;have hcont:=HSM.out;rw[if_pos hpq]at hcont;have HCO:=zH hcont;clear hcont;clear hpq hz2;go_upto_region 6 with fail
   refine wp_region_held_drew (S:=fun x=>w5.grownBy x v.ownBlock) (by kernel_rfl) (grown_of_ext _ (Ext.refl _).drew) (fun _=> ?_);refine zv 0 (bs 11 1) (grown_of_ext _ (Ext.refl w5).drew) ?_;refine mV 1 (bs 11 3) (grown_of_ext _ (Ext.refl w5).drew) ?_;refine mP 2 (bs 11 7) 0 4 (fun x hx=>HB5.out.grown hx HFAR.out) Tryz.underlying33 (by simp[HCL.out]) (grown_of_ext _ (Ext.refl w5).drew) ?_;try simp only[Act.put,zA,zB,zC]
   refine mV 4 (bs 11 23) (grown_of_ext _ (Ext.refl w5).drew) ?_;refine mP 5 (bs 11 55) 4 4 (fun x hx=>HB5.out.grown hx HFAR.out) Tryz.underlying33 (by simp[HCL.out]) (grown_of_ext _ (Ext.refl w5).drew) ?_;try simp only[Act.put,zA,zB,zC]
   refine mC 3 (bs 11 63) (pNorm (HPT5.out.ext (Ext.refl _).drew).c0 (by omega)) ?_;rintro e w6 ⟨c1,rfl,hc1,hx⟩;have HEw6:=zH (show Ext w5 w6 from((Ext.refl w5).drew).trans hx);obtain⟨ra,rfl,hra⟩:=hc1;have HRA:=zH hra;clear hra;clear hx;refine⟨_,rfl,(grown_of_ext _ HEw6.out),?_⟩;try simp only[Act.put,zA,zB,zC]
   refine mC 6 (bs 11 127) (pNorm (HPT5.out.ext HEw6.out).c1 (by omega)) ?_;rintro e w7 ⟨c2,rfl,hc2,hx⟩;have HEw7:=zH (show Ext w5 w7 from(HEw6.out).trans hx);obtain⟨rb,rfl,hrb⟩:=hc2;have HRB:=zH hrb;have HRA7:=zH (HRA.out.ext hx);clear hrb HRA;clear hx;refine⟨_,rfl,(grown_of_ext _ HEw7.out),?_⟩;try simp only[Act.put,zA,zB,zC]
   refine zv 7 (bs 11 255) (grown_of_ext _ HEw7.out) ?_;have hw7:=HSP5.out.ext HEw7.out;have hbz:=(HXw5.out.trans HEw7.out).size;have hek3:es.length<=20000:=by have:=HES.out.2;omega
   have hOK:SpE.Ok L w7 ⟨ra,rb,p.1,p.2⟩:=⟨HRA7.out,HRB.out,HPT5.out.c0.rl HL1.out,HPT5.out.c1.rl HL1.out⟩;have HOK:=zH hOK;clear hOK;have hAE:Ext w7 (w7.alloc (.cells #[.bool ra.n,.slice ra.p ra.l ra.c,.bool ra.m,.slice ra.p2 ra.l2 ra.c2,.bool rb.n,.slice rb.p rb.l rb.c,.bool rb.m,.slice rb.p2 rb.l2 rb.c2] 94)):=(Ext.refl _).alloc _;refine mU 8 (bs 11 511) (v:= .slice (some ⟨w7.heap.size,0,none⟩) 1 1) (w':=(w7.alloc (.cells #[.bool ra.n,.slice ra.p ra.l ra.c,.bool ra.m,.slice ra.p2 ra.l2 ra.c2,.bool rb.n,.slice rb.p rb.l rb.c,.bool rb.m,.slice rb.p2 rb.l2 rb.c2] 94))) (grown_of_ext _ ((HEw7.out).alloc _)) ?_;try simp only[Act.put,zA,zB,zC]
   refine md_appendF (j:=9) (listed':=(bs 11 1023)) (by rfl) (by kernel_rfl) (by rfl) _ _ 72 (by rfl) w.heap.size 94 i0 _ 8 128 Tryz.underlying72 HI.out.1 HI.out.2.1 HI.out.2.2.1 HI.out.2.2.2 rfl (by decide) noUL_zsp _ es.length (spCells es) (by rfl) (hw7.ext hAE).1 ⟨w7.heap.size,0,none⟩ 1 1 [.bool ra.n,.slice ra.p ra.l ra.c,.bool ra.m,.slice ra.p2 ra.l2 ra.c2,.bool rb.n,.slice rb.p rb.l rb.c,.bool rb.m,.slice rb.p2 rb.l2 rb.c2] (by rfl) rfl (new_cells _ [.bool ra.n,.slice ra.p ra.l ra.c,.bool ra.m,.slice ra.p2 ra.l2 ra.c2,.bool rb.n,.slice rb.p rb.l rb.c,.bool rb.m,.slice rb.p2 rb.l2 rb.c2] _) (by simp[Value.oneCell']) (SpE.noU ⟨ra,rb,p.1,p.2⟩) (by decide) (by unfold maxLen;omega) (by omega) (by have:=hAE.size;omega) (by kernel_rfl) ?_;intro gx cx w8 hf h2 h3 h4;have HSN:=zH ((hw7.ext hAE).snoc (e:=⟨ra,rb,p.1,p.2⟩) rfl (HOK.out.ext hAE) h2 h4);have HX8:=zH (((HXw5.out.trans HEw7.out).trans hAE).grown h3 (fun j hj=>hw7.1.block j hj));have hS8:w5.grownBy w8 v.ownBlock:=ext_grown (HEw7.out.trans hAE) h3;clear hw7 hbz hf h2 h3 h4 hAE;refine⟨hS8,?_⟩;try simp only[Act.put,zA,zB,zC]
   refine zv 10 (bs 11 2047) hS8 ?_;refine wpAnyH_done (by kernel_rfl) ?_ _;clear hS8;go_wp2_with fail
   go_roundg (ps.length-(k+1))
   case measure=>have:=HLT.out;omega
   case rel=>exact⟨k+1,es++[⟨ra,rb,p.1,p.2⟩],_,HLT.out,rfl,by go_num,rfl,HSN.out,by rw[HCO.out,List.map_append,HES.out.1];rfl,by have:=HES.out.2;simp;omega,HX8.out⟩
  have hz2:¬z<0:=fun h=>hpq (hzl.1 h)
  clear hzl;refine zq (.bool false) ?_;have hcont:=HSM.out;rw[if_neg hpq]at hcont;have HCO:=zH hcont;clear hcont hpq hz2;go_wp2_with fail
  go_roundg (ps.length-(k+1))
  case measure=>have:=HLT.out;omega
  case rel=>exact⟨k+1,es,_,HLT.out,rfl,by go_num,rfl,HSP5.out,by rw[HCO.out];exact HES.out.1,by have:=HES.out.2;omega,HXw5.out⟩
 obtain rfl:k=ps.length:=by omega
 have hge:¬(ps.length:Int)<(ps.length:Int):=by omega
 have HSRT:=zH (sortSp_any L v es w.heap.size wr HSP.out hL (by have:=HES.out.2;omega));have hval:(Stb.stab ltE es).map SpE.vl=sortedV ps:=by
  have h:=HES.out.1;rw[List.take_of_length_le (Nat.le_refl _)]at h;rw[stab_map SpE.vl (lt:=ltE) (lt':=ltQ) (fun _ _=>rfl),h];rfl
 have hsl:(Stb.stab ltE es).length<=ps.length:=by rw[Stb.stab_len];exact HES.out.2
 have hvw:∀j,v.ownBlock=some j->w.heap.size<=j:=HSP.out.1.block;generalize Stb.stab ltE es=ss at*
 go_upto_region 9 with(go_at_call 107;refine HSRT.out.mono ?_;rintro e ws ⟨rfl,hss,hgr⟩)
 have hXs:Ext w ws:=HX.out.grown hgr hvw;obtain⟨As,cs,rfl⟩:=row_slice hss.1;have HSS:=zH hss;have HXS:=zH hXs;have HVAL:=zH hval;have hsn:ss.length<=20000:=by omega
 have HSSB:=zH HSS.out.lt;have HSL:=zH hsl;clear hss hXs hval hgr HSRT HSP HES HX hsl hvw;go_wp2_with fail
 go_loopg [6,37] ss.length (fun c v i wr=>∃(k:Nat) (os:List SpE) (v2:Value),k<=ss.length/\c=ss.length-k/\i= .int .i64 k/\v2=v/\SpR L wr w.heap.size v2 os/\os.map SpE.vl=((sortedV ps).take k).foldl mstep []/\os.length<=k/\SpR L wr w.heap.size (.slice As ss.length cs) ss/\(∀j,v2.ownBlock=some j->ws.heap.size<=j)/\Ext w wr/\ws.heap.size<=wr.heap.size)
 case atStart=>exact⟨0,[],_,Nat.zero_le _,rfl,rfl,rfl,⟨RowN.nil _ _ _ _,by simp⟩,by simp,Nat.le_refl _,HSS.out,by intro j hj;simp[Value.ownBlock]at hj,HXS.out,Nat.le_refl _⟩
 clear HSS;obtain⟨k,os,v,hk,rfl,rfl,rfl,hos,hov,hok,hss,hfar,hx,hwz⟩:=hrel;by_cases hlt:k<ss.length
 ·have hlt2:(k:Int)<(ss.length:Int):=by omega
  obtain⟨e,he⟩:∃e,ss[k]?=some e:=⟨_,List.getElem?_eq_getElem hlt⟩;have HSTEP:=zH (show((sortedV ps).take (k+1)).foldl mstep []=mstep (os.map SpE.vl) (e.p,e.q)by rw[hov,mstep_fold (p:=(e.p,e.q)) (by rw[<-HVAL.out,List.getElem?_map,he];rfl)]);have HOKE:=zH (hss.2 e (List.mem_of_getElem? he));obtain⟨gs,caps,rs,hvs,hrs⟩:∃gs caps rs,As=some ⟨gs,0,none⟩/\Sw wr wr gs 94 SpE.cells rs ss/\caps=cs:=by
   rcases hss.form with⟨hv,hn⟩|⟨g,cap,rest,hv,_,hs,_⟩
   ·rw[hn]at hlt;simp at hlt
   injection hv with e1 _ _
   exact⟨g,cs,rest,e1,hs,rfl⟩
  subst hvs;have HRD:=zH (hrs.1.read he SpE.len);have HOS:=zH hos;have HSS:=zH hss;have HFR:=zH (And.intro hfar (And.intro hwz hok));have HX:=zH hx;have HLT:=zH hlt;clear hos hov hss hfar hx hwz hok hrs he hlt;go_upto_region 12 with fail
  refine wp_region_lit ?_;refine zq (.pointer (some ⟨gs,k*8,none⟩)) ?_;refine wpList_if (by rfl) (wp_load_mid _ _ (by rfl) gs (k*8) (by rfl) e.cells _ HRD.out Tryz.underlying94 (by rfl) (by kernel_rfl) ?_);try simp only[Act.put,zA,zB,zC]
  refine zp (w':=wr.alloc (.cells z8 94)) (.pointer (some ⟨wr.heap.size,0,none⟩)) (by go_simp) ?_;refine pO (e.cells).toArray (Blk.new wr _ _) (by simp[SpE.len]) (by rw[show((e.cells).toArray:Array Value).size=8 by simp[SpE.len]];kernel_rfl) (all_oneCell_toArray e.one) ?_
  (try simp only[Act.put])
  obtain⟨xq1,xq2⟩:=new_var wr 94 z8 (e.cells).toArray (by simp[SpE.len]);generalize (wr.alloc (.cells z8 94)).setCells wr.heap.size 0 ((e.cells).toArray:Array Value).toList=w8 at*
  generalize wr.heap.size=X8 at*
  have HEw8:=zH xq1;have HBX8:=zH xq2;clear xq1 xq2;have HX8:=zH (HX.out.trans HEw8.out);have HOS8:=zH (HOS.out.ext HEw8.out);have HSS8:=zH (HSS.out.ext HEw8.out);have HOKE8:=zH (HOKE.out.ext HEw8.out);have HZ8:=zH (Nat.le_of_lt HBX8.out.lt);clear HRD HOS HSS HOKE HX;skip
  have HOS:=HOS8;have HSS:=HSS8;have HOKE:=HOKE8;have HX:=HX8;have HBX:=HBX8;clear HOS8 HSS8 HOKE8 HX8 HBX8;rcases snoc_or os with rfl|⟨os,l,rfl⟩
  ·obtain⟨Ao,co,rfl⟩:=row_slice HOS.out.1
   go_upto_region 14 with fail
   refine wp_region_held_drew (S:=fun x=>Ext w8 x) (by kernel_rfl) (Ext.refl _).drew (fun _=> ?_);refine zv 0 (bs 14 1) (Ext.refl w8).drew ?_;refine zv 1 (bs 14 3) (Ext.refl w8).drew ?_;refine zv 2 (bs 14 7) (Ext.refl w8).drew ?_;refine zs 3 (bs 14 15) (Ext.refl w8).drew ?_;refine zs 4 (bs 14 31) (Ext.refl w8).drew ?_;refine zs 5 (bs 14 63) (Ext.refl w8).drew ?_;refine zs 6 (bs 14 127) (Ext.refl w8).drew ?_;refine zs 7 (bs 14 255) (Ext.refl w8).drew ?_;refine zs 8 (bs 14 511) (Ext.refl w8).drew ?_;refine zs 9 (bs 14 1023) (Ext.refl w8).drew ?_;refine zs 10 (bs 14 2047) (Ext.refl w8).drew ?_;refine zs 11 (bs 14 4095) (Ext.refl w8).drew ?_;refine zs 12 (bs 14 8191) (Ext.refl w8).drew ?_;refine zv 13 (bs 14 16383) (Ext.refl w8).drew ?_;refine wpAnyH_done (by kernel_rfl) ?_ _;have HSTEP2:=zH (HSTEP.out.trans (mstep_nil _));have hok3:([]:List SpE).length<=20000:=by simp
   have HEdr:=zH (show Ext w8 w8.drew from(Ext.refl _).drew);have HOSc:=zH (HOS.out.ext HEdr.out);have HSSc:=zH (HSS.out.ext HEdr.out);have HOKEc:=zH (HOKE.out.ext HEdr.out);have HBXc:=zH (HBX.out.ext HEdr.out);have HXc:=zH (HX.out.trans HEdr.out);have HZc:=zH (Nat.le_trans HZ8.out HEdr.out.size);go_upto_region 15 with fail
   refine wp_region_lit ?_;refine zp (w':=w8.drew) (.slice Ao 0 co) (by go_simp<;>with_reducible rfl) ?_;refine pL (cs:=#[.bool e.a.n,.slice e.a.p e.a.l e.a.c,.bool e.a.m,.slice e.a.p2 e.a.l2 e.a.c2,.bool e.b.n,.slice e.b.p e.b.l e.b.c,.bool e.b.m,.slice e.b.p2 e.b.l2 e.b.c2]) HBXc.out Tryz.underlying94 (by kernel_rfl) ?_;try simp only[Act.put,zA,zB,zC]
   have hbz:=HXc.out.size;have hAE:Ext w8.drew (w8.drew.alloc (.cells #[.bool e.a.n,.slice e.a.p e.a.l e.a.c,.bool e.a.m,.slice e.a.p2 e.a.l2 e.a.c2,.bool e.b.n,.slice e.b.p e.b.l e.b.c,.bool e.b.m,.slice e.b.p2 e.b.l2 e.b.c2] 94)):=(Ext.refl _).alloc _;refine zp (w':=(w8.drew.alloc (.cells #[.bool e.a.n,.slice e.a.p e.a.l e.a.c,.bool e.a.m,.slice e.a.p2 e.a.l2 e.a.c2,.bool e.b.n,.slice e.b.p e.b.l e.b.c,.bool e.b.m,.slice e.b.p2 e.b.l2 e.b.c2] 94))) (.slice (some ⟨w8.drew.heap.size,0,none⟩) 1 1) (by go_simp) ?_;refine wpList_if (by rfl) (wp_append_rowF _ _ 72 (by rfl) w.heap.size 94 i0 _ 8 128 Tryz.underlying72 HI.out.1 HI.out.2.1 HI.out.2.2.1 HI.out.2.2.2 rfl (by decide) noUL_zsp _ 0 (spCells ([]:List SpE)) (by rfl) (HOSc.out.ext hAE).1 ⟨w8.drew.heap.size,0,none⟩ 1 1 e.cells (by rfl) rfl (new_cells _ e.cells _) e.one e.noU (by decide) (by unfold maxLen;omega) (by omega) (by have:=hAE.size;omega) ?_);intro gx cx w8_ hf h2 h3 h4;try simp only[Act.put,zA,zB,zC]
   have HSN:=zH ((HOSc.out.ext hAE).snoc (es:=([]:List SpE)) (e:=e) rfl (HOKEc.out.ext hAE) h2 h4);have HXn:=zH ((HXc.out.trans hAE).grown h3 (fun j hj=>HOSc.out.1.block j hj));have HSSn:=zH ((HSSc.out.ext hAE).grown h3 (fun j hj hj2=>by have h7:=HFR.out.1 j hj2;have h8:=HSSB.out j hj;omega) h4);have HFn:=zH (show ws.heap.size<=gx from hf.elim (fun hf=>HFR.out.1 gx hf) (fun hf=>Nat.le_trans (Nat.le_trans HFR.out.2.1 HZc.out) (Nat.le_trans hAE.size hf)));have HZn:=zH (show ws.heap.size<=w8_.heap.size from Nat.le_trans (Nat.le_trans HFR.out.2.1 HZc.out) (Nat.le_trans hAE.size h3.size));clear hf h2 h3 h4 hAE hbz;refine zp (w':=w8_) (.slice (some ⟨gx,0,none⟩) (0+1) cx) (by go_simp) ?_;go_wp2_with fail
   go_roundg (ss.length-(k+1))
   case measure=>have:=HLT.out;omega
   case rel=>exact⟨k+1,([]:List SpE)++[e],_,HLT.out,rfl,by go_num,rfl,HSN.out,by rw[HSTEP2.out];simp[SpE.vl],by have:=HFR.out.2.2;simp at this⊢<;>omega,HSSn.out,by intro j hj;simp[Value.ownBlock]at hj;rw[<-hj];exact HFn.out,HXn.out,HZn.out⟩
  have hvf:∃g6 c6,v= .slice (some ⟨g6,0,none⟩) (os.length+1) c6:=by
   rcases HOS.out.form with⟨_,h⟩|⟨g6,c6,_,h,_⟩
   ·simp at h
   exact⟨g6,c6,by simpa using h⟩
  obtain⟨g6,c6,rfl⟩:=hvf;obtain⟨m,hm⟩:∃m,os.length=m:=⟨_,rfl⟩;rw[hm]at HOS HFR⊢;have HM:=zH hm;have hm3:m<=20000:=by have h:=HFR.out.2.2;rw[List.length_append,HM.out]at h;omega
  have wm_:IntKind.i64.wrap (m:Int)=(m:Int):=by rw[IntKind.wrap_i64];omega
  have HOKL:=zH (HOS.out.2 l (by simp));have HST:=zH (HSTEP.out.trans (show mstep ((os++[l]).map SpE.vl) (e.p,e.q)=if l.q<e.p then os.map SpE.vl++[(l.p,l.q)]++[(e.p,e.q)]else if l.q<e.q then os.map SpE.vl++[(l.p,e.q)]else os.map SpE.vl++[(l.p,l.q)]by rw[List.map_append];exact mstep_app _ _ _));have e1:((m+1:Nat):Int)-1=(m:Int):=by omega
  have e2:(m:Int)+1-1=(m:Int):=by omega
  have e3:((m:Int)+1==0)=false:=by simp;omega
  have e4:(((m+1:Nat):Int)==0)=false:=by simp;omega
  have e5:(m:Int)<(m:Int)+1:=by omega
  have RDE:=zH (HOS.out.readEnd HM.out);clear hm;go_upto_region 14 with fail
  have RDE8:=zH (HOS.out.readEnd HM.out);have HOKL8:=zH (HOS.out.2 l (by simp));clear RDE HOKL;refine wp_region_held_drew (S:=fun x=>Ext w8 x) (by kernel_rfl) (Ext.refl _).drew (fun _=> ?_);refine zv 0 (bs 14 1) (Ext.refl w8).drew ?_;refine zv 1 (bs 14 3) (Ext.refl w8).drew ?_;refine zv 2 (bs 14 7) (Ext.refl w8).drew ?_;refine zv 3 (bs 14 15) (Ext.refl w8).drew ?_;refine zv 4 (bs 14 31) (Ext.refl w8).drew ?_;refine zv 5 (bs 14 63) (Ext.refl w8).drew ?_;refine zv 6 (bs 14 127) (Ext.refl w8).drew ?_;refine mV 7 (bs 14 255) (Ext.refl w8).drew ?_;refine zr 8 (bs 14 511) g6 (m*8+4) [.bool l.b.n,.slice l.b.p l.b.l l.b.c,.bool l.b.m,.slice l.b.p2 l.b.l2 l.b.c2] (fun x hx=>range_ext RDE8.out hx) Tryz.underlying33 (Ext.refl w8).drew ?_;refine mV 9 (bs 14 1023) (Ext.refl w8).drew ?_;refine mP 10 (bs 14 2047) 0 4 (fun x hx=>HBX.out.ext hx) Tryz.underlying33 (by simp[SpE.len]) (Ext.refl w8).drew ?_;try simp only[Act.put,zA,zB,zC]
  obtain⟨z,hz⟩:∃z,z=rcmp l.q e.p:=⟨_,rfl⟩;have hzl:z<0↔l.q<e.p:=by rw[hz];exact rcmp_lt
  refine mC 11 (bs 14 4095) (pCmpS (L:=L) hz (NIn.ofb (HOKL8.out.ext (Ext.refl _).drew)) (HOKE.out.ext (Ext.refl _).drew).ptIn.c0 (by omega)) ?_;rintro e w9 ⟨rfl,hx⟩;have HEw9:=zH (show Ext w8 w9 from((Ext.refl w8).drew).trans hx);clear hx;refine⟨_,rfl,HEw9.out,?_⟩;try simp only[Act.put,zA,zB,zC]
  clear hz;by_cases c1:l.q<e.p
  ·have hz2:z<0:=hzl.2 c1
   clear hzl;refine zv 12 (bs 14 8191) HEw9.out ?_;refine zv 13 (bs 14 16383) HEw9.out ?_;refine wpAnyH_done (by kernel_rfl) ?_ _;have HSTEP2:=zH (HST.out.trans (if_pos c1));clear c1;have HOSc:=zH (HOS.out.ext HEw9.out);have HSSc:=zH (HSS.out.ext HEw9.out);have HOKEc:=zH (HOKE.out.ext HEw9.out);have HBXc:=zH (HBX.out.ext HEw9.out);have HXc:=zH (HX.out.trans HEw9.out);have HZc:=zH (Nat.le_trans HZ8.out HEw9.out.size);go_upto_region 15 with fail
   refine wp_region_lit ?_;refine zq (.slice (some ⟨g6,0,none⟩) (m+1) c6) ?_;refine pL (cs:=#[.bool e.a.n,.slice e.a.p e.a.l e.a.c,.bool e.a.m,.slice e.a.p2 e.a.l2 e.a.c2,.bool e.b.n,.slice e.b.p e.b.l e.b.c,.bool e.b.m,.slice e.b.p2 e.b.l2 e.b.c2]) HBXc.out Tryz.underlying94 (by kernel_rfl) ?_;try simp only[Act.put,zA,zB,zC]
   have hbz:=HXc.out.size;have hAE:Ext w9 (w9.alloc (.cells #[.bool e.a.n,.slice e.a.p e.a.l e.a.c,.bool e.a.m,.slice e.a.p2 e.a.l2 e.a.c2,.bool e.b.n,.slice e.b.p e.b.l e.b.c,.bool e.b.m,.slice e.b.p2 e.b.l2 e.b.c2] 94)):=(Ext.refl _).alloc _;refine zp (w':=(w9.alloc (.cells #[.bool e.a.n,.slice e.a.p e.a.l e.a.c,.bool e.a.m,.slice e.a.p2 e.a.l2 e.a.c2,.bool e.b.n,.slice e.b.p e.b.l e.b.c,.bool e.b.m,.slice e.b.p2 e.b.l2 e.b.c2] 94))) (.slice (some ⟨w9.heap.size,0,none⟩) 1 1) (by go_simp) ?_;refine wpList_if (by rfl) (wp_append_rowF _ _ 72 (by rfl) w.heap.size 94 i0 _ 8 128 Tryz.underlying72 HI.out.1 HI.out.2.1 HI.out.2.2.1 HI.out.2.2.2 rfl (by decide) noUL_zsp _ (m+1) (spCells (os++[l])) (by rfl) (by have h:=(HOSc.out.ext hAE).1;rw[List.length_append,HM.out]at h;exact h) ⟨w9.heap.size,0,none⟩ 1 1 e.cells (by rfl) rfl (new_cells _ e.cells _) e.one e.noU (by decide) (by unfold maxLen;omega) (by omega) (by have:=hAE.size;omega) ?_);intro gx cx w8_ hf h2 h3 h4;try simp only[Act.put,zA,zB,zC]
   have HSN:=zH ((HOSc.out.ext hAE).snoc (es:=(os++[l])) (e:=e) (by rw[List.length_append,HM.out];rfl) (HOKEc.out.ext hAE) h2 h4);have HXn:=zH ((HXc.out.trans hAE).grown h3 (fun j hj=>HOSc.out.1.block j hj));have HSSn:=zH ((HSSc.out.ext hAE).grown h3 (fun j hj hj2=>by have h7:=HFR.out.1 j hj2;have h8:=HSSB.out j hj;omega) h4);have HFn:=zH (show ws.heap.size<=gx from hf.elim (fun hf=>HFR.out.1 gx hf) (fun hf=>Nat.le_trans (Nat.le_trans HFR.out.2.1 HZc.out) (Nat.le_trans hAE.size hf)));have HZn:=zH (show ws.heap.size<=w8_.heap.size from Nat.le_trans (Nat.le_trans HFR.out.2.1 HZc.out) (Nat.le_trans hAE.size h3.size));clear hf h2 h3 h4 hAE hbz;refine zp (w':=w8_) (.slice (some ⟨gx,0,none⟩) ((m+1)+1) cx) (by go_simp) ?_;go_wp2_with fail
   go_roundg (ss.length-(k+1))
   case measure=>have:=HLT.out;omega
   case rel=>exact⟨k+1,(os++[l])++[e],_,HLT.out,rfl,by go_num,rfl,HSN.out,by rw[HSTEP2.out];simp[SpE.vl],by have:=HFR.out.2.2;simp at this⊢<;>omega,HSSn.out,by intro j hj;simp[Value.ownBlock]at hj;rw[<-hj];exact HFn.out,HXn.out,HZn.out⟩
  have hz2:¬z<0:=fun h=>c1 (hzl.1 h)
  clear hzl;refine zv 12 (bs 14 8191) HEw9.out ?_;refine zv 13 (bs 14 16383) HEw9.out ?_;refine wpAnyH_done (by kernel_rfl) ?_ _;have HST2:=zH (HST.out.trans (if_neg c1));clear c1;go_upto_region 16 with fail
  have RDE9:=zH (range_ext RDE8.out HEw9.out);have HBX9:=zH (HBX.out.ext HEw9.out);have HOKL9:=zH (HOKL8.out.ext HEw9.out);have HOKE9:=zH (HOKE.out.ext HEw9.out);refine wp_region_held_drew (S:=fun x=>Ext w9 x) (by kernel_rfl) (Ext.refl _).drew (fun _=> ?_);refine zv 0 (bs 10 1) (Ext.refl w9).drew ?_;refine zv 1 (bs 10 3) (Ext.refl w9).drew ?_;refine zv 2 (bs 10 7) (Ext.refl w9).drew ?_;refine zv 3 (bs 10 15) (Ext.refl w9).drew ?_;refine mV 4 (bs 10 31) (Ext.refl w9).drew ?_;refine zr 5 (bs 10 63) g6 (m*8+4) [.bool l.b.n,.slice l.b.p l.b.l l.b.c,.bool l.b.m,.slice l.b.p2 l.b.l2 l.b.c2] (fun x hx=>range_ext RDE9.out hx) Tryz.underlying33 (Ext.refl w9).drew ?_;refine mV 6 (bs 10 127) (Ext.refl w9).drew ?_;refine mP 7 (bs 10 255) 4 4 (fun x hx=>HBX9.out.ext hx) Tryz.underlying33 (by simp[SpE.len]) (Ext.refl w9).drew ?_;try simp only[Act.put,zA,zB,zC]
  obtain⟨z2,hzz⟩:∃z,z=rcmp l.q e.q:=⟨_,rfl⟩;have hzl:z2<0↔l.q<e.q:=by rw[hzz];exact rcmp_lt
  refine mC 8 (bs 10 511) (pCmpS (L:=L) hzz (NIn.ofb (HOKL9.out.ext (Ext.refl _).drew)) (HOKE9.out.ext (Ext.refl _).drew).ptIn.c1 (by omega)) ?_;rintro e wb ⟨rfl,hx⟩;have HEwb:=zH (show Ext w9 wb from((Ext.refl w9).drew).trans hx);clear hx;refine⟨_,rfl,HEwb.out,?_⟩;try simp only[Act.put,zA,zB,zC]
  clear hzz;have HEb:=zH (HEw9.out.trans HEwb.out);have HOSc:=zH (HOS.out.ext HEb.out);have HSSc:=zH (HSS.out.ext HEb.out);have HOKEc:=zH (HOKE.out.ext HEb.out);have HBXc:=zH (HBX.out.ext HEb.out);have HXc:=zH (HX.out.trans HEb.out);have HZc:=zH (Nat.le_trans HZ8.out HEb.out.size);by_cases c2:l.q<e.q
  ·have hz2:z2<0:=hzl.2 c2
   clear hzl;refine zv 9 (bs 10 1023) HEwb.out ?_;refine wpAnyH_done (by kernel_rfl) ?_ _;have HSTEP2:=zH (HST2.out.trans (if_pos c2));clear c2;go_upto_region 17 with fail
   refine wp_region_lit ?_;refine qV (.slice (some ⟨g6,0,none⟩) (m+1) c6) ?_;refine zq (.int .i64 ((m:Int)+1)) ?_;refine qV (.int .i64 m) ?_;refine zq (.pointer (some ⟨X8,4,none⟩)) ?_;refine wpList_if (by rfl) (wp_load_mid _ _ (by rfl) X8 (4) (by rfl) [.bool e.b.n,.slice e.b.p e.b.l e.b.c,.bool e.b.m,.slice e.b.p2 e.b.l2 e.b.c2] _ (show World.rangeAt wb X8 4 [.bool e.b.n,.slice e.b.p e.b.l e.b.c,.bool e.b.m,.slice e.b.p2 e.b.l2 e.b.c2]from HBXc.out.part 4 4) Tryz.underlying33 (by rfl) (by kernel_rfl) ?_);try simp only[Act.put,zA,zB,zC]
   refine qV (.pointer (some ⟨g6,m*8,none⟩)) ?_;refine zq (.pointer (some ⟨g6,m*8+4,none⟩)) ?_;obtain⟨t1,t2,t3⟩:=HOSc.out.turn HM.out HOKEc.out;obtain⟨csr,hbr,hnr⟩:=HOSc.out.rowNoU;refine wpList_if (by rfl) (wp_store_mid 33 _ _ (by rfl) g6 (m*8+4) [.bool e.b.n,.slice e.b.p e.b.l e.b.c,.bool e.b.m,.slice e.b.p2 e.b.l2 e.b.c2].toArray (by rfl) (by rfl) t1 (by kernel_rfl) (all_oneCell_toArray (by simp[Value.oneCell'])) ?_)
   (try simp only[Act.put])
   have HSN:=zH t2;have hgb:w.heap.size<=g6:=HOSc.out.1.block g6 (by simp[Value.ownBlock]);have HXn:=zH (t3.ext HXc.out hgb);have HSSn:=zH (HSSc.out.grown (row:=some g6) t3 (fun j hj hj2=>by injection hj2 with hj2;have h7:=HFR.out.1 j (by simp[Value.ownBlock,hj2]);have h8:=HSSB.out j hj;omega) (fun r q h=>h.own hbr hnr t3));have HZn:=zH (Nat.le_trans (Nat.le_trans HFR.out.2.1 HZc.out) t3.size);clear t1 t2 t3 hbr hnr hgb;generalize World.setCells wb g6 (m*8+4) _=wn at*
   go_wp2_with fail
   go_roundg (ss.length-(k+1))
   case measure=>have:=HLT.out;omega
   case rel=>exact⟨k+1,os++[⟨l.a,e.b,l.p,e.q⟩],_,HLT.out,rfl,by go_num,rfl,HSN.out,by rw[HSTEP2.out];simp[SpE.vl],by have:=HFR.out.2.2;simp at this⊢<;>omega,HSSn.out,HFR.out.1,HXn.out,HZn.out⟩
  have hz2:¬z2<0:=fun h=>c2 (hzl.1 h)
  clear hzl;refine zv 9 (bs 10 1023) HEwb.out ?_;refine wpAnyH_done (by kernel_rfl) ?_ _;have HSTEP2:=zH (HST2.out.trans (if_neg c2));clear c2;go_wp2_with fail
  go_roundg (ss.length-(k+1))
  case measure=>have:=HLT.out;omega
  case rel=>exact⟨k+1,os++[l],_,HLT.out,rfl,by go_num,rfl,(by have h:=HOSc.out;exact h),by rw[HSTEP2.out,List.map_append];rfl,by have:=HFR.out.2.2;omega,HSSc.out,HFR.out.1,HXc.out,Nat.le_trans HFR.out.2.1 HZc.out⟩
 obtain rfl:k=ss.length:=by omega
 have hge2:¬(ss.length:Int)<(ss.length:Int):=by omega
 have HR:=zH (show os.map SpE.vl=mergeV ps by rw[hov,List.take_of_length_le (by rw[<-HVAL.out,List.length_map];exact Nat.le_refl _)];rfl);have HOS:=zH hos;have HX2:=zH hx;have HLE:=zH (show os.length<=ps.length by have:=HSL.out;omega);clear hos hov hok hss hfar hx hwz;go_wp2_with fail
 go_ret
 exact⟨_,rfl,os,HOS.out,HR.out,HLE.out,HX2.out⟩
theorem spans_any (L:Nat)(u:Value)(rs:List Ring)(rule:Int)(ry:RV)(y:Rat)(w:World)(hu:RingsV w u rs)(hy:ry.In L w y)(h1L:1<=L)(hL:L<=2000)(hn:rs.length<=1048576)(hr:∀r,r∈rs->r.length<=1048576)(hru: -9223372036854775808<=rule/\rule<=9223372036854775807):
  Calls Tryz.prog 47 #[u,.int .i64 rule,.agg #[.bool ry.n,.slice ry.p ry.l ry.c,.bool ry.m,.slice ry.p2 ry.l2 ry.c2]] w fun e w'=>∃v es,e= .returned v/\SpR (L+8) w' w.heap.size v es/\es.map SpE.vl=spansV rule (marksV y rs)/\es.length<=4096/\Ext w w':=by
 have HU:=zH hu;have RY:=zH hy;have HRU:=zH hru;clear hu hy hru;go_enter Tryz.func47,Tryz.ntmps47
 have H0:=zH (Hp.start w);go_upto_region 0 with fail
 refine wl ?_;refine aA' 33 (rc ry) H0.out ?_;intro X1 w2 H3 _;refine zI1 (Hp.start _) _ ?_;go_upto_region 3 with fail
 refine wl ?_;refine zI2 H3.out (u) _ ?_;refine zc (marks_any L u rs ry y _ (HU.out.ext H3.out.ext) (RY.out.dig H3.out.dig0) h1L (by omega) hn hr) ?_;rintro e w8 ⟨Am,nm_,cm,ms,rfl,rfl,hrow_,hok_,hval_,hx⟩;have HVAL:=zH hval_;have HOK:=zH hok_;obtain⟨Am2_,cm2_,hv_,hA_⟩:=RowN.form hrow_;injection hv_ with e1_ _ _
 subst e1_;have HA:=zH hA_;clear hval_ hok_ hA_;have H9:=zH (show Hp w w8 [.blk X1 33 (rc ry),ro 98 5 Am ms.length cm MkE.cells ms]from H3.out.addRow hx hrow_);clear hrow_;have hms4:ms.length<=4096:=by have h:=marksV_len y rs;rw[<-HVAL.out,List.length_map]at h;exact h
 clear hx;refine zn ?_;refine zI1 (Hp.start _) _ ?_;have H12:=zH (show Hp w w8 [.blk X1 33 (rc ry),ro 98 5 Am ms.length cm MkE.cells ms,ro 94 8 none 0 0 SpE.cells ([])]from H9.out.addNil 94 8);obtain⟨qs,hqs⟩:∃qs,qs=ms.map MkE.vl:=⟨_,rfl⟩;have HQS:=zH hqs;have hql:qs.length=ms.length:=by rw[hqs,List.length_map]
 clear hqs;go_wp2_with fail
 go_loopg [7,8,17] (ms.length) (fun cq v13 v14 v15 wr=>∃(k:Nat) (m:Nat) (es:List SpE) (A1:Option Addr) (c1:Nat) (s:Int),cq=ms.length-k/\v13= .slice A1 m c1/\v14= .int .i64 s/\v15= .int .i64 (k:Int)/\(k<=ms.length)/\(psum qs k=s)/\(-(k:Int)<=s/\s<=k)/\(m=es.length/\m<=k)/\(es.map SpE.vl=sel rule ((runs 0 qs).take k))/\(∀e,e∈es->e.Ok (L+8) wr)/\Hp w wr [.blk X1 33 [.bool ry.n,.slice ry.p ry.l ry.c,.bool ry.m,.slice ry.p2 ry.l2 ry.c2],.row 98 5 (.slice Am ms.length cm) (ms.length) (List.flatMap MkE.cells ms),.row 94 8 (.slice A1 m c1) (m) (List.flatMap SpE.cells es)]/\Dig w8 wr)
 case atStart=>exact⟨0,0,[],none,0,0,rfl,rfl,rfl,rfl,Nat.zero_le _,rfl,⟨by decide,by decide⟩,⟨rfl,Nat.le_refl _⟩,rfl,(by simp),H12.out,Dig.refl _⟩
 obtain⟨k,m,es,A1,c1,s,rfl,rfl,rfl,rfl,q_HK,q_HPV,q_HSM,q_HM,q_HSEL,q_HOE,hh_,hd_⟩:=hrel;generalize wr=w16 at*
 have HK:=zH q_HK;clear q_HK;have HPV:=zH q_HPV;clear q_HPV;have HSM:=zH q_HSM;clear q_HSM;have HM:=zH q_HM;clear q_HM;have HSEL:=zH q_HSEL;clear q_HSEL;have HOE:=zH q_HOE;clear q_HOE;have H18:=zH hh_;have D18:=zH hd_;clear hh_ hd_ H12;rcases emH (k<ms.length)with HLT|HLT
 ·have hlt:=HLT.out
  have hlt2:(k:Int)<(ms.length:Int):=by omega
  obtain⟨gm,rfl⟩:=HA.out (by omega);have hk4:k<=4096:=by omega
  have hm4:m<=4096:=by have:=HM.out.2;omega
  have hsm:=HSM.out;obtain⟨e,he_⟩:∃e,ms[k]?=some e:=⟨_,List.getElem?_eq_getElem hlt⟩;have HEe:=zH he_;have HOe:=zH (HOK.out e (List.mem_of_getElem? he_));have RAe:=zH HOe.out.1;have BAe:=zH HOe.out.2.1;clear he_;have hup:=HOe.out.2.2;have hqk:qs[k]?=some e.vl:=by rw[HQS.out,List.getElem?_map,HEe.out];rfl
  have HPS:=zH (show psum qs (k+1)=s+e.up from by rw[psum_succ hqk,HPV.out];rfl);have HQK:=zH hqk;clear hqk;go_upto_region 6 with fail
  refine wl ?_;refine zq (.int .i64 (k:Int)) ?_;refine zp (.pointer (some ⟨gm,k*5,none⟩)) (by exact ezi (k:=k) Tryz.underlying95 (l:=HLT.out) (f:=(Nat.zero_add _).symm)) ?_;refine zd gm (k*5) [.bool e.a.n,.slice e.a.p e.a.l e.a.c,.bool e.a.m,.slice e.a.p2 e.a.l2 e.a.c2,.int .i64 e.up] (H18.out.elem (f:=MkE.cells) (i:=1) rR MkE.len HEe.out) Tryz.underlying98 ?_;refine aA' 98 [.bool false,.slice none 0 0,.bool false,.slice none 0 0,.int .i64 0] H18.out ?_;intro X22 w23 H24 D24;refine zq (.int .i64 (k:Int)) ?_;refine aS' 3 [.bool e.a.n,.slice e.a.p e.a.l e.a.c,.bool e.a.m,.slice e.a.p2 e.a.l2 e.a.c2,.int .i64 e.up] H24.out ?_;intro w28 H29 D29;go_upto_region 7 with fail
  refine wl ?_;refine zI3 H29.out (.int .i64 s) _ _ ?_;refine zp (.int .i64 (s+e.up)) (by exact ez1 (by omega)) ?_;refine zq (.int .i64 (s+e.up)) ?_;rcases emH (k+1<ms.length)with CK|CK
  ·have hk1:=CK.out
   obtain⟨f,he_⟩:∃f,ms[k+1]?=some f:=⟨_,List.getElem?_eq_getElem hk1⟩;have HEf:=zH he_;have HOf:=zH (HOK.out f (List.mem_of_getElem? he_));have RAf:=zH HOf.out.1;have BAf:=zH HOf.out.2.1;clear he_;have HRG:=zH (runs_get qs 0 k e.vl f.vl HQK.out (by rw[HQS.out,List.getElem?_map,HEf.out];rfl));have HRN:=zH (show 0+psum qs (k+1)=s+e.up by rw[HPS.out];omega);rcases hcf:fillsV (s+e.up) rule with _|_
   ·have CF:=zH hcf
    clear hcf;go_upto_region 8 with fail
    refine wl ?_;refine zq (.int .i64 (k:Int)) ?_;refine zp (.int .i64 ((k+1:Nat):Int)) (by exact ez1 (by omega)) ?_;refine zI2 (Hp.start _) _ (.int .i64 ((ms.length:Nat):Int)) ?_;refine zp (.bool true) (by exact ezl (e:=(dec_t (by omega)))) ?_;refine zI3 (Hp.start _) (.bool true) (.int .i64 (s+e.up)) (.int .i64 rule) ?_;refine zc (fills_any (s+e.up) rule _ ⟨(by omega),(by omega)⟩ HRU.out) ?_;rintro e w44 ⟨rfl,hx⟩;have H45:=zH (H29.out.step hx);have D45:=zH (Dig.of_ext hx);clear hx;refine⟨.bool false,by rw[CF.out],?_⟩;try simp only[Act.put,zA,zB,zC]
    refine zq (.bool false) ?_;have DD48:=tD (tD D24 D29) D45;have DD49:=tD (tD (tD D18 D24) D29) D45;go_wp2_with fail
    go_roundg (ms.length-(k+1))
    case measure=>exact(by have ob2:=HLT.out;omega)
    case rel=>exact⟨k+1,m,es,A1,c1,s+e.up,rfl,rfl,rfl,(by go_num),HLT.out,HPS.out,⟨by omega,by omega⟩,⟨HM.out.1,by have:=HM.out.2;omega⟩,(by rw[HSEL.out,sel_take HRG.out,if_neg (by rw[HRN.out,CF.out];decide),List.append_nil]),(fun g hg=>(HOE.out g hg).dig DD48.out),H45.out.take 3,DD49.out⟩
   have CF:=zH hcf;clear hcf;go_upto_region 8 with fail
   refine wl ?_;refine zq (.int .i64 (k:Int)) ?_;refine zp (.int .i64 ((k+1:Nat):Int)) (by exact ez1 (by omega)) ?_;refine zI2 (Hp.start _) _ (.int .i64 ((ms.length:Nat):Int)) ?_;refine zp (.bool true) (by exact ezl (e:=(dec_t (by omega)))) ?_;refine zI3 (Hp.start _) (.bool true) (.int .i64 (s+e.up)) (.int .i64 rule) ?_;refine zc (fills_any (s+e.up) rule _ ⟨(by omega),(by omega)⟩ HRU.out) ?_;rintro e w58 ⟨rfl,hx⟩;have H59:=zH (H29.out.step hx);have D59:=zH (Dig.of_ext hx);clear hx;refine⟨.bool true,by rw[CF.out],?_⟩;try simp only[Act.put,zA,zB,zC]
   refine zq (.bool true) ?_;go_upto_region 9 with fail
   refine wp_region_held_drew (S:=fun x=>Fr (fun kz=>Value.ownBlock (.slice A1 m c1)=some kz) w58 x) kR (Fr.of_ext zb) (fun _=> ?_);have H62:=zH (H59.out.step (Ext.refl w58).drew);have D62:=zH (Dig.of_ext (w:=w58) zb);refine zx 0 (bs 13 1) (.slice A1 m c1) (Fr.of_ext zb) ?_;refine mX 1 (bs 13 3) (.pointer (some ⟨X22,0,none⟩)) (Fr.of_ext zb) ?_;refine zr 2 (bs 13 7) X22 (0) [.bool e.a.n,.slice e.a.p e.a.l e.a.c,.bool e.a.m,.slice e.a.p2 e.a.l2 e.a.c2] (fun x hx=>Fr.range hx (show World.rangeAt w58 X22 (0) [.bool e.a.n,.slice e.a.p e.a.l e.a.c,.bool e.a.m,.slice e.a.p2 e.a.l2 e.a.c2]from(H59.out.range (i:=3) rR 0 4)) (H59.out.offRow (i:=3) (j:=2) rR rR dC rR)) Tryz.underlying33 (Fr.of_ext zb) ?_;refine zx 3 (bs 13 15) (.slice (some ⟨gm,0,none⟩) ms.length cm) (Fr.of_ext zb) ?_;refine zx 4 (bs 13 31) (.int .i64 (k:Int)) (Fr.of_ext zb) ?_;refine zu 5 (bs 13 63) (v:= .int .i64 ((k+1:Nat):Int)) (Fr.of_ext zb) ?_ (hv:=by intro w hSw;exact ez1 (by omega));refine zu 6 (bs 13 127) (v:= .pointer (some ⟨gm,(k+1)*5,none⟩)) (Fr.of_ext zb) ?_ (hv:=by intro w hSw;exact ezi (k:=k+1) Tryz.underlying95 (l:=CK.out) (f:=(Nat.zero_add _).symm));refine mX 7 (bs 13 255) (.pointer (some ⟨gm,(k+1)*5,none⟩)) (Fr.of_ext zb) ?_;refine zr 8 (bs 13 511) gm ((k+1)*5) [.bool f.a.n,.slice f.a.p f.a.l f.a.c,.bool f.a.m,.slice f.a.p2 f.a.l2 f.a.c2] (fun x hx=>Fr.range hx (show World.rangeAt w58 gm ((k+1)*5) [.bool f.a.n,.slice f.a.p f.a.l f.a.c,.bool f.a.m,.slice f.a.p2 f.a.l2 f.a.c2]from(range_part (H59.out.elem (f:=MkE.cells) (i:=1) rR MkE.len HEf.out) 0 4)) (H59.out.offRow (i:=1) (j:=2) rR rR dC rR)) Tryz.underlying33 (Fr.of_ext zb) ?_;refine zx 9 (bs 13 1023) (.agg #[.bool e.a.n,.slice e.a.p e.a.l e.a.c,.bool e.a.m,.slice e.a.p2 e.a.l2 e.a.c2,.bool f.a.n,.slice f.a.p f.a.l f.a.c,.bool f.a.m,.slice f.a.p2 f.a.l2 f.a.c2]) (Fr.of_ext zb) ?_;refine mU 10 (bs 13 2047) (v:= .slice (some ⟨w58.drew.heap.size,0,none⟩) 1 1) (w':=(w58.drew.alloc (.cells ([.bool e.a.n,.slice e.a.p e.a.l e.a.c,.bool e.a.m,.slice e.a.p2 e.a.l2 e.a.c2,.bool f.a.n,.slice f.a.p f.a.l f.a.c,.bool f.a.m,.slice f.a.p2 f.a.l2 f.a.c2]:List Value).toArray 94))) ((Fr.of_ext zb).trans (Fr.of_ext ((Ext.refl w58.drew).alloc _))) ?_;try simp only[Act.put,zA,zB,zC]
   refine md_app (j:=11) (listed':=(bs 13 4095)) rR kR rR _ _ _ rR elSpan rR H62.out (ix:=2) rR 1 1 [.bool e.a.n,.slice e.a.p e.a.l e.a.c,.bool e.a.m,.slice e.a.p2 e.a.l2 e.a.c2,.bool f.a.n,.slice f.a.p f.a.l f.a.c,.bool f.a.m,.slice f.a.p2 f.a.l2 f.a.c2] rR rfl (by simp[Value.oneCell']) (by simp[NoUL]) dC (by unfold maxLen;exact(by omega)) (by omega) kR ?_;intro g73 cp74 w72 hf hh hd hg;have Fg73:=zH hf;clear hf;rw[show List.flatMap SpE.cells es++[.bool e.a.n,.slice e.a.p e.a.l e.a.c,.bool e.a.m,.slice e.a.p2 e.a.l2 e.a.c2,.bool f.a.n,.slice f.a.p f.a.l f.a.c,.bool f.a.m,.slice f.a.p2 f.a.l2 f.a.c2]=_ from flat_snoc SpE.cells _ (⟨e.a,f.a,e.q,f.q⟩:SpE)]at hh;have H75:=hN hh;have D75:=zH (show Dig w58.drew w72 from hd);have S77:=zH (show Fr (fun kz=>Value.ownBlock (.slice A1 m c1)=some kz) w58 w72 from Fr.trans_new ((Fr.of_ext zb).trans (Fr.of_ext ((Ext.refl _).alloc _))) hg (fun j hj=> .inl hj));clear hh hd hg;refine⟨S77.out,?_⟩;try simp only[Act.put,zA,zB,zC]
   refine zx 12 (bs 13 8191) (.slice (some ⟨g73,0,none⟩) (m+1) cp74) S77.out ?_;refine wpAnyH_done kR ?_ _;have DD79:=tD (tD (tD (tD D24 D29) D59) D62) D75;have DD80:=tD (tD (tD (tD (tD D18 D24) D29) D59) D62) D75;have HOKN:=zH (show SpE.Ok (L+8) w72 (⟨e.a,f.a,e.q,f.q⟩:SpE)from⟨(RAe.out.dig DD80.out),(RAf.out.dig DD80.out),BAe.out,BAf.out⟩);go_wp2_with fail
   go_roundg (ms.length-(k+1))
   case measure=>exact(by have ob2:=HLT.out;omega)
   case rel=>exact⟨k+1,m+1,es++[(⟨e.a,f.a,e.q,f.q⟩:SpE)],some ⟨g73,0,none⟩,cp74,s+e.up,rfl,rfl,rfl,(by go_num),HLT.out,HPS.out,⟨by omega,by omega⟩,⟨by rw[List.length_append,<-HM.out.1];rfl,by have:=HM.out.2;omega⟩,(by rw[List.map_append,HSEL.out,sel_take HRG.out,if_pos (by rw[HRN.out];exact CF.out)];rfl),(fun g hg=>(List.mem_append.1 hg).elim (fun hg=>(HOE.out g hg).dig DD79.out) (fun hg=>by rw[List.mem_singleton.1 hg];exact HOKN.out)),H75.out.take 3,DD80.out⟩
  have hk1:=CK.out;go_upto_region 8 with fail
  refine wl ?_;refine zq (.int .i64 (k:Int)) ?_;refine zp (.int .i64 ((k+1:Nat):Int)) (by exact ez1 (by omega)) ?_;refine zI2 (Hp.start _) _ (.int .i64 ((ms.length:Nat):Int)) ?_;refine zp (.bool false) (by exact ezl (e:=(dec_f (by omega)))) ?_;refine zI5 (Hp.start _) (.bool false) _ _ _ (.bool false) ?_;have DD88:=tD D24 D29;have DD89:=tD (tD D18 D24) D29;go_wp2_with fail
  go_roundg (ms.length-(k+1))
  case measure=>exact(by have ob2:=HLT.out;omega)
  case rel=>exact⟨k+1,m,es,A1,c1,s+e.up,rfl,rfl,rfl,(by go_num),HLT.out,HPS.out,⟨by omega,by omega⟩,⟨HM.out.1,by have:=HM.out.2;omega⟩,(by rw[HSEL.out,List.take_of_length_le (show(runs 0 qs).length<=k by rw[runs_len];omega),List.take_of_length_le (show(runs 0 qs).length<=k+1 by rw[runs_len];omega)]),(fun g hg=>(HOE.out g hg).dig DD88.out),H29.out.take 3,DD89.out⟩
 obtain rfl:k=ms.length:=by have:=HK.out;have:=HLT.out;omega
 have hge:¬(ms.length:Int)<(ms.length:Int):=by omega
 have HRW:=zH (H18.out.row (i:=2) (by rfl));have hm4:m<=4096:=by have:=HM.out.2;omega
 have hme:=HM.out.1;subst hme;go_upto_region 11 with fail
 refine wl ?_;refine zI1 (Hp.start _) _ ?_;refine zc (merge_any (L+8) _ (List.map SpE.vl es) _ (SpR.reads ⟨HRW.out,HOE.out⟩) (by omega) (by omega) (by rw[List.length_map];omega)) ?_;rintro e w91 ⟨vm,em,rfl,hm1,hm2,hm3,hx⟩;have H92:=zH (H18.out.step hx);clear hx;refine zn ?_;refine zq (vm) ?_;go_wp2_with fail
 go_ret
 exact⟨_,rfl,em,SpR.base hm1 H18.out.ext.size,by rw[hm2,HSEL.out,List.take_of_length_le (by rw[runs_len];omega),HQS.out,HVAL.out];rfl,Nat.le_trans hm3 (by rw[List.length_map];exact hm4),H92.out.ext⟩
theorem lenV_take {f t:Rat}{es:List SpE}{k:Nat}{e:SpE}(h:es[k]?=some e):lenV f t ((es.map SpE.vl).take (k+1))=lenV f t ((es.map SpE.vl).take k)+len1 f t (e.p,e.q):=by
  rw[List.take_add_one,List.getElem?_map,h];simp only[Option.map_some,Option.toList_some];rw[lenV_app,lenV_cons,lenV_nil];show _+(len1 f t (e.p,e.q)+0)=_;grind
theorem len1_case {f t p q a b:Rat}(ha:a=if p<f then f else p)(hb:b=if t<q then t else q):len1 f t (p,q)=if a<b then b-a else 0:=by subst ha hb;unfold len1;grind
theorem lengthG_any (L:Nat)(u:Value)(ps:List QQ)(rf rt:RV)(f t:Rat)(w:World)(hu:SpansV L w u ps)(hf:rf.In L w f)(ht:rt.In L w t)(h1L:1<=L)(hL:L<=20000)(hn:ps.length<=1200)(hLn:ps.length*(2*L+2)<=50400):
  Calls Tryz.prog 46 #[u,.agg #[.bool rf.n,.slice rf.p rf.l rf.c,.bool rf.m,.slice rf.p2 rf.l2 rf.c2],.agg #[.bool rt.n,.slice rt.p rt.l rt.c,.bool rt.m,.slice rt.p2 rt.l2 rt.c2]] w fun e w'=>∃r:RV,e= .returned (.agg #[.bool r.n,.slice r.p r.l r.c,.bool r.m,.slice r.p2 r.l2 r.c2])/\r.Is w' (lenV f t (mergeV ps))/\Nm.rl (lenV f t (mergeV ps))<=60000/\Ext w w':=by
 have HU:=zH hu;have RF:=zH hf;have RT:=zH ht;clear hu hf ht;go_enter Tryz.func46,Tryz.ntmps46
 have H0:=zH (Hp.start w);go_upto_region 0 with fail
 refine wl ?_;refine aA' 33 (rc rf) H0.out ?_;intro X232 w233 H234 _;refine aA' 33 (rc rt) H234.out ?_;intro X237 w238 H239 _;refine aA' 33 rz H239.out ?_;intro X242 w243 H244 _;go_upto_region 1 with fail
 refine wl ?_;refine zc (pFrom 0 _ (by omega) (by omega)) ?_;rintro e w247 ⟨c_,rfl,hc_,hx⟩;have H249:=zH (H244.out.step hx);obtain⟨r248,rfl,hr_⟩:=hc_;have R248:=zH hr_;have B248:=zH (rl_i64 0 (by omega) (by omega));clear hr_ hx;refine zn ?_;refine aA' 33 rz H249.out ?_;intro X251 w252 H253 D253;refine aS' 3 (rc r248) H253.out ?_;intro w256 H257 D257;go_upto_region 2 with fail
 refine wl ?_;refine zI1 (Hp.start _) _ ?_;go_upto_region 3 with fail
 refine wl ?_;refine qV (u) ?_;refine zc (merge_any L u ps _ (HU.out.ext H257.out.ext) h1L (by omega) (by omega)) ?_;rintro e w261 ⟨v_,es,rfl,hes_,hval_,hel_,hx⟩;have HVAL:=zH hval_;have HEL:=zH hel_;have HOK:=zH hes_.2;obtain⟨Am,cm,rfl,hA_⟩:=RowN.form hes_.1;have HA:=zH hA_;clear hval_ hel_ hA_;have H262:=zH (show Hp w w261 [.blk X232 33 (rc rf),.blk X237 33 (rc rt),.blk X242 33 rz,.blk X251 33 (rc r248),ro 94 8 Am es.length cm SpE.cells es]from H257.out.addRow hx hes_.1);have D262:=zH (Dig.of_ext hx);clear hes_ hx;refine zn ?_;refine zI2 (Hp.start _) (.int .i64 ((es.length:Nat):Int)) _ ?_;have hel3:es.length<=ps.length:=by have:=HEL.out;omega
 have DD266:=tD (tD D253 D257) D262;go_wp2_with fail
 go_loopg [17] (es.length) (fun cq v267 wr=>∃(k:Nat) (rs:RV),cq=es.length-k/\v267= .int .i64 (k:Int)/\(k<=es.length)/\(rs.Is wr (lenV f t ((es.map SpE.vl).take k)))/\(Nm.rl (lenV f t ((es.map SpE.vl).take k))<=2+k*(2*L+2))/\Hp w wr [.blk X232 33 [.bool rf.n,.slice rf.p rf.l rf.c,.bool rf.m,.slice rf.p2 rf.l2 rf.c2],.blk X237 33 [.bool rt.n,.slice rt.p rt.l rt.c,.bool rt.m,.slice rt.p2 rt.l2 rt.c2],.blk X242 33 [.bool false,.slice none 0 0,.bool false,.slice none 0 0],.blk X251 33 [.bool rs.n,.slice rs.p rs.l rs.c,.bool rs.m,.slice rs.p2 rs.l2 rs.c2],.row 94 8 (.slice Am es.length cm) (es.length) (List.flatMap SpE.cells es)]/\Dig w261 wr)
 case atStart=>exact⟨0,r248,rfl,rfl,Nat.zero_le _,(by have h:=(R248.out.dig DD266.out);simpa[lenV]using h),(by have h:=B248.out;simpa[lenV]using h),H262.out,Dig.refl _⟩
 obtain⟨k,rs,rfl,rfl,q_HK,q_RS,q_BS,hh_,hd_⟩:=hrel;generalize wr=w268 at*
 have HK:=zH q_HK;clear q_HK;have RS:=zH q_RS;clear q_RS;have BS:=zH q_BS;clear q_BS;have H270:=zH hh_;have D270:=zH hd_;clear hh_ hd_ H262;rcases emH (k<es.length)with HLT|HLT
 ·have hlt:=HLT.out
  have hlt2:(k:Int)<(es.length:Int):=by omega
  obtain⟨gm,rfl⟩:=HA.out (by omega);have hbk:k*(2*L+2)<=50400:=Nat.le_trans (Nat.mul_le_mul_right _ (show k<=ps.length by omega)) hLn;have hbk2:(k+1)*(2*L+2)=k*(2*L+2)+(2*L+2):=by rw[Nat.add_mul,Nat.one_mul]
  generalize hkq:(k+1)*(2*L+2)=KQ at*
  generalize hkq2:k*(2*L+2)=KP at*
  obtain⟨e,he_⟩:∃e,es[k]?=some e:=⟨_,List.getElem?_eq_getElem hlt⟩;have HEe:=zH he_;have HOe:=zH (HOK.out e (List.mem_of_getElem? he_));have RAe:=zH HOe.out.1;have RBe:=zH HOe.out.2.1;have BAe:=zH HOe.out.2.2.1;have BBe:=zH HOe.out.2.2.2;clear he_;have HTK:=zH (lenV_take (f:=f) (t:=t) HEe.out);have HKQ:=zH hkq;have HKP:=zH hkq2;clear hkq hkq2 hlt;go_upto_region 5 with fail
  refine wl ?_;refine zp (.pointer (some ⟨gm,k*8,none⟩)) (by exact ezi (k:=k) Tryz.underlying72 (l:=HLT.out) (f:=(Nat.zero_add _).symm)) ?_;refine zd gm (k*8) [.bool e.a.n,.slice e.a.p e.a.l e.a.c,.bool e.a.m,.slice e.a.p2 e.a.l2 e.a.c2,.bool e.b.n,.slice e.b.p e.b.l e.b.c,.bool e.b.m,.slice e.b.p2 e.b.l2 e.b.c2] (H270.out.elem (f:=SpE.cells) (i:=4) rR SpE.len HEe.out) Tryz.underlying94 ?_;refine aA' 94 [.bool false,.slice none 0 0,.bool false,.slice none 0 0,.bool false,.slice none 0 0,.bool false,.slice none 0 0] H270.out ?_;intro X273 w274 H275 D275;refine aS' 5 [.bool e.a.n,.slice e.a.p e.a.l e.a.c,.bool e.a.m,.slice e.a.p2 e.a.l2 e.a.c2,.bool e.b.n,.slice e.b.p e.b.l e.b.c,.bool e.b.m,.slice e.b.p2 e.b.l2 e.b.c2] H275.out ?_;intro w278 H279 D279;go_upto_region 6 with fail
  refine zy ?_;have H281:=zH (H279.out.step (Ext.refl w278).drew);have D281:=zH (Dig.of_ext (w:=w278) zb);refine zJ2 (Hp.start _) zb (bs 14 3) 0 1 _ _ ?_;refine zg 2 (bs 14 7) X273 (0) (rc e.a) (H279.out.range (i:=5) rR 0 4) Tryz.underlying33 zb ?_;refine zJ3 H279.out zb (bs 14 111) 3 5 6 _ _ _ ?_;refine zg 7 (bs 14 239) X273 (4) (rc e.b) (H279.out.range (i:=5) rR 4 4) Tryz.underlying33 zb ?_;refine zJ1 H279.out zb (bs 14 495) 8 _ ?_;have DD289:=tD (tD (tD D270 D275) D279) D281;refine tuple2 (f:=2) 4 9 10 11 25 30 11 12 33 z4 (fun v w=>∃c,v= .agg c/\NIn 60000 w c (if e.p<f then f else e.p)) (fun v w=>∃c,v= .agg c/\NIn 60000 w c (if t<e.q then t else e.q)) rfl rfl rfl rfl dC dC kR (fun _ hx=>zb.trans hx) (fun _ _ _ h e=>by obtain⟨c,h1,h2⟩:=h;exact⟨c,h1,h2.ext e⟩) (fun _ _ _ h e=>by obtain⟨c,h1,h2⟩:=h;exact⟨c,h1,h2.ext e⟩) ?ht287c1 ?ht287c2 ?ht287c3 ?ht287c4 ?ht287e _ _ _ _ kR rfl;case ht287c1=>
   intro v1 v2 v3 v4 w1 K hxq hSw hK;try simp only[Act.put,zA,zB,zC]
   rw[if_pos (by rfl)];refine wp_call_op (by go_simp) (inner_low 60000 _ _ e.p f _ (RV.Is.nin (RAe.out.dig (DD289.out.trans (Dig.of_ext hxq))) (Nat.le_trans BAe.out (by omega))) (RV.In.nin (RV.In.mono (RF.out.dig (H281.out.dig0.trans (Dig.of_ext hxq))) (by omega))) (by omega)) ?_;rintro e w' ⟨c_,rfl,hc_,hx⟩;refine⟨_,rfl,?_⟩;have hk:=hK.out _ _ ⟨c_,rfl,hc_⟩ hx;try simp only[Act.put,zA,zB,zC]
   simp only[Act.put,zA,zB,zC]at hk;exact hk
  case ht287c2=>
   intro v1 v2 v3 v4 w1 K hxq hSw hK;try simp only[Act.put,zA,zB,zC]
   rw[if_pos (by rfl)];refine wp_call_op (by go_simp) (inner_high 60000 _ _ e.q t _ (RV.Is.nin (RBe.out.dig (DD289.out.trans (Dig.of_ext hxq))) (Nat.le_trans BBe.out (by omega))) (RV.In.nin (RV.In.mono (RT.out.dig (H281.out.dig0.trans (Dig.of_ext hxq))) (by omega))) (by omega)) ?_;rintro e w' ⟨c_,rfl,hc_,hx⟩;refine⟨_,rfl,?_⟩;have hk:=hK.out _ _ ⟨c_,rfl,hc_⟩ hx;try simp only[Act.put,zA,zB,zC]
   simp only[Act.put,zA,zB,zC]at hk;exact hk
  case ht287c3=>
   intro v1 v2 v3 v4 w1 K hxq hSw hK;try simp only[Act.put,zA,zB,zC]
   go_simp
   have hk:=hK.out;simp only[Act.put,zA,zB,zC]at hk;exact hk
  case ht287c4=>
   intro v1 v2 v3 v4 w1 K hxq hSw hK;try simp only[Act.put,zA,zB,zC]
   go_simp
   have hk:=hK.out;simp only[Act.put,zA,zB,zC]at hk;exact hk
  case ht287e=>
  intro v1_ v2_ X291 Y292 w293 hx hSw xp1 xp2 xb1 xb2 xz1 xz2 n12;have hh:=H281.out.add2 hx xb1 xb2 xz1 xz2 n12 (by simp[NoUL]) (by simp[NoUL]);have H294:=hN hh;have D294:=zH (show Dig w278.drew w293 from Dig.of_ext hx);have S296:=zH (zb.trans hx);have G297:=zH (Nat.le_trans zb.size xz1);have G298:=zH (Nat.le_trans zb.size xz2);obtain⟨c_,rfl,hc_⟩:=xp1;obtain⟨r288,rfl,hr_⟩:=hc_;have R288:=zH hr_;have B288:=zH (show Nm.rl (if e.p<f then f else e.p)<=L from by have h1:=BAe.out;have h2:=(show Nm.rl f<=L from by have h:=(RF.out.dig H294.out.dig0).rl;omega);split<;>omega);clear hr_;generalize hq_:(if e.p<f then f else e.p)=q288 at R288 B288⊢
  have Q288:=zH hq_;clear hq_;obtain⟨c_,rfl,hc_⟩:=xp2;obtain⟨r290,rfl,hr_⟩:=hc_;have R290:=zH hr_;have B290:=zH (show Nm.rl (if t<e.q then t else e.q)<=L from by have h1:=BBe.out;have h2:=(show Nm.rl t<=L from by have h:=(RT.out.dig H294.out.dig0).rl;omega);split<;>omega);clear hr_;generalize hq_:(if t<e.q then t else e.q)=q290 at R290 B290⊢
  have Q290:=zH hq_;clear hq_ hh hx hSw xb1 xb2 xz1 xz2 n12;try simp only[Act.put,zA,zB,zC]
  refine bS 6 12 (bs 14 8191) (rc r288) H294.out S296.out G297.out ?_;intro w299 H300 D300 S302;refine bS 7 13 (bs 14 16383) (rc r290) H300.out S302.out G298.out ?_;intro w303 H304 D304 S306;refine wpAnyH_done kR ?_ _;rcases emH (q288<q290)with CL|CL
  ·go_upto_region 7 with fail
   refine wl ?_;refine zI2 H304.out _ _ ?_;have DD309:=tD D300 D304;refine aC H304.out (pCmp (L:=60000) (RV.In.nin (RV.In.mono (R288.out.dig DD309.out) (by omega))) (RV.In.nin (RV.In.mono (R290.out.dig DD309.out) (by omega))) (by omega)) ?_;intro w308 H310 D310;refine zp (.bool true) (by exact ezl (e:=(dec_t (rcmp_lt.2 CL.out)))) ?_;go_upto_region 8 with fail
   refine wp_region_held_drew (S:=fun x=>Fr (fun kz=>kz=X251) w308 x) kR (Fr.of_ext zb) (fun _=> ?_);have H313:=zH (H310.out.step (Ext.refl w308).drew);have D313:=zH (Dig.of_ext (w:=w308) zb);refine mR 1 (bs 6 2) Y292 (0) [.bool r290.n,.slice r290.p r290.l r290.c,.bool r290.m,.slice r290.p2 r290.l2 r290.c2] (fun x hx=>Fr.range hx (show World.rangeAt w308 Y292 (0) [.bool r290.n,.slice r290.p r290.l r290.c,.bool r290.m,.slice r290.p2 r290.l2 r290.c2]from(H310.out.range (i:=7) rR 0 4)) (H310.out.offBlk (i:=7) (j:=3) rR rR dC rR)) Tryz.underlying33 (Fr.of_ext zb) ?_;refine zr 2 (bs 6 6) X291 (0) [.bool r288.n,.slice r288.p r288.l r288.c,.bool r288.m,.slice r288.p2 r288.l2 r288.c2] (fun x hx=>Fr.range hx (show World.rangeAt w308 X291 (0) [.bool r288.n,.slice r288.p r288.l r288.c,.bool r288.m,.slice r288.p2 r288.l2 r288.c2]from(H310.out.range (i:=6) rR 0 4)) (H310.out.offBlk (i:=6) (j:=3) rR rR dC rR)) Tryz.underlying33 (Fr.of_ext zb) ?_;refine Fd.go (j:=0) (dj:=some 35) (u:= .agg #[.bool rs.n,.slice rs.p rs.l rs.c,.bool rs.m,.slice rs.p2 rs.l2 rs.c2]) ?_;have DD317:=tD (tD (tD D300 D304) D310) D313;refine fd_call (b:=w308) (i:=3) (lj:=(bs 6 7)) (li:=(bs 6 14)) rR rR kR kR kR kR kR dC kR rR rR (fun x_ h_=>Fr.of_ext h_) (Ext.refl w308).drew (fun x_ h_=>ev_ld _ _ rR X251 (0) [.bool rs.n,.slice rs.p rs.l rs.c,.bool rs.m,.slice rs.p2 rs.l2 rs.c2] rR (range_ext (show World.rangeAt w308 X251 (0) [.bool rs.n,.slice rs.p rs.l rs.c,.bool rs.m,.slice rs.p2 rs.l2 rs.c2]from H310.out.range (i:=3) rR 0 4) h_) Tryz.underlying33 rR kR) rR (by go_simp) kR (pSub (L:=60000) (RV.In.nin (RV.In.mono (R290.out.dig DD317.out) (by omega))) (RV.In.nin (RV.In.mono (R288.out.dig DD317.out) (by omega))) (by omega)) ?_;rintro e w315 ⟨c_,rfl,hc_,hx⟩;have H318:=zH (H313.out.step hx);have D318:=zH (show Dig w308.drew w315 from Dig.of_ext hx);have X320:=zH (show Ext w308 w315 from(Ext.refl w308).drew.trans hx);have S321:=zH (show Fr (fun kz=>kz=X251) w308 w315 from(Fr.of_ext zb).trans (Fr.of_ext hx));obtain⟨r316,rfl,hr_⟩:=hc_;have R316:=zH hr_;clear hr_;have B316:=zH (show Nm.rl (q290-q288)<=L+L+1 from by have h1:=B290.out;have h2:=B288.out;have h3:=Nm.rl_sub q290 q288;omega);have hx_:=hx;clear hx;refine⟨_,rfl,hx_,?_⟩;try simp only[Act.put,zA,zB,zC]
   clear hx_;refine fd_end rR kR rR rR S321.out (ev_ld _ _ rR X251 (0) [.bool rs.n,.slice rs.p rs.l rs.c,.bool rs.m,.slice rs.p2 rs.l2 rs.c2] rR (range_ext (show World.rangeAt w308 X251 (0) [.bool rs.n,.slice rs.p rs.l rs.c,.bool rs.m,.slice rs.p2 rs.l2 rs.c2]from H310.out.range (i:=3) rR 0 4) X320.out) Tryz.underlying33 rR kR) (show _=(bs 6 15)by kernel_rfl) ?_;try simp only[Act.put,zA,zB,zC]
   have DD324:=tD (tD (tD (tD (tD (tD (tD (tD D275 D279) D281) D294) D300) D304) D310) D313) D318;refine mC 4 (bs 6 31) (pAdd (L:=60000) (RV.Is.nin (RS.out.dig DD324.out) (Nat.le_trans BS.out (by omega))) (RV.Is.nin R316.out (Nat.le_trans B316.out (by omega))) (by omega)) ?_;rintro e w322 ⟨c_,rfl,hc_,hx⟩;have H325:=zH (H318.out.step hx);have D325:=zH (Dig.of_ext hx);have S328:=zH (S321.out.trans (Fr.of_ext hx));obtain⟨r323,rfl,hr_⟩:=hc_;have R323:=zH hr_;clear hr_;have B323:=zH (show Nm.rl ((lenV f t ((es.map SpE.vl).take k))+(q290-q288))<=(2+KP)+(L+L+1)+1 from by have h1:=BS.out;have h2:=B316.out;have h3:=Nm.rl_add (lenV f t ((es.map SpE.vl).take k)) (q290-q288);omega);clear hx;refine zm S328.out ?_;refine md_st (i:=5) (listed':=(bs 6 63)) rR kR rR kR _ _ _ rR H325.out (ix:=3) rR 0 [.bool r323.n,.slice r323.p r323.l r323.c,.bool r323.m,.slice r323.p2 r323.l2 r323.c2] rR rR (by simp) kR (by simp[Value.oneCell']) (by simp[NoUL]) ?_;intro w329 hh hd ho;have H330:=hN hh;have D330:=zH (hd);have S332:=zH (Fr.trans_new S328.out ho (fun j hj=> .inl (by simpa using hj.symm)));clear hh hd ho;refine⟨S332.out,?_⟩
   (try simp only[Act.put])
   refine wpAnyH_done kR ?_ _;have HL1:=zH ((len1_case (p:=e.p) (q:=e.q) (f:=f) (t:=t) Q288.out.symm Q290.out.symm).trans (if_pos CL.out));have DD333:=tD (tD (tD (tD (tD (tD (tD (tD (tD (tD (tD D270 D275) D279) D281) D294) D300) D304) D310) D313) D318) D325) D330;go_wp2_with fail
   go_roundg (es.length-(k+1))
   case measure=>exact(by have ob0:=HLT.out;omega)
   case rel=>exact⟨k+1,r323,rfl,(by go_num),HLT.out,(by rw[HTK.out,HL1.out];exact(R323.out.dig D330.out)),(by rw[HTK.out,HL1.out,HKQ.out];exact Nat.le_trans B323.out (by omega)),H330.out.take 5,DD333.out⟩
  go_upto_region 7 with fail
  refine wl ?_;refine zI2 H304.out _ _ ?_;have DD335:=tD D300 D304;refine aC H304.out (pCmp (L:=60000) (RV.In.nin (RV.In.mono (R288.out.dig DD335.out) (by omega))) (RV.In.nin (RV.In.mono (R290.out.dig DD335.out) (by omega))) (by omega)) ?_;intro w334 H336 D336;refine zp (.bool false) (by exact ezl (e:=(dec_f (fun hh=>CL.out (rcmp_lt.1 hh))))) ?_;have HL1:=zH ((len1_case (p:=e.p) (q:=e.q) (f:=f) (t:=t) Q288.out.symm Q290.out.symm).trans (if_neg CL.out));have DD339:=tD (tD (tD (tD (tD (tD D275 D279) D281) D294) D300) D304) D336;have DD340:=tD (tD (tD (tD (tD (tD (tD D270 D275) D279) D281) D294) D300) D304) D336;go_wp2_with fail
  go_roundg (es.length-(k+1))
  case measure=>exact(by have ob0:=HLT.out;omega)
  case rel=>exact⟨k+1,rs,rfl,(by go_num),HLT.out,(by rw[HTK.out,HL1.out,Rat.add_zero];exact(RS.out.dig DD339.out)),(by rw[HTK.out,HL1.out,HKQ.out,Rat.add_zero];exact Nat.le_trans BS.out (by have:=HKP.out;omega)),H336.out.take 5,DD340.out⟩
 obtain rfl:k=es.length:=by have:=HK.out;have:=HLT.out;omega
 have hge:¬(es.length:Int)<(es.length:Int):=by omega
 have HR:=zH (show lenV f t ((es.map SpE.vl).take es.length)=lenV f t (mergeV ps)by rw[List.take_of_length_le (by simp),HVAL.out]);go_upto_region 10 with fail
 refine wl ?_;refine zd X251 (0) (rc rs) (H270.out.range (i:=3) rR 0 4) Tryz.underlying33 ?_;refine aS' 2 (rc rs) H270.out ?_;intro w341 H342 D342;go_wp2_with fail
 refine bodyPost_ret (v:= .agg #[.bool rs.n,.slice rs.p rs.l rs.c,.bool rs.m,.slice rs.p2 rs.l2 rs.c2]) ?_ rfl ⟨rs,rfl,by rw[<-HR.out];exact(RS.out.dig D342.out),by rw[<-HR.out];exact Nat.le_trans BS.out (by have:=Nat.le_trans (Nat.mul_le_mul_right (2*L+2) (show es.length<=ps.length by omega)) hLn;omega),H342.out.ext⟩;exact results_cell1 rfl rfl ((H342.out.blk (i:=2) rR).loadVar rfl rfl rR)
theorem mid_eq (q r:Rat):(q+r)/2=Rat.divInt (q.num*r.den+r.num*q.den) ((q.den:Int)*r.den+(q.den:Int)*r.den):=by
 rw[Nm.add_eq,Rat.divInt_eq_div,Rat.divInt_eq_div,Rat.intCast_add (((q.den:Nat):Int)*r.den)];have hd:((((q.den:Nat):Int)*((r.den:Nat):Int):Int):Rat)≠0:=by
  have h:=Int.mul_ne_zero (a:=(q.den:Int)) (b:=(r.den:Int)) (by have:=q.den_nz;omega) (by have:=r.den_nz;omega);exact_mod_cast h
 generalize (((((q.den:Nat):Int)*((r.den:Nat):Int):Int)):Rat)=D at*
 generalize ((q.num*r.den+r.num*q.den:Int):Rat)=A at*
 rw[Rat.div_def,Rat.div_def,Rat.div_def];have h1:=Rat.inv_mul_cancel D hd;have h2:(2:Rat)⁻¹+(2:Rat)⁻¹=1:=by decide+kernel
 have h3:=Rat.inv_mul_cancel (D+D) (by grind);generalize D⁻¹=i at*
 generalize (2:Rat)⁻¹=h at*
 generalize (D+D)⁻¹=j at*
 grind
theorem rmid_any (n m n' m':Bool)(u v u' v':Value)(L:Nat)(q r:Rat)(w:World)(h:RatIn L w n u m v q)(h':RatIn L w n' u' m' v' r)(hL:L<=70000):
  Calls Tryz.prog 48 #[.agg #[.bool n,u,.bool m,v],.agg #[.bool n',u',.bool m',v']] w (RetR ((q+r)/2) w):=by
 have hnl:=nl_cross (L:=L+1) (q:=q) (r:=r) (by have:=h.rl;omega) (by have:=h'.rl;omega);obtain⟨p1,l1,c1,p2,l2,c2,rfl,rfl⟩:=h.form;obtain⟨p3,l3,c3,p4,l4,c4,rfl,rfl⟩:=h'.form;have hE:Ext w (((w.alloc (.cells #[.bool n,.slice p1 l1 c1,.bool m,.slice p2 l2 c2] 33)).alloc (.cells #[.bool n',.slice p3 l3 c3,.bool m',.slice p4 l4 c4] 33)).alloc (.cells z4 33)):=(((Ext.refl _).alloc _).alloc _).alloc _;have HC:=zH (cross_any n m n' m' _ _ _ _ L q r _ (h.ext hE) (h'.ext hE) hL);have HI:=zH (fun W n1 v1 n2 v2 (x:IntC W n1 v1 (q.num*r.den)) (y:IntC W n2 v2 (r.num*q.den))=>iadd_any n1 n2 v1 v2 (2*(L+1)) _ _ W (x.isIn hnl.1) (y.isIn hnl.2.1) (by omega));have HJ:=zH (fun W n1 v1 n2 v2 (x:IntC W n1 v1 ((q.den:Int)*r.den)) (y:IntC W n2 v2 ((q.den:Int)*r.den))=>iadd_any n1 n2 v1 v2 (2*(L+1)) _ _ W (x.isIn hnl.2.2) (y.isIn hnl.2.2) (by omega));have hsum:=nl_add_int _ _ _ hnl.1 hnl.2.1;have hden:=nl_add_int _ _ _ hnl.2.2 hnl.2.2;have hd0:(q.den:Int)*r.den+(q.den:Int)*r.den≠0:=by have h_:=Int.mul_ne_zero (a:=(q.den:Int)) (b:=(r.den:Int)) (by have:=q.den_nz;omega) (by have:=r.den_nz;omega);omega
 have HLW:=zH (fun W n1 v1 n2 v2 (x:IntC W n1 v1 (q.num*r.den+r.num*q.den)) (y:IntC W n2 v2 ((q.den:Int)*r.den+(q.den:Int)*r.den))=>(show Calls Tryz.prog 76 #[.agg #[.bool n1,v1],.agg #[.bool n2,v2]] W (RetR ((q+r)/2) W)by
  rw[mid_eq];exact lowest_any n1 n2 v1 v2 (2*(L+1)+1) _ _ W (x.isIn hsum) (y.isIn hden) (by omega) hd0))
 have HG:=zH (newRat ((w.alloc (.cells #[.bool n,.slice p1 l1 c1,.bool m,.slice p2 l2 c2] 33)).alloc (.cells #[.bool n',.slice p3 l3 c3,.bool m',.slice p4 l4 c4] 33)));have HST:=zH (fun w1 n1 t1 n2 t2 u0 u1 u2 u3=>stored_rat (w:=(w.alloc (.cells #[.bool n,.slice p1 l1 c1,.bool m,.slice p2 l2 c2] 33)).alloc (.cells #[.bool n',.slice p3 l3 c3,.bool m',.slice p4 l4 c4] 33)) (w1:=w1) (n:=n1) (u:=t1) (m:=n2) (v:=t2) (q:=(q+r)/2) (u0:=u0) (u1:=u1) (u2:=u2) (u3:=u3));have HE:=zH hE;clear h h' hE hnl hsum hden hd0;go_enter Tryz.func48,Tryz.ntmps48
 go_wp2_with fail
 refine HC.out.mono ?_;rintro e w1 ⟨n1,v1,n2,v2,n3,v3,rfl,i1,i2,i3,he⟩;obtain⟨f1,f2,f3,rfl⟩:=i1.form;obtain⟨f4,f5,f6,rfl⟩:=i2.form;obtain⟨f7,f8,f9,rfl⟩:=i3.form;have I1:=zH i1;have I2:=zH i2;have I3:=zH i3;clear i1 i2 i3;go_wp2_with fail
 have hsz:=he.size;simp only[World.size_alloc]at hsz;obtain⟨wm,hwm⟩:∃wm,wm=((w1.alloc (.cells #[.bool n1,.slice f1 f2 f3] 31)).alloc (.cells #[.bool n2,.slice f4 f5 f6] 31)).alloc (.cells #[.bool n3,.slice f7 f8 f9] 31):=⟨_,rfl⟩;rw[<-hwm];have hEm:Ext w1 wm:=by rw[hwm];exact(((Ext.refl _).alloc _).alloc _).alloc _
 have m0:Blk wm w1.heap.size 31 #[.bool n1,.slice f1 f2 f3]:=by rw[hwm];exact((Blk.new w1 _ _).alloc _).alloc _
 have m1:Blk wm (w1.heap.size+1) 31 #[.bool n2,.slice f4 f5 f6]:=by rw[hwm];exact(Blk.new_at _ _ (by simp) _ _).alloc _
 have m2:Blk wm (w1.heap.size+1+1) 31 #[.bool n3,.slice f7 f8 f9]:=by rw[hwm];exact Blk.new_at _ _ (by simp) _ _
 have h1:=fun W (x:Ext wm W)=>HI.out W _ _ _ _ (I1.out.ext (hEm.trans x)) (I2.out.ext (hEm.trans x))
 have h2:=fun W b t b' t' (y:IntC W b t (q.num*r.den+r.num*q.den)) (z:IntC W b' t' ((q.den:Int)*r.den+(q.den:Int)*r.den))=>HLW.out W _ _ _ _ y z
 have h3:=fun W (x:Ext wm W)=>HJ.out W _ _ _ _ (I3.out.ext (hEm.trans x)) (I3.out.ext (hEm.trans x))
 have H3:=zH h3;have H1:=zH h1;have H2:=zH h2;have HEM:=zH (he.trans hEm);have gl:∀w',Own (w.heap.size+1+1) wm w'->w'.cell? ⟨w1.heap.size,0,none⟩=some (.bool n1)/\w'.cell? ⟨w1.heap.size,1,none⟩=some (.slice f1 f2 f3)/\w'.cell? ⟨w1.heap.size+1,0,none⟩=some (.bool n2)/\w'.cell? ⟨w1.heap.size+1,1,none⟩=some (.slice f4 f5 f6)/\w'.cell? ⟨w1.heap.size+1+1,0,none⟩=some (.bool n3)/\w'.cell? ⟨w1.heap.size+1+1,1,none⟩=some (.slice f7 f8 f9):=fun w' x=>
  ⟨(m0.own x (by omega)).cell 0,(m0.own x (by omega)).cell 1,(m1.own x (by omega)).cell 0,(m1.own x (by omega)).cell 1,(m2.own x (by omega)).cell 0,(m2.own x (by omega)).cell 1⟩
 clear hwm hEm m0 m1 m2 h1 h2 h3 hsz HI HJ HLW I1 I2 I3;go_region_held3 (fun w'=>Own (w.heap.size+1+1) wm w') (first|(with_reducible assumption)|(with_reducible exact Own.drew (Own.refl _ _))|(with_reducible (apply Own.of_ext;assumption))|(with_reducible (refine Own.set_at (Own.set_at (Own.set_at (Own.set_at ?_ _ _ _) _ _ _) _ _ _) _ _ _;first|assumption|(apply Own.of_ext;assumption))))
  (first|(go_at_call 77;((with_reducible refine(H1.out _ (by first|assumption|exact Ext.drew (Ext.refl _))).mono ?_));rintro e wx ⟨k1,r1,rfl,hi1,hen1⟩;obtain⟨g1,g2,g3,rfl⟩:=hi1.form;have hx:Ext wm wx:=Ext.trans (by first|assumption|exact Ext.drew (Ext.refl _)) hen1)|(go_at_call 77;((with_reducible refine(H3.out _ (by first|assumption|exact Ext.drew (Ext.refl _))).mono ?_));rintro e wz ⟨k2,r2,rfl,hi2,hen3⟩;obtain⟨g4,g5,g6,rfl⟩:=hi2.form;have hx3:Ext wm wz:=Ext.trans hx hen3)|(go_at_call 76;((with_reducible refine(H2.out _ _ _ _ _ (hi1.ext hen3) hi2).mono ?_));rintro e wy ⟨b1,t1,b2,t2,rfl,hc,hen2⟩;obtain⟨x1,y1,z1,x2,y2,z2,rfl,rfl⟩:=hc.form;have hx2:Ext wm wy:=Ext.trans hx3 hen2;have gk:=HG.out _ (HEM.out.trans hx2);simp only[World.size_alloc]at gk))
 go_wp2_with fail
 have st:=HST.out _ _ _ _ _ (.bool b1) (.slice x1 y1 z1) (.bool b2) (.slice x2 y2 z2) (HEM.out.trans hx2) hc;simp only[World.size_alloc]at st;refine bodyPost_ret (v:= .agg #[.bool b1,.slice x1 y1 z1,.bool b2,.slice x2 y2 z2]) ?_ rfl ⟨_,_,_,_,rfl,st.1,(((Ext.refl _).alloc _).alloc _).trans st.2⟩;simp[results,Tryz.results48,go_sem, *]
theorem pMid {L:Nat}{w:World}{cs ct:Array Value}{q r:Rat}(hp:NIn L w cs q)(hq:NIn L w ct r)(hL:L<=70000):
    Calls Tryz.prog 48 #[.agg cs,.agg ct] w fun e w'=>∃c,e= .returned (.agg c)/\NIs w' c ((q+r)/2)/\Ext w w':=by
  obtain⟨a,rfl,h1⟩:=hp;obtain⟨b,rfl,h2⟩:=hq;refine(rmid_any _ _ _ _ _ _ _ _ L q r w h1 h2 hL).mono fun e w' h=> ?_
  obtain⟨c,rfl,h3,h4⟩:=RetR.v h;exact⟨_,rfl,⟨c,rfl,h3⟩,h4⟩
theorem Hp.pickL {w0 w:World}{m:List Ent}(h:Hp w0 w m)(is:List Nat)(hn:is.Nodup)(es:List Ent)(he:is.map (fun i=>m[i]?)=es.map some):Hp w0 w es:=by
 have hget:∀(k:Nat) (e:Ent),es[k]?=some e->∃i,is[k]?=some i/\m[i]?=some e:=by
  intro k e hk;have h1:=congrArg (fun l=>l[k]?) he;simp only[List.getElem?_map,hk,Option.map_some]at h1;cases h2:is[k]?with
  |none=>rw[h2]at h1;simp at h1
  |some i=>rw[h2]at h1;simp at h1;exact⟨i,rfl,h1⟩
 refine⟨h.ext,fun k e hk=> ?_,fun i j e f hi hj hij=> ?_⟩
 ·obtain⟨i,_,h2⟩:=hget k e hk
  exact h.all i e h2
 obtain⟨a,ha,h2⟩:=hget i e hi;obtain⟨b,hb,h3⟩:=hget j f hj;refine h.apart a b e f h2 h3 fun hab=>hij ?_
 subst hab;exact(List.getElem?_inj (List.getElem?_eq_some_iff.1 ha).1 hn).1 (ha.trans hb.symm)
theorem Hp.callO {w0 w w':World}{m:List Ent}{ir:Nat}{f f':Ent}{G:Nat->Prop}(h:Hp w0 w m)(hr:m[ir]?=some f)(x:Fr G w w')(hG:∀k,G k->f.own=some k)(h2:Hp w0 w' [f'])
  (hf:f'.own=f.own):Hp w0 w' (m.set ir f'):=by
 have hrl:ir<m.length:=(List.getElem?_eq_some_iff.1 hr).1;have hget:∀(j:Nat) (y:Ent),(m.set ir f')[j]?=some y->(j=ir/\y=f')\/(j≠ir/\m[j]?=some y):=by
  intro j y hj;rw[List.getElem?_set]at hj;by_cases h1:ir=j
  ·rw[if_pos h1,if_pos (h1▸hrl)]at hj
   injection hj with hj
   exact .inl ⟨h1.symm,hj.symm⟩
  rw[if_neg h1]at hj;exact .inr ⟨fun e=>h1 e.symm,hj⟩
 have keep:∀(j:Nat) (y:Ent),j≠ir->m[j]?=some y->y.Holds w0.heap.size w':=by
  intro j y hj hy;have hd:=h.apart j ir y f hy hr hj;exact Ent.Holds.fr (h.all j y hy) x (fun k hk hg=>hd k hk (hG k hg))
 refine⟨h2.ext,fun j y hj=> ?_,fun i j e g hi hj hij k hk hk2=> ?_⟩
 ·rcases hget j y hj with⟨_,rfl⟩|⟨h1,h3⟩
  ·exact h2.all 0 _ rfl
  exact keep j y h1 h3
 rcases hget i e hi with⟨e1,rfl⟩|⟨e1,e3⟩<;>rcases hget j g hj with⟨d1,rfl⟩|⟨d1,d3⟩
 ·omega
 ·exact h.apart ir j f g hr d3 (Ne.symm d1) k (hf▸hk) hk2
 ·exact h.apart i ir e f e3 hr e1 k hk (hf▸hk2)
 exact h.apart i j e g e3 d3 hij k hk hk2
theorem lenW_any (u:Value)(rule:Int)(a b:Int×Int)(rs:List Ring)(es:List SpE)(y:Rat)(rf rt:RV)(w:World)(hu:SpansV 60 w u (es.map SpE.vl))(he:es.map SpE.vl=spansV rule (marksV y rs))(hf:rf.In 60 w (((a.1:Int)):Rat))(ht:rt.In 60 w (((b.1:Int)):Rat))
  (hok:okR rs=true)(ha:okP a)(hb:okP b)(h1:a.1<=b.1)(hs:tot rs<=24)(hy:Nm.rl y<=52):
  Calls Tryz.prog 46 #[u,.agg #[.bool rf.n,.slice rf.p rf.l rf.c,.bool rf.m,.slice rf.p2 rf.l2 rf.c2],.agg #[.bool rt.n,.slice rt.p rt.l rt.c,.bool rt.m,.slice rt.p2 rt.l2 rt.c2]] w fun e w'=>∃r:RV,e= .returned (.agg #[.bool r.n,.slice r.p r.l r.c,.bool r.m,.slice r.p2 r.l2 r.c2])/\r.Is w' (widV rule a b rs y)/\Nm.rl (widV rule a b rs y)<=90/\Ext w w':=by
 have hl:(es.map SpE.vl).length<=24:=by rw[he];exact spans_few rule y hs
 refine(lengthG_any 60 u _ rf rt _ _ w hu hf ht dC dC (by omega) (by omega)).mono ?_;rintro e w' ⟨r,rfl,h2,_,hx⟩;rw[he,len_wid]at h2;exact⟨r,rfl,h2,Nat.le_trans (wid_rl hok ha hb h1 hs hy) (by decide),hx⟩
theorem RowN.capA {w:World}{b n c size:Nat}{T:TypeId}{A:Option Addr}{xs:List Value}(h:RowN w b T size (.slice A n c) n xs):n<=9223372036854775807:=by
  obtain⟨_,⟨_,h2⟩|⟨g,c',r,_,_,_,h3,h4,_⟩⟩:=h
  · omega
  unfold maxLen at h4;omega
def BandRet (Bl Br Bf Bt Bs:Nat)(A:Option Addr)(n cap:Nat)(rule:Int)(rf rt:RV)(q:Rat)(w0 w w':World):Prop:=
  ∃rvz:RV,rvz.Is w' q/\Nm.rl q<=60000/\Hp w0 w' [.blk Bs 33 [.bool rvz.n,.slice rvz.p rvz.l rvz.c,.bool rvz.m,.slice rvz.p2 rvz.l2 rvz.c2]]/\Dig w w'/\Fr (fun kz=>kz=Bs) w w'
theorem band_any (A:Option Addr)(cap:Nat)(rs:List Ring)(rule:Int)(a b:Int×Int)(lo hi q:Rat)(rl_ rh rf rt rq:RV)(Bl Br Bf Bt Bs:Nat)(w0 w:World)(hh:Hp w0 w [.blk Bl 22 [.slice A rs.length cap],.blk Br 3 [.int .i64 rule],.blk Bf 33 [.bool rf.n,.slice rf.p rf.l rf.c,.bool rf.m,.slice rf.p2 rf.l2 rf.c2],.blk Bt 33 [.bool rt.n,.slice rt.p rt.l rt.c,.bool rt.m,.slice rt.p2 rt.l2 rt.c2],.blk Bs 33 [.bool rq.n,.slice rq.p rq.l rq.c,.bool rq.m,.slice rq.p2 rq.l2 rq.c2]])
  (hu:RingsV w0 (.slice A rs.length cap) rs)(hn:rs.length<=1048576)(hr:∀r,r∈rs->r.length<=1048576)(hru: -9223372036854775808<=rule/\rule<=9223372036854775807)(hok:okR rs=true)(ha:okP a)(hb:okP b)(h1:a.1<=b.1)(hs:tot rs<=24)
  (hlo:rl_.Is w lo)(hlol:Nm.rl lo<=24)(hhi:rh.Is w hi)(hhil:Nm.rl hi<=24)(hf:rf.Is w (((a.1:Int)):Rat))(ht:rt.Is w (((b.1:Int)):Rat))(hq:rq.Is w q)(hql:Nm.rl q<=50000):
  Calls Tryz.prog 45 #[.agg #[.bool rl_.n,.slice rl_.p rl_.l rl_.c,.bool rl_.m,.slice rl_.p2 rl_.l2 rl_.c2],.agg #[.bool rh.n,.slice rh.p rh.l rh.c,.bool rh.m,.slice rh.p2 rh.l2 rh.c2],.pointer (some ⟨Bl,0,none⟩),.pointer (some ⟨Br,0,none⟩),.pointer (some ⟨Bf,0,none⟩),.pointer (some ⟨Bt,0,none⟩),.pointer (some ⟨Bs,0,none⟩)] w fun e w'=>
   e= .returned (.tuple #[])/\BandRet Bl Br Bf Bt Bs A rs.length cap rule rf rt (q+widV rule a b rs ((lo+hi)/2)*(hi-lo)) w0 w w':=by
 have H0:=zH hh;have HU:=zH hu;have HN:=zH hn;have HRR:=zH hr;clear hu hr;have HRU:=zH hru;have HOKR:=zH hok;have HPA:=zH ha;have HPB:=zH hb;have HTOT:=zH hs;have RL:=zH hlo;have BL:=zH hlol;have RH:=zH hhi;have BH:=zH hhil;have RF:=zH hf;have RT:=zH ht;have RQ:=zH hq;have BQ:=zH hql;have BF:=zH (rl_i64 a.1 (by have:=okP_out HPA.out;omega) (by have:=okP_out HPA.out;omega));have BT:=zH (rl_i64 b.1 (by have:=okP_out HPB.out;omega) (by have:=okP_out HPB.out;omega));clear hh hru hok ha hb hs hlo hlol hhi hhil hf ht hq hql;go_enter Tryz.func45,Tryz.ntmps45
 go_upto_region 0 with fail
 refine wl ?_;refine aA 33 (rc rl_) H0.out ?_;intro X1 w2 H4 hx hge;have D4:=zH (Dig.of_ext hx);have K6:=zH (show Fr (fun kz=>kz=Bs) w w2 from(Fr.of_ext (G:=fun kz=>kz=Bs) (Ext.refl w)).trans (Fr.of_ext hx));clear hx hge;refine aA 33 (rc rh) H4.out ?_;intro X8 w9 H11 hx hge;have D11:=zH (Dig.of_ext hx);have K13:=zH (K6.out.trans (Fr.of_ext hx));clear hx hge;go_upto_region 1 with fail
 refine zy ?_;have H15:=zH (H11.out.step (Ext.refl w9).drew);have D15:=zH (Dig.of_ext (w:=w9) zb);have K17:=zH (K13.out.trans (Fr.of_ext (Ext.refl w9).drew));refine zJ1 H11.out zb (bs 11 1) 0 _ ?_;refine md_ld1 (g:=Br) (o:=0) (v:= .int .i64 rule) (i:=1) (listed':=(bs 11 3)) rR kR kR kR (by intro _ _ _ h;exact h) rR (fun x hx=>Ext.get hx (show World.cell? w9 ⟨Br,0,none⟩=some (.int .i64 rule)from cell_of_range (H11.out.range (i:=1) rR 0 1))) (by intro x hq;go_simp<;>with_reducible rfl) zb kR ?_;refine zJ4 H11.out zb (bs 11 207) 2 3 6 7 _ _ _ _ ?_;refine gG 9 (some 9) 33 rz w9 H15.out ?_;have DD20:=tD (tD D4 D11) D15;refine gL 4 (bs 11 719) (bs 11 223) zb.size H15.out zb (fun xq hxq=>pMid (L:=60000) (RV.Is.nin (RL.out.dig (DD20.out.trans (Dig.of_ext hxq))) (Nat.le_trans BL.out (by omega))) (RV.Is.nin (RH.out.dig (DD20.out.trans (Dig.of_ext hxq))) (Nat.le_trans BH.out (by omega))) (by omega)) (by rintro x_ e x2_ ⟨c_,rfl,hc_,hx⟩;exact hx) ?_;rintro xq e w18 hxq ⟨c_,rfl,hc_,hx⟩;replace hx:=hxq.trans hx;clear hxq;have H21:=zH (H15.out.step hx);have D21:=zH (show Dig w9.drew w18 from Dig.of_ext hx);have K23:=zH (K17.out.trans (Fr.of_ext hx));have S24:=zH (zb.trans hx);obtain⟨r19,rfl,hr_⟩:=hc_;have R19:=zH hr_;clear hr_;have B19:=zH (show Nm.rl ((lo+hi)/2)<=2*24+3 from rl_mid BL.out BH.out);clear hx;refine⟨_,rfl,?_⟩;try simp only[Act.put,zA,zB,zC]
 refine gL 5 (bs 11 735) (bs 11 255) S24.out.size H21.out S24.out (fun xq hxq=>spans_any 52 (.slice A rs.length cap) rs rule r19 ((lo+hi)/2) _ (HU.out.ext (H21.out.step hxq).ext) (RV.Is.isIn (R19.out.dig (Dig.of_ext hxq)) (Nat.le_trans B19.out dC)) dC dC HN.out HRR.out HRU.out) (by rintro x_ e x2_ ⟨vs,es,rfl,hv1_,hv2_,hv3_,hx⟩;exact hx) ?_;rintro xq e w25 hxq ⟨vs,es,rfl,hv1_,hv2_,hv3_,hx⟩;replace hx:=hxq.trans hx;clear hxq;have H26:=zH (H21.out.step hx);have D26:=zH (Dig.of_ext hx);have K28:=zH (K23.out.trans (Fr.of_ext hx));have S29:=zH (S24.out.trans hx);have SV:=zH (SpR.reads hv1_);have VL:=zH hv2_;clear hv1_ hv2_ hv3_ hx;refine⟨_,rfl,?_⟩;try simp only[Act.put,zA,zB,zC]
 have DD32:=tD (tD DD20 D21) D26;refine gL 8 (bs 11 767) (bs 11 511) S29.out.size H26.out S29.out (fun xq hxq=>lenW_any (vs) rule a b rs es ((lo+hi)/2) rf rt _ (SV.out.ext hxq) VL.out (RV.Is.isIn (RF.out.dig (DD32.out.trans (Dig.of_ext hxq))) (Nat.le_trans BF.out dC)) (RV.Is.isIn (RT.out.dig (DD32.out.trans (Dig.of_ext hxq))) (Nat.le_trans BT.out dC)) HOKR.out HPA.out HPB.out h1 HTOT.out (Nat.le_trans B19.out dC)) (by rintro x_ e x2_ ⟨r31,rfl,hr_,hb_,hx⟩;exact hx) ?_;rintro xq e w30 hxq ⟨r31,rfl,hr_,hb_,hx⟩;replace hx:=hxq.trans hx;clear hxq;have H33:=zH (H26.out.step hx);have D33:=zH (Dig.of_ext hx);have K35:=zH (K28.out.trans (Fr.of_ext hx));have S36:=zH (S29.out.trans hx);have R31:=zH hr_;have B31:=zH hb_;clear hr_ hb_ hx;refine⟨_,rfl,?_⟩;try simp only[Act.put,zA,zB,zC]
 refine gE (bs 11 1023) S36.out.size H33.out S36.out ?_;intro X37 w38 hx hh hs hge;have H39:=hN hh;have D39:=zH (Dig.of_ext hx);have K41:=zH (K35.out.trans (Fr.of_ext hx));have S42:=zH (show Ext w9 w38 from hs);have G43:=zH (show w9.heap.size<=X37 from hge);have Q44:=zH (Nat.le_trans K13.out.size G43.out);clear hh hx hge hs;try simp only[Act.put,zA,zB,zC]
 refine md_st (i:=10) (listed':=(bs 11 2047)) rR kR rR kR _ _ _ rR H39.out (ix:=7) rR 0 [.bool r31.n,.slice r31.p r31.l r31.c,.bool r31.m,.slice r31.p2 r31.l2 r31.c2] rR rR (by simp) kR (by simp[Value.oneCell']) (by simp[NoUL]) ?_;intro w45 hh hd ho;have H46:=hN hh;have D46:=zH (hd);have K48:=zH (K41.out.trans_new ho (fun j hj=> .inr (by injection hj with hj;rw[<-hj];exact Q44.out)));have S49:=zH (Own.ext ho S42.out G43.out);clear hh hd ho;refine⟨S49.out,?_⟩
 (try simp only[Act.put])
 refine wpAnyH_done kR ?_ _;go_upto_region 2 with fail
 refine wp_region_held_drew (S:=fun x=>Fr (fun kz=>kz=Bs) w45 x) kR (Fr.of_ext zb) (fun _=> ?_);have H50:=zH (H46.out.step (Ext.refl w45).drew);have D50:=zH (Dig.of_ext (w:=w45) zb);have K52:=zH (K48.out.trans (Fr.of_ext (Ext.refl w45).drew));refine mR 1 (bs 8 2) X37 (0) [.bool r31.n,.slice r31.p r31.l r31.c,.bool r31.m,.slice r31.p2 r31.l2 r31.c2] (fun x hx=>Fr.range hx (show World.rangeAt w45 X37 (0) [.bool r31.n,.slice r31.p r31.l r31.c,.bool r31.m,.slice r31.p2 r31.l2 r31.c2]from(H46.out.range (i:=7) rR 0 4)) (H46.out.offBlk (i:=7) (j:=4) rR rR dC rR)) Tryz.underlying33 (Fr.of_ext zb) ?_;refine mR 2 (bs 8 6) X8 (0) [.bool rh.n,.slice rh.p rh.l rh.c,.bool rh.m,.slice rh.p2 rh.l2 rh.c2] (fun x hx=>Fr.range hx (show World.rangeAt w45 X8 (0) [.bool rh.n,.slice rh.p rh.l rh.c,.bool rh.m,.slice rh.p2 rh.l2 rh.c2]from(H46.out.range (i:=6) rR 0 4)) (H46.out.offBlk (i:=6) (j:=4) rR rR dC rR)) Tryz.underlying33 (Fr.of_ext zb) ?_;refine zr 3 (bs 8 14) X1 (0) [.bool rl_.n,.slice rl_.p rl_.l rl_.c,.bool rl_.m,.slice rl_.p2 rl_.l2 rl_.c2] (fun x hx=>Fr.range hx (show World.rangeAt w45 X1 (0) [.bool rl_.n,.slice rl_.p rl_.l rl_.c,.bool rl_.m,.slice rl_.p2 rl_.l2 rl_.c2]from(H46.out.range (i:=5) rR 0 4)) (H46.out.offBlk (i:=5) (j:=4) rR rR dC rR)) Tryz.underlying33 (Fr.of_ext zb) ?_;refine Fd.go (j:=0) (dj:=some 19) (u:= .agg #[.bool rq.n,.slice rq.p rq.l rq.c,.bool rq.m,.slice rq.p2 rq.l2 rq.c2]) ?_;have DD55:=tD (tD (tD (tD DD32 D33) D39) D46) D50;refine fd_call (b:=w45) (i:=4) (lj:=(bs 8 15)) (li:=(bs 8 30)) rR rR kR kR kR kR kR dC kR rR rR (fun x_ h_=>Fr.of_ext h_) (Ext.refl w45).drew (fun x_ h_=>ev_ld _ _ rR Bs (0) [.bool rq.n,.slice rq.p rq.l rq.c,.bool rq.m,.slice rq.p2 rq.l2 rq.c2] rR (range_ext (show World.rangeAt w45 Bs (0) [.bool rq.n,.slice rq.p rq.l rq.c,.bool rq.m,.slice rq.p2 rq.l2 rq.c2]from H46.out.range (i:=4) rR 0 4) h_) Tryz.underlying33 rR kR) rR (by go_simp) kR (pSub (L:=60000) (RV.Is.nin (RH.out.dig DD55.out) (Nat.le_trans BH.out (by omega))) (RV.Is.nin (RL.out.dig DD55.out) (Nat.le_trans BL.out (by omega))) (by omega)) ?_;rintro e w53 ⟨c_,rfl,hc_,hx⟩;have H56:=zH (H50.out.step hx);have D56:=zH (show Dig w45.drew w53 from Dig.of_ext hx);have K58:=zH (K52.out.trans (Fr.of_ext hx));have X59:=zH (show Ext w45 w53 from(Ext.refl w45).drew.trans hx);have S60:=zH (show Fr (fun kz=>kz=Bs) w45 w53 from(Fr.of_ext zb).trans (Fr.of_ext hx));obtain⟨r54,rfl,hr_⟩:=hc_;have R54:=zH hr_;clear hr_;have B54:=zH (show Nm.rl (hi-lo)<=24+24+1 from by have h1:=BH.out;have h2:=BL.out;have h3:=Nm.rl_sub hi lo;omega);have hx_:=hx;clear hx;refine⟨_,rfl,hx_,?_⟩;try simp only[Act.put,zA,zB,zC]
 clear hx_;have DD63:=tD (tD (tD D39 D46) D50) D56;refine fd_call (b:=w45) (i:=5) (lj:=(bs 8 31)) (li:=(bs 8 62)) rR rR kR kR kR kR kR dC kR rR rR (fun x_ h_=>Fr.of_ext h_) X59.out (fun x_ h_=>ev_ld _ _ rR Bs (0) [.bool rq.n,.slice rq.p rq.l rq.c,.bool rq.m,.slice rq.p2 rq.l2 rq.c2] rR (range_ext (show World.rangeAt w45 Bs (0) [.bool rq.n,.slice rq.p rq.l rq.c,.bool rq.m,.slice rq.p2 rq.l2 rq.c2]from H46.out.range (i:=4) rR 0 4) h_) Tryz.underlying33 rR kR) rR (by go_simp) kR (pMul (L:=60000) (RV.Is.nin (R31.out.dig DD63.out) (Nat.le_trans B31.out (by omega))) (RV.Is.nin R54.out (Nat.le_trans B54.out (by omega))) (by omega)) ?_;rintro e w61 ⟨c_,rfl,hc_,hx⟩;have H64:=zH (H56.out.step hx);have D64:=zH (Dig.of_ext hx);have K66:=zH (K58.out.trans (Fr.of_ext hx));have X67:=zH (show Ext w45 w61 from X59.out.trans hx);have S68:=zH (S60.out.trans (Fr.of_ext hx));obtain⟨r62,rfl,hr_⟩:=hc_;have R62:=zH hr_;clear hr_;have B62:=zH (show Nm.rl ((widV rule a b rs ((lo+hi)/2))*(hi-lo))<=90+(24+24+1)from by have h1:=B31.out;have h2:=B54.out;have h3:=Nm.rl_mul (widV rule a b rs ((lo+hi)/2)) (hi-lo);omega);have hx_:=hx;clear hx;refine⟨_,rfl,hx_,?_⟩;try simp only[Act.put,zA,zB,zC]
 clear hx_;refine fd_end rR kR rR rR S68.out (ev_ld _ _ rR Bs (0) [.bool rq.n,.slice rq.p rq.l rq.c,.bool rq.m,.slice rq.p2 rq.l2 rq.c2] rR (range_ext (show World.rangeAt w45 Bs (0) [.bool rq.n,.slice rq.p rq.l rq.c,.bool rq.m,.slice rq.p2 rq.l2 rq.c2]from H46.out.range (i:=4) rR 0 4) X67.out) Tryz.underlying33 rR kR) (show _=(bs 8 63)by kernel_rfl) ?_;try simp only[Act.put,zA,zB,zC]
 have DD71:=tD (tD DD55 D56) D64;refine mC 6 (bs 8 127) (pAdd (L:=60000) (RV.Is.nin (RQ.out.dig DD71.out) (Nat.le_trans BQ.out (by omega))) (RV.Is.nin R62.out (Nat.le_trans B62.out (by omega))) (by omega)) ?_;rintro e w69 ⟨c_,rfl,hc_,hx⟩;have H72:=zH (H64.out.step hx);have D72:=zH (Dig.of_ext hx);have K74:=zH (K66.out.trans (Fr.of_ext hx));have S76:=zH (S68.out.trans (Fr.of_ext hx));obtain⟨r70,rfl,hr_⟩:=hc_;have R70:=zH hr_;clear hr_;have B70:=zH (show Nm.rl (q+((widV rule a b rs ((lo+hi)/2))*(hi-lo)))<=50000+(90+(24+24+1))+1 from by have h1:=BQ.out;have h2:=B62.out;have h3:=Nm.rl_add q ((widV rule a b rs ((lo+hi)/2))*(hi-lo));omega);clear hx;refine zm S76.out ?_;refine md_st (i:=7) (listed':=(bs 8 255)) rR kR rR kR _ _ _ rR H72.out (ix:=4) rR 0 [.bool r70.n,.slice r70.p r70.l r70.c,.bool r70.m,.slice r70.p2 r70.l2 r70.c2] rR rR (by simp) kR (by simp[Value.oneCell']) (by simp[NoUL]) ?_;intro w77 hh hd ho;have H78:=hN hh;have D78:=zH (hd);have K80:=zH (K74.out.trans_new ho (fun j hj=> .inl (by injection hj with hj;exact hj.symm)));have S81:=zH (Fr.trans_new S76.out ho (fun j hj=> .inl (by simpa using hj.symm)));clear hh hd ho;refine⟨S81.out,?_⟩
 (try simp only[Act.put])
 refine wpAnyH_done kR ?_ _;go_wp2_with fail
 first|refine bodyPost_end (v:= .tuple #[]) (results_none rfl _ _ _) rfl ?_|refine bodyPost_ret (v:= .tuple #[]) (results_none rfl _ _ _) rfl ?_
 have DD82:=tD (tD DD71 D72) D78;exact⟨rfl,r70,(R70.out.dig D78.out),Nat.le_trans B70.out (by decide),H78.out.pickL [4] (by decide) _ (by rfl),DD82.out,K80.out⟩
def EvRet (a b:Int×Int)(rs:List Ring)(w:World)(e:Ending)(w':World):Prop:=
  ∃(v:Value) (es:List R1E),e= .returned v/\RowN w' w.heap.size 33 4 v es.length (es.flatMap R1E.cells)/\(es.map R1E.q).Pairwise (· < ·)/\(∀x,x∈es.map R1E.q↔x∈evL a b rs)/\(∀e,e∈es->e.Ok 24 w')/\Ext w w'
def EvI (X1 X6 X42 X63 Y64 X83 X93 X155:Nat)(a b:Int×Int)(r61 r62:RV)(base:List Rat)(A1:Option Addr)(m c1:Nat)(w W1:World)(pre:List OkE)(W:World):Prop:=
  ∃ (A:Option Addr) (n c:Nat) (es:List R1E) (A2:Option Addr) (c2:Nat),Hp w W [.blk X1 28 [.int .i64 a.1,.int .i64 a.2],.blk X6 28 [.int .i64 b.1,.int .i64 b.2],.blk X42 28 [.int .i64 a.1,.int .i64 a.2,.int .i64 b.1,.int .i64 b.2],.blk X63 33 [.bool r61.n,.slice r61.p r61.l r61.c,.bool r61.m,.slice r61.p2 r61.l2 r61.c2],.blk Y64 33 [.bool r62.n,.slice r62.p r62.l r62.c,.bool r62.m,.slice r62.p2 r62.l2 r62.c2],.row 33 4 (.slice A n c) (n) (List.flatMap R1E.cells es),.blk X83 76 [.slice A n c],.blk X93 101 [.func (.func 79) #[] #[.pointer (some ⟨X63,0,none⟩),.pointer (some ⟨Y64,0,none⟩),.pointer (some ⟨X83,0,none⟩)]],.blk X155 102 [.slice A2 pre.length c2],.row 109 4 (.slice A2 pre.length c2) (pre.length) (List.flatMap edC (pre.map Subtype.val))]/\Dig W1 W/\(∀k,Value.ownBlock (.slice A n c)=some k->Value.ownBlock (.slice A1 m c1)=some k\/W1.heap.size<=k)/\(∀k,Value.ownBlock (.slice A2 pre.length c2)=some k->W1.heap.size<=k)/\
    es.map R1E.q=base++evC a b [] (pre.map Subtype.val)/\n=es.length/\n<=5000+5000*pre.length/\(∀e,e∈es->e.Ok 24 W)/\W1.heap.size<=W.heap.size
theorem evI_own (X1 X6 X42 X63 Y64 X83 X93 X155:Nat)(a b:Int×Int)(r61 r62:RV)(base:List Rat)(A1:Option Addr)(m c1:Nat)(w W1:World)(hw:w.heap.size<=W1.heap.size):OwnFrom W1.heap.size (EvI X1 X6 X42 X63 Y64 X83 X93 X155 a b r61 r62 base A1 m c1 w W1):=by
 rintro s W W' row ⟨A,n,c,es,A2,c2,h1,h2,h3,h4,h5,h6,h7,h8,h9⟩ hg hr;have d:Dig W W':=Dig.keptQ hg (fun k hk=>(hr k hk).2);exact⟨A,n,c,es,A2,c2,h1.keptQ hg (fun k hk=>⟨Nat.le_trans hw (hr k hk).1,(hr k hk).2⟩),h2.trans d,h3,h4,h5,h6,h7,fun e he=>(h8 e he).dig d,Nat.le_trans h9 hg.size⟩
def EvA (X1 X6 X93 X155:Nat)(W1:World)(x:OkE)(a':Act)(W:World):Prop:=
  ∃(J:Nat->Value) (Xp Xq:Nat),Blk W Xp 28 ([.int .i64 x.1.1.1,.int .i64 x.1.1.2]:List Value).toArray/\Blk W Xq 28 ([.int .i64 x.1.2.1,.int .i64 x.1.2.2]:List Value).toArray/\Xp≠Xq/\W1.heap.size<=Xp/\W1.heap.size<=Xq/\a'={tmps:=#[J 0,J 1,J 2,J 3,.pointer (some ⟨X1,0,none⟩),.pointer (some ⟨X6,0,none⟩),J 6,J 7,J 8,J 9,.pointer (some ⟨X93,0,none⟩),J 11,J 12,J 13,J 14,.pointer (some ⟨X155,0,none⟩),.pointer (some ⟨Xp,0,none⟩),.pointer (some ⟨Xq,0,none⟩),J 18,J 19,J 20,J 21,J 22,J 23,J 24,J 25,J 26,J 27,J 28,J 29,J 30,J 31,J 32,J 33,J 34,J 35,J 36,J 37,J 38,J 39,J 40,J 41,J 42,J 43,J 44,J 45,J 46,J 47,J 48,J 49,J 50,J 51,J 52,J 53,J 54,J 55,J 56,J 57,J 58,J 59,J 60,J 61,J 62,J 63,J 64,J 65,J 66,J 67,J 68,J 69,J 70,J 71,J 72,J 73,J 74,J 75,J 76,J 77,J 78,J 79,J 80,J 81,J 82,J 83,J 84,J 85,J 86,J 87,J 88,J 89,J 90,J 91,J 92,J 93,J 94,J 95,J 96,J 97,J 98,J 99,J 100,J 101,J 102,J 103,J 104,J 105,J 106,J 107,J 108,J 109,J 110,J 111,J 112,J 113,J 114,J 115,J 116,J 117,J 118,J 119,J 120,J 121,J 122,J 123,J 124,J 125,J 126,J 127,J 128,J 129],defers:=[]}
theorem evA_own (X1 X6 X93 X155:Nat)(W1:World)(x:OkE)(a':Act):OwnFrom W1.heap.size (fun(_:Unit) W=>EvA X1 X6 X93 X155 W1 x a' W):=by
  rintro _ W W' row ⟨J,Xp,Xq,h1,h2,h3⟩ hg hr;exact⟨J,Xp,Xq,h1.kept hg (fun k hk=>(hr k hk).2),h2.kept hg (fun k hk=>(hr k hk).2),h3⟩
theorem evA_mk {X1 X6 X93 X155 Xp Xq:Nat}{W1 W:World}{x:OkE}{a':Act}(h1:Blk W Xp 28 ([.int .i64 x.1.1.1,.int .i64 x.1.1.2]:List Value).toArray)(h2:Blk W Xq 28 ([.int .i64 x.1.2.1,.int .i64 x.1.2.2]:List Value).toArray)(h3:Xp≠Xq)(h4:W1.heap.size<=Xp)(h5:W1.heap.size<=Xq)
    (h6:a'={tmps:=#[a'.tmps.getD 0 undef,a'.tmps.getD 1 undef,a'.tmps.getD 2 undef,a'.tmps.getD 3 undef,.pointer (some ⟨X1,0,none⟩),.pointer (some ⟨X6,0,none⟩),a'.tmps.getD 6 undef,a'.tmps.getD 7 undef,a'.tmps.getD 8 undef,a'.tmps.getD 9 undef,.pointer (some ⟨X93,0,none⟩),a'.tmps.getD 11 undef,a'.tmps.getD 12 undef,a'.tmps.getD 13 undef,a'.tmps.getD 14 undef,.pointer (some ⟨X155,0,none⟩),.pointer (some ⟨Xp,0,none⟩),.pointer (some ⟨Xq,0,none⟩),a'.tmps.getD 18 undef,a'.tmps.getD 19 undef,a'.tmps.getD 20 undef,a'.tmps.getD 21 undef,a'.tmps.getD 22 undef,a'.tmps.getD 23 undef,a'.tmps.getD 24 undef,a'.tmps.getD 25 undef,a'.tmps.getD 26 undef,a'.tmps.getD 27 undef,a'.tmps.getD 28 undef,a'.tmps.getD 29 undef,a'.tmps.getD 30 undef,a'.tmps.getD 31 undef,a'.tmps.getD 32 undef,a'.tmps.getD 33 undef,a'.tmps.getD 34 undef,a'.tmps.getD 35 undef,a'.tmps.getD 36 undef,a'.tmps.getD 37 undef,a'.tmps.getD 38 undef,a'.tmps.getD 39 undef,a'.tmps.getD 40 undef,a'.tmps.getD 41 undef,a'.tmps.getD 42 undef,a'.tmps.getD 43 undef,a'.tmps.getD 44 undef,a'.tmps.getD 45 undef,a'.tmps.getD 46 undef,a'.tmps.getD 47 undef,a'.tmps.getD 48 undef,a'.tmps.getD 49 undef,a'.tmps.getD 50 undef,a'.tmps.getD 51 undef,a'.tmps.getD 52 undef,a'.tmps.getD 53 undef,a'.tmps.getD 54 undef,a'.tmps.getD 55 undef,a'.tmps.getD 56 undef,a'.tmps.getD 57 undef,a'.tmps.getD 58 undef,a'.tmps.getD 59 undef,a'.tmps.getD 60 undef,a'.tmps.getD 61 undef,a'.tmps.getD 62 undef,a'.tmps.getD 63 undef,a'.tmps.getD 64 undef,a'.tmps.getD 65 undef,a'.tmps.getD 66 undef,a'.tmps.getD 67 undef,a'.tmps.getD 68 undef,a'.tmps.getD 69 undef,a'.tmps.getD 70 undef,a'.tmps.getD 71 undef,a'.tmps.getD 72 undef,a'.tmps.getD 73 undef,a'.tmps.getD 74 undef,a'.tmps.getD 75 undef,a'.tmps.getD 76 undef,a'.tmps.getD 77 undef,a'.tmps.getD 78 undef,a'.tmps.getD 79 undef,a'.tmps.getD 80 undef,a'.tmps.getD 81 undef,a'.tmps.getD 82 undef,a'.tmps.getD 83 undef,a'.tmps.getD 84 undef,a'.tmps.getD 85 undef,a'.tmps.getD 86 undef,a'.tmps.getD 87 undef,a'.tmps.getD 88 undef,a'.tmps.getD 89 undef,a'.tmps.getD 90 undef,a'.tmps.getD 91 undef,a'.tmps.getD 92 undef,a'.tmps.getD 93 undef,a'.tmps.getD 94 undef,a'.tmps.getD 95 undef,a'.tmps.getD 96 undef,a'.tmps.getD 97 undef,a'.tmps.getD 98 undef,a'.tmps.getD 99 undef,a'.tmps.getD 100 undef,a'.tmps.getD 101 undef,a'.tmps.getD 102 undef,a'.tmps.getD 103 undef,a'.tmps.getD 104 undef,a'.tmps.getD 105 undef,a'.tmps.getD 106 undef,a'.tmps.getD 107 undef,a'.tmps.getD 108 undef,a'.tmps.getD 109 undef,a'.tmps.getD 110 undef,a'.tmps.getD 111 undef,a'.tmps.getD 112 undef,a'.tmps.getD 113 undef,a'.tmps.getD 114 undef,a'.tmps.getD 115 undef,a'.tmps.getD 116 undef,a'.tmps.getD 117 undef,a'.tmps.getD 118 undef,a'.tmps.getD 119 undef,a'.tmps.getD 120 undef,a'.tmps.getD 121 undef,a'.tmps.getD 122 undef,a'.tmps.getD 123 undef,a'.tmps.getD 124 undef,a'.tmps.getD 125 undef,a'.tmps.getD 126 undef,a'.tmps.getD 127 undef,a'.tmps.getD 128 undef,a'.tmps.getD 129 undef],defers:=[]}):EvA X1 X6 X93 X155 W1 x a' W:=⟨fun q=>a'.tmps.getD q undef,Xp,Xq,h1,h2,h3,h4,h5,h6⟩
theorem eventYs_any (u:Value)(rs:List Ring)(a b:Int×Int)(w:World)(hu:RingsV w u rs)(hn:rs.length<=1048576)(hr:∀r,r∈rs->r.length<=1048576):
  Calls Tryz.prog 52 #[u,.agg #[.int .i64 a.1,.int .i64 a.2],.agg #[.int .i64 b.1,.int .i64 b.2]] w (EvRet a b rs w):=by
 have HU:=zH hu;have HN:=zH hn;have HR:=zH hr;obtain⟨A,cu,rfl,hA⟩:=hu;have HA:=zH hA;clear hA hr;refine(callsIn_wide (n:=4)).1 ?_;refine callsIn_of_wp_marks Tryz.func52 rfl trivial ?_ rfl;simp only[Tryz.ntmps52,List.size_toArray,List.length_cons,List.length_nil,Nat.reduceAdd,Nat.reduceSub,Array.replicate_succ,Array.replicate_zero,List.push_toArray,List.append_toArray,List.nil_append,List.cons_append];refine wpIn_wide.2 ?_;refine Go.Code.wp_mono bodyPostQ.m ?_;have H0:=zH (Hp.start w);go_upto_region 0 with fail
 refine wl ?_;refine aA' 28 [.int .i64 a.1,.int .i64 a.2] H0.out ?_;intro X1 w2 H3 _;refine aA' 28 [.int .i64 b.1,.int .i64 b.2] H3.out ?_;intro X6 w7 H8 _;refine zI1 (Hp.start _) _ ?_;rcases emH (okR rs=true)with HVQ|HVQ
 ·have HV:=HVQ
  rcases emH (okAll [a,b]=true)with HB|HB
  ·have HALL:=HB
   rcases emH (b.2<=a.2)with HLE|HLE
   ·go_upto_region 1 with fail
    refine wl ?_;refine zI1 (Hp.start _) _ ?_;refine zc (polyValid_any _ rs _ (HU.out.ext H8.out.ext) HN.out HR.out) ?_;rintro e w16 ⟨rfl,hx⟩;have H17:=zH (H8.out.step hx);clear hx;refine⟨.bool true,by rw[HV.out],?_⟩;try simp only[Act.put,zA,zB,zC]
    refine zI4 H17.out (.bool false) (.bool false) _ _ ?_;refine aL' 2 28 [.int .i64 a.1,.int .i64 a.2,.int .i64 b.1,.int .i64 b.2] H17.out ?_;intro X21 w22 H23 _;refine zc (may_any (.slice (some ⟨X21,0,none⟩) 2 2) [a,b] _ (ptsLit2 H23.out (i:=2) rR) (by simp)) ?_;rintro e w25 ⟨rfl,hx⟩;have H26:=zH (H23.out.step hx);clear hx;refine⟨.bool true,by rw[HALL.out],?_⟩;try simp only[Act.put,zA,zB,zC]
    refine zI7 H26.out (.bool false) (.bool false) (.bool false) _ _ _ _ ?_;refine zp (.bool true) (by exact ezo (e:=(dec_t (by have ob0:=HLE.out;omega)))) ?_;refine zq (.bool true) ?_;go_upto_region 2 with fail
    refine wl ?_;refine zI1 (Hp.start _) _ ?_;go_wp2_with fail
    exact⟨_,results_tmp rfl _ _ _,_,[],rfl,RowN.nil _ _ _ _,by simp,by rw[show evL a b rs=[]from if_neg (fun h=>by have h1:=h.2.2.2;have h2:=HLE.out;omega)];simp,by simp,H26.out.ext⟩
   go_upto_region 1 with fail
   refine wl ?_;refine zI1 (Hp.start _) _ ?_;refine zc (polyValid_any _ rs _ (HU.out.ext H8.out.ext) HN.out HR.out) ?_;rintro e w37 ⟨rfl,hx⟩;have H38:=zH (H8.out.step hx);clear hx;refine⟨.bool true,by rw[HV.out],?_⟩;try simp only[Act.put,zA,zB,zC]
   refine zI4 H38.out (.bool false) (.bool false) _ _ ?_;refine aL' 2 28 [.int .i64 a.1,.int .i64 a.2,.int .i64 b.1,.int .i64 b.2] H38.out ?_;intro X42 w43 H44 _;refine zc (may_any (.slice (some ⟨X42,0,none⟩) 2 2) [a,b] _ (ptsLit2 H44.out (i:=2) rR) (by simp)) ?_;rintro e w46 ⟨rfl,hx⟩;have H47:=zH (H44.out.step hx);clear hx;refine⟨.bool true,by rw[HALL.out],?_⟩;try simp only[Act.put,zA,zB,zC]
   refine zI7 H47.out (.bool false) (.bool false) (.bool false) _ _ _ _ ?_;refine zp (.bool false) (by exact ezo (e:=(dec_f (by have ob0:=HLE.out;omega)))) ?_;refine zq (.bool false) ?_;have hok:=okAll2.1 HB.out;have oa:=okP_out hok.1;have ob:=okP_out hok.2;have HOK:=zH hok;clear hok;go_upto_region 3 with fail
   refine zy ?_;have H56:=zH (H47.out.step (Ext.refl w46).drew);refine zJ4 H47.out zb (bs 10 27) 0 1 3 4 _ _ _ _ ?_;refine tuple2 (f:=2) 2 5 6 7 46 49 7 8 33 z4 (fun v w=>∃c,v= .agg c/\NIs w c (((a.2):Int):Rat)) (fun v w=>∃c,v= .agg c/\NIs w c (((b.2):Int):Rat)) rfl rfl rfl rfl dC dC kR (fun _ hx=>zb.trans hx) (fun _ _ _ h e=>by obtain⟨c,h1,h2⟩:=h;exact⟨c,h1,h2.ext e⟩) (fun _ _ _ h e=>by obtain⟨c,h1,h2⟩:=h;exact⟨c,h1,h2.ext e⟩) ?ht60c1 ?ht60c2 ?ht60c3 ?ht60c4 ?ht60e _ _ _ _ kR rfl;case ht60c1=>
    intro v1 v2 v3 v4 w1 K hxq hSw hK;try simp only[Act.put,zA,zB,zC]
    rw[if_pos (by rfl)];refine wp_call_op (by go_simp) (pFrom a.2 _ (by omega) (by omega)) ?_;rintro e w' ⟨c_,rfl,hc_,hx⟩;refine⟨_,rfl,?_⟩;have hk:=hK.out _ _ ⟨c_,rfl,hc_⟩ hx;try simp only[Act.put,zA,zB,zC]
    simp only[Act.put,zA,zB,zC]at hk;exact hk
   case ht60c2=>
    intro v1 v2 v3 v4 w1 K hxq hSw hK;try simp only[Act.put,zA,zB,zC]
    rw[if_pos (by rfl)];refine wp_call_op (by go_simp) (pFrom b.2 _ (by omega) (by omega)) ?_;rintro e w' ⟨c_,rfl,hc_,hx⟩;refine⟨_,rfl,?_⟩;have hk:=hK.out _ _ ⟨c_,rfl,hc_⟩ hx;try simp only[Act.put,zA,zB,zC]
    simp only[Act.put,zA,zB,zC]at hk;exact hk
   case ht60c3=>
    intro v1 v2 v3 v4 w1 K hxq hSw hK;try simp only[Act.put,zA,zB,zC]
    go_simp
    have hk:=hK.out;simp only[Act.put,zA,zB,zC]at hk;exact hk
   case ht60c4=>
    intro v1 v2 v3 v4 w1 K hxq hSw hK;try simp only[Act.put,zA,zB,zC]
    go_simp
    have hk:=hK.out;simp only[Act.put,zA,zB,zC]at hk;exact hk
   case ht60e=>
   intro v1_ v2_ X63 Y64 w65 hx hSw xp1 xp2 xb1 xb2 xz1 xz2 n12;have hh:=H56.out.add2 hx xb1 xb2 xz1 xz2 n12 (by simp[NoUL]) (by simp[NoUL]);have H66:=hN hh;have S68:=zH (zb.trans hx);have G69:=zH (Nat.le_trans zb.size xz1);have G70:=zH (Nat.le_trans zb.size xz2);obtain⟨c_,rfl,hc_⟩:=xp1;obtain⟨r61,rfl,hr_⟩:=hc_;have R61:=zH hr_;have B61:=zH (rl_i64 a.2 (by omega) (by omega));clear hr_;obtain⟨c_,rfl,hc_⟩:=xp2;obtain⟨r62,rfl,hr_⟩:=hc_;have R62:=zH hr_;have B62:=zH (rl_i64 b.2 (by omega) (by omega));clear hr_ hh hx hSw xb1 xb2 xz1 xz2 n12
   (try simp only[zA,zB,zC])
   refine bS 3 8 (bs 10 511) (rc r61) H66.out S68.out G69.out ?_;intro w71 H72 D72 S74;refine bS 4 9 (bs 10 1023) (rc r62) H72.out S74.out G70.out ?_;intro w75 H76 D76 S78;refine wpAnyH_done kR ?_ _;go_upto_region 4 with fail
   refine wl ?_;refine zI2 H76.out _ _ ?_;refine aL' 2 33 [.bool r61.n,.slice r61.p r61.l r61.c,.bool r61.m,.slice r61.p2 r61.l2 r61.c2,.bool r62.n,.slice r62.p r62.l r62.c,.bool r62.m,.slice r62.p2 r62.l2 r62.c2] H76.out ?_;intro X79 w80 H81 D81;refine aA' 76 [.slice none 0 0] H81.out ?_;intro X83 w84 H85 D85;refine aU' 6 (.slice (some ⟨X79,0,none⟩) 2 2) H85.out ?_;intro w88 H89 D89;have H91:=zH (show Hp w w88 [.blk X1 28 [.int .i64 a.1,.int .i64 a.2],.blk X6 28 [.int .i64 b.1,.int .i64 b.2],.blk X42 28 [.int .i64 a.1,.int .i64 a.2,.int .i64 b.1,.int .i64 b.2],.blk X63 33 (rc r61),.blk Y64 33 (rc r62),ro 33 4 (some ⟨X79,0,none⟩) 2 2 R1E.cells ([(⟨r61,(((a.2):Int):Rat)⟩:R1E),(⟨r62,(((b.2):Int):Rat)⟩:R1E)]),.blk X83 76 [.slice (some ⟨X79,0,none⟩) 2 2]]from H89.out.turn (r:=none) (i:=5) (e:= .blk X79 33 [.bool r61.n,.slice r61.p r61.l r61.c,.bool r61.m,.slice r61.p2 r61.l2 r61.c2,.bool r62.n,.slice r62.p r62.l r62.c,.bool r62.m,.slice r62.p2 r62.l2 r62.c2]) (e':= .row 33 4 (.slice (some ⟨X79,0,none⟩) 2 2) (2) (List.flatMap R1E.cells ([(⟨r61,(((a.2):Int):Rat)⟩:R1E),(⟨r62,(((b.2):Int):Rat)⟩:R1E)]))) (by rfl) (fun k h=>by cases h) (World.grownBy.refl _ _) (H89.out.litRow17 (i:=5) (n:=2) (by rfl) (by rfl) (by decide)) (fun k hk=> .inl hk));go_upto_region 5 with fail
   refine wl ?_;refine zI1 (Hp.start _) _ ?_;refine aA' 101 [.nilFunc] H91.out ?_;intro X93 w94 H95 D95;refine aU' 7 (.func (.func 79) #[] #[.pointer (some ⟨X63,0,none⟩),.pointer (some ⟨Y64,0,none⟩),.pointer (some ⟨X83,0,none⟩)]) H95.out ?_;intro w98 H99 D99;have DD101:=tD (tD (tD (tD (tD (tD D72 D76) D81) D85) D89) D95) D99;have HOE0:=zH (show∀e,e∈[(⟨r61,(((a.2):Int):Rat)⟩:R1E),(⟨r62,(((b.2):Int):Rat)⟩:R1E)]->e.Ok 24 w98 from(by simp only[List.forall_mem_cons,List.not_mem_nil,false_imp_iff,implies_true,and_true];exact⟨⟨(R61.out.dig DD101.out),Nat.le_trans B61.out (by decide)⟩,⟨(R62.out.dig DD101.out),Nat.le_trans B62.out (by decide)⟩⟩));go_upto_region 6 with fail
   refine wl ?_;refine zI3 (Hp.start _) _ (.int .i64 ((rs.length:Nat):Int)) _ ?_;go_wp2_with fail
   go_loopg [56] (rs.length) (fun cq v105 wr=>∃(i:Nat) (m:Nat) (es:List R1E) (A1:Option Addr) (c1:Nat),cq=rs.length-i/\v105= .int .i64 (i:Int)/\(i<=rs.length)/\(m=es.length/\m<=2+tot (rs.take i))/\(es.map R1E.q=[(((a.2):Int):Rat),(((b.2):Int):Rat)]++evP a b (rs.take i))/\(∀e,e∈es->e.Ok 24 wr)/\Hp w wr [.blk X1 28 [.int .i64 a.1,.int .i64 a.2],.blk X6 28 [.int .i64 b.1,.int .i64 b.2],.blk X42 28 [.int .i64 a.1,.int .i64 a.2,.int .i64 b.1,.int .i64 b.2],.blk X63 33 [.bool r61.n,.slice r61.p r61.l r61.c,.bool r61.m,.slice r61.p2 r61.l2 r61.c2],.blk Y64 33 [.bool r62.n,.slice r62.p r62.l r62.c,.bool r62.m,.slice r62.p2 r62.l2 r62.c2],.row 33 4 (.slice A1 m c1) (m) (List.flatMap R1E.cells es),.blk X83 76 [.slice A1 m c1],.blk X93 101 [.func (.func 79) #[] #[.pointer (some ⟨X63,0,none⟩),.pointer (some ⟨Y64,0,none⟩),.pointer (some ⟨X83,0,none⟩)]]]/\Dig w98 wr)
   case atStart=>exact⟨0,2,[(⟨r61,(((a.2):Int):Rat)⟩:R1E),(⟨r62,(((b.2):Int):Rat)⟩:R1E)],some ⟨X79,0,none⟩,2,rfl,rfl,Nat.zero_le _,⟨rfl,by simp[tot]⟩,rfl,HOE0.out,H99.out,Dig.refl _⟩
   obtain⟨i,m,es,A1,c1,rfl,rfl,q_HKI,q_HM,q_HES,q_HOE,hh_,hd_⟩:=hrel;generalize wr=w106 at*
   have HKI:=zH q_HKI;clear q_HKI;have HM:=zH q_HM;clear q_HM;have HES:=zH q_HES;clear q_HES;have HOE:=zH q_HOE;clear q_HOE;have H108:=zH hh_;have D108:=zH hd_;clear hh_ hd_ H99;rcases emH (i<rs.length)with HLT|HLT
   ·have hlt:=HLT.out
    obtain⟨r,hri_⟩:∃r,rs[i]?=some r:=⟨_,List.getElem?_eq_getElem hlt⟩;have HRI:=zH hri_;have hrl:=HR.out r (List.mem_of_getElem? hri_);obtain⟨g,off,rfl,hp_⟩:=HA.out (by omega);obtain⟨B,cb,h1_,A2_,cb2_,hv_,h2_⟩:=hp_ i r hri_;injection hv_ with e1_ e2_ e3_
    subst e1_;subst e3_;have HRC:=zH h1_;have HPT:=zH h2_;clear hri_ h1_ h2_ hp_ e2_;go_upto_region 7 with fail
    refine wl ?_;refine zp (.bool true) (by exact ezl (e:=(dec_t (by omega)))) ?_;go_upto_region 8 with fail
    refine wl ?_;refine zp (.pointer (some ⟨g,off+i,none⟩)) (by exact ezi (k:=i) Tryz.underlying22 (l:=hlt) (f:=(show off+i=off+i*1 by omega))) ?_;refine ze g (off+i) (.slice B r.length cb) (range_one (H108.out.ext.get HRC.out)) ?_;refine zI1 (Hp.start _) _ ?_;go_upto_region 9 with fail
    refine wl ?_;refine zI3 (Hp.start _) _ (.int .i64 ((r.length:Nat):Int)) _ ?_;have HT2:=zH (show tot (rs.take i)+r.length<=4096 from by have h_:=tot_succ HRI.out;have h2_:=tot_take rs (i+1);have h3_:=okR_tot HV.out;omega);go_wp2_with fail
    go_loopg [62] (r.length) (fun cq v116 wr=>∃(k:Nat) (m2:Nat) (es2:List R1E) (A2:Option Addr) (c2:Nat),cq=r.length-k/\v116= .int .i64 (k:Int)/\(k<=r.length)/\(m2=es2.length/\m2<=2+(tot (rs.take i)+k))/\(es2.map R1E.q=[(((a.2):Int):Rat),(((b.2):Int):Rat)]++evP a b (rs.take i)++(r.take k).flatMap (fun p=>btw (((a.2):Int):Rat) (((b.2):Int):Rat) (p.2:Rat)))/\(∀e,e∈es2->e.Ok 24 wr)/\Hp w wr [.blk X1 28 [.int .i64 a.1,.int .i64 a.2],.blk X6 28 [.int .i64 b.1,.int .i64 b.2],.blk X42 28 [.int .i64 a.1,.int .i64 a.2,.int .i64 b.1,.int .i64 b.2],.blk X63 33 [.bool r61.n,.slice r61.p r61.l r61.c,.bool r61.m,.slice r61.p2 r61.l2 r61.c2],.blk Y64 33 [.bool r62.n,.slice r62.p r62.l r62.c,.bool r62.m,.slice r62.p2 r62.l2 r62.c2],.row 33 4 (.slice A2 m2 c2) (m2) (List.flatMap R1E.cells es2),.blk X83 76 [.slice A2 m2 c2],.blk X93 101 [.func (.func 79) #[] #[.pointer (some ⟨X63,0,none⟩),.pointer (some ⟨Y64,0,none⟩),.pointer (some ⟨X83,0,none⟩)]]]/\Dig w106 wr)
    case atStart=>exact⟨0,m,es,A1,c1,rfl,rfl,Nat.zero_le _,⟨HM.out.1,HM.out.2⟩,(by rw[HES.out];simp),(fun g_ hg_=>(HOE.out g_ hg_)),H108.out,Dig.refl _⟩
    obtain⟨k,m2,es2,A2,c2,rfl,rfl,q_HKU,q_HM2,q_HES2,q_HOE2,hh_,hd_⟩:=hrel;generalize wr=w117 at*
    have HKU:=zH q_HKU;clear q_HKU;have HM2:=zH q_HM2;clear q_HM2;have HES2:=zH q_HES2;clear q_HES2;have HOE2:=zH q_HOE2;clear q_HOE2;have H119:=zH hh_;have D119:=zH hd_;clear hh_ hd_ H108;rcases emH (k<r.length)with HLU|HLU
    ·have hlu:=HLU.out
     have hr0:r≠ []:=by intro h_;rw[h_]at hlu;simp at hlu
     obtain⟨gr,ofr,rfl,hpa_⟩:=HPT.out hr0;have HPA:=zH hpa_;obtain⟨p,hp_⟩:∃p,r[k]?=some p:=⟨_,List.getElem?_eq_getElem hlu⟩;have HPK:=zH hp_;have HPR:=zH (ptAt_range hpa_ hp_);have HKP:=zH (okR_ptk HV.out HRI.out hp_);have op:=okP_out HKP.out;clear hp_ hpa_;go_upto_region 10 with fail
     refine wl ?_;refine zp (.bool true) (by exact ezl (e:=(dec_t (by omega)))) ?_;go_upto_region 11 with fail
     refine wl ?_;refine zp (.pointer (some ⟨gr,ofr+k*2,none⟩)) (by exact ezi (k:=k) Tryz.underlying44 (l:=hlu) (f:=rfl)) ?_;refine zd gr (ofr+k*2) [.int .i64 p.1,.int .i64 p.2] (range_ext HPR.out H119.out.ext) Tryz.underlying28 ?_;refine aA' 28 [.int .i64 0,.int .i64 0] H119.out ?_;intro X123 w124 H125 D125;refine aS' 8 [.int .i64 p.1,.int .i64 p.2] H125.out ?_;intro w128 H129 D129;go_upto_region 12 with fail
     refine wp_region_held_drew (S:=fun x=>Fr (fun kz=>kz=X83\/Value.ownBlock (.slice A2 m2 c2)=some kz) w128 x) kR (Fr.of_ext zb) (fun _=> ?_);have H131:=zH (H129.out.step (Ext.refl w128).drew);have D131:=zH (Dig.of_ext (w:=w128) zb);refine md_ld1 (g:=X93) (o:=0) (v:= .func (.func 79) #[] #[.pointer (some ⟨X63,0,none⟩),.pointer (some ⟨Y64,0,none⟩),.pointer (some ⟨X83,0,none⟩)]) (i:=0) (listed':=(bs 5 1)) rR kR kR kR (by intro _ _ _ h;exact h) rR (fun x hx=>Fr.cell hx (show World.cell? w128 ⟨X93,0,none⟩=some (.func (.func 79) #[] #[.pointer (some ⟨X63,0,none⟩),.pointer (some ⟨Y64,0,none⟩),.pointer (some ⟨X83,0,none⟩)])from cell_of_range (H129.out.range (i:=7) rR 0 1)) (fun hk=>hk.elim (H129.out.offBlk (i:=7) (j:=6) rR rR dC rR) (H129.out.offRow (i:=7) (j:=5) rR rR dC rR))) (by intro x hq;go_simp<;>with_reducible rfl) (Fr.of_ext zb) kR ?_;try simp only[Act.put,zA,zB,zC]
     refine zx 1 (bs 5 3) (.pointer (some ⟨X123,1,none⟩)) (Fr.of_ext zb) ?_;refine md_ld1 (g:=X123) (o:=1) (v:= .int .i64 p.2) (i:=2) (listed':=(bs 5 7)) rR kR kR kR (by intro _ _ _ h;exact h) rR (fun x hx=>Fr.cell hx (show World.cell? w128 ⟨X123,1,none⟩=some (.int .i64 p.2)from cell_of_range (H129.out.range (i:=8) rR 1 1)) (fun hk=>hk.elim (H129.out.offBlk (i:=8) (j:=6) rR rR dC rR) (H129.out.offRow (i:=8) (j:=5) rR rR dC rR))) (by intro x hq;go_simp<;>with_reducible rfl) (Fr.of_ext zb) kR ?_;try simp only[Act.put,zA,zB,zC]
     refine mC 3 (bs 5 15) (pFrom p.2 _ (by omega) (by omega)) ?_;rintro e w134 ⟨c_,rfl,hc_,hx⟩;have H136:=zH (H131.out.step hx);have D136:=zH (show Dig w128.drew w134 from Dig.of_ext hx);have S139:=zH (show Fr (fun kz=>kz=X83\/Value.ownBlock (.slice A2 m2 c2)=some kz) w128 w134 from(Fr.of_ext zb).trans (Fr.of_ext hx));obtain⟨r135,rfl,hr_⟩:=hc_;have R135:=zH hr_;have B135:=zH (rl_i64 p.2 (by omega) (by omega));clear hr_ hx;refine zm S139.out ?_;have DD142:=tD (tD (tD (tD (tD (tD DD101 D108) D119) D125) D129) D131) D136;have DD143:=tD (tD (tD D125 D129) D131) D136;refine mC 4 (bs 5 31) (put_any 24 dC r135 r61 r62 (((p.2):Int):Rat) (((a.2):Int):Rat) (((b.2):Int):Rat) X63 Y64 X83 A2 m2 c2 es2 w _ (H136.out.pick2 (ib:=6) (ir:=5) rR rR dC) R135.out (Nat.le_trans B135.out (by omega)) (R61.out.dig DD142.out) (R62.out.dig DD142.out) (Nat.le_trans B61.out (by omega)) (Nat.le_trans B62.out (by omega)) (H136.out.range (i:=3) rR 0 4) (H136.out.range (i:=4) rR 0 4) (fun h_=>h_.elim (H136.out.offBlk (i:=3) (j:=6) rR rR dC rR) (H136.out.offRow (i:=3) (j:=5) rR rR dC rR)) (fun h_=>h_.elim (H136.out.offBlk (i:=4) (j:=6) rR rR dC rR) (H136.out.offRow (i:=4) (j:=5) rR rR dC rR)) HM2.out.1 (by have h_:=HM2.out.2;have h2_:=HT2.out;omega) (fun g_ hg_=>(HOE2.out g_ hg_).dig DD143.out)) ?_;rintro e w140 ⟨rfl,hkr_⟩;unfold PutRet at hkr_;obtain⟨A141,c141,n141,es141,h1_,h2_,h3_,h4_,h5_,h6_,h7_,h8_⟩:=hkr_;have HVK141:=zH h5_;have HNK141:=zH (And.intro h6_ h7_);have HOK141:=zH h8_;have HFK141:=zH h4_;have HFP141:=zH h3_;have H144:=zH (show Hp w w140 [.blk X1 28 [.int .i64 a.1,.int .i64 a.2],.blk X6 28 [.int .i64 b.1,.int .i64 b.2],.blk X42 28 [.int .i64 a.1,.int .i64 a.2,.int .i64 b.1,.int .i64 b.2],.blk X63 33 (rc r61),.blk Y64 33 (rc r62),ro 33 4 A141 n141 c141 R1E.cells es141,.blk X83 76 [.slice A141 n141 c141],.blk X93 101 [.func (.func 79) #[] #[.pointer (some ⟨X63,0,none⟩),.pointer (some ⟨Y64,0,none⟩),.pointer (some ⟨X83,0,none⟩)]],.blk X123 28 [.int .i64 p.1,.int .i64 p.2]]from H136.out.call2 (ib:=6) (ir:=5) (e:= .blk X83 76 [.slice A2 m2 c2]) (f:= .row 33 4 (.slice A2 m2 c2) (m2) (List.flatMap R1E.cells es2)) (e':= .blk X83 76 [.slice A141 n141 c141]) (f':= .row 33 4 (.slice A141 n141 c141) (n141) (List.flatMap R1E.cells es141)) (by rfl) (by rfl) (by decide) h3_ (fun k_ hk_=>hk_.elim (fun h_=> .inl (by rw[h_];rfl)) .inr) h1_ (fun k_ hk_=> .inl hk_) h4_);have D144:=zH (show Dig w134 w140 from h2_);clear h1_ h2_ h4_ h5_ h6_ h7_ h8_;have hx:=True.intro;have S146:=zH (S139.out.trans (h3_));clear hx;refine zm S146.out ?_;refine wpAnyH_done kR ?_ _;go_upto_region 13 with fail
     refine wl ?_;refine zp (.int .i64 ((k+1:Nat):Int)) (by exact ez1 (by omega)) ?_;refine zq (.int .i64 ((k+1:Nat):Int)) ?_;have DD149:=tD (tD (tD (tD (tD D119 D125) D129) D131) D136) D144;go_wp2_with fail
     go_roundg (r.length-(k+1))
     case measure=>exact(by omega)
     case rel=>exact⟨k+1,n141,es141,A141,c141,rfl,(by go_num),hlu,⟨HNK141.out.1,by have h_:=HNK141.out.2;have h2_:=HM2.out.2;omega⟩,(by rw[HVK141.out,HES2.out,ringP_snoc HPK.out,<-List.append_assoc];rfl),(fun g_ hg_=>(HOK141.out g_ hg_)),H144.out.take 8,DD149.out⟩
    have hlu:=HLU.out;have hku:=HKU.out;obtain rfl:k=r.length:=by omega
    go_upto_region 10 with fail
    refine wl ?_;refine zp (.bool false) (by exact ezl (e:=(dec_f (Int.lt_irrefl _)))) ?_;go_upto_region 14 with fail
    refine wl ?_;refine zp (.int .i64 ((i+1:Nat):Int)) (by exact ez1 (by omega)) ?_;refine zq (.int .i64 ((i+1:Nat):Int)) ?_;have DD153:=tD D108 D119;go_wp2_with fail
    go_roundg (rs.length-(i+1))
    case measure=>exact(by omega)
    case rel=>exact⟨i+1,m2,es2,A2,c2,rfl,(by go_num),hlt,⟨HM2.out.1,by have h_:=HM2.out.2;have h2_:=tot_succ HRI.out;omega⟩,(by rw[HES2.out,List.take_length,evP_take HRI.out,List.append_assoc]),(fun g_ hg_=>(HOE2.out g_ hg_)),H119.out,DD153.out⟩
   have hlt:=HLT.out;have hki:=HKI.out;obtain rfl:i=rs.length:=by omega
   go_upto_region 7 with fail
   refine wl ?_;refine zp (.bool false) (by exact ezl (e:=(dec_f (Int.lt_irrefl _)))) ?_;go_upto_region 15 with fail
   refine wl ?_;refine aA' 102 [.slice none 0 0] H108.out ?_;intro X155 w156 H157 D157;have H160:=zH (show Hp w w156 [.blk X1 28 [.int .i64 a.1,.int .i64 a.2],.blk X6 28 [.int .i64 b.1,.int .i64 b.2],.blk X42 28 [.int .i64 a.1,.int .i64 a.2,.int .i64 b.1,.int .i64 b.2],.blk X63 33 (rc r61),.blk Y64 33 (rc r62),ro 33 4 A1 m c1 R1E.cells es,.blk X83 76 [.slice A1 m c1],.blk X93 101 [.func (.func 79) #[] #[.pointer (some ⟨X63,0,none⟩),.pointer (some ⟨Y64,0,none⟩),.pointer (some ⟨X83,0,none⟩)]],.blk X155 102 [.slice none 0 0],ro 109 4 none 0 0 edC ([])]from H157.out.addNil 109 4);go_upto_region 16 with fail
   refine wl ?_;refine zI1 (Hp.start _) _ ?_;refine zc (edges_any _ rs _ (HU.out.ext H160.out.ext) HN.out HR.out) ?_;rintro e w162 ⟨Bx,ve,rfl,hB1,hB2,hcell,hR,hx⟩;have HB1:=zH hB1;have HB2:=zH hB2;have HCL:=zH hcell;rw[if_pos HV.out]at hR;have HRG:=zH hR;clear hB1 hcell hR;have H163:=zH (H160.out.step hx);have D163:=zH (Dig.of_ext hx);clear hx;refine zn ?_;have hbo:=H160.out.lt (i:=6) (k:=X83) (by rfl) rfl;have hbe:=H160.out.lt (i:=8) (k:=X155) (by rfl) rfl;have hbr:=fun k (hk:Value.ownBlock (.slice A1 m c1)=some k)=>H160.out.lt (i:=5) (k:=k) (by rfl) (by exact hk)
   have HRF:=zH (show RingsO (fun k=>¬(fun k=>k=X83\/k=X155\/Value.ownBlock (.slice A1 m c1)=some k\/w162.heap.size<=k) k) w162 ve rs from HRG.out.imp (fun k h hk=>by rcases hk with rfl|rfl|hk|hk;omega;omega;have h2:=hbr k hk;omega;omega));have HWS:=zH (show w.heap.size<=w162.heap.size from H163.out.ext.size);have hgb:¬(fun k=>k=X83\/k=X155\/Value.ownBlock (.slice A1 m c1)=some k\/w162.heap.size<=k) Bx:=fun hk=>by have h1:=HB1.out;have h9:=HB2.out;rcases hk with hk|hk|hk|hk;omega;omega;have h2:=hbr _ hk;omega;omega
   have DD165:=tD D157 D163;have DD166:=tD (tD (tD DD101 D108) D157) D163;have HOLD0:=zH (H163.out.lt (i:=0) (k:=X1) (by rfl) rfl);have HOLD1:=zH (H163.out.lt (i:=1) (k:=X6) (by rfl) rfl);have HOLD2:=zH (H163.out.lt (i:=2) (k:=X42) (by rfl) rfl);go_wp2_with fail
   refine wpIn_wide.1 (edges_loop (n:=4) (by omega) (fun k=>k=X83\/k=X155\/Value.ownBlock (.slice A1 m c1)=some k\/w162.heap.size<=k) Bx ve rs rR HCL.out hgb HRF.out HN.out HV.out (fun k h=> .inr (.inr (.inr h))) (EvI X1 X6 X42 X63 Y64 X83 X93 X155 a b r61 r62 (es.map R1E.q) A1 m c1 w w162) (evI_own X1 X6 X42 X63 Y64 X83 X93 X155 a b r61 r62 (es.map R1E.q) A1 m c1 w w162 HWS.out) ⟨A1,m,c1,es,none,0,H163.out,Dig.refl _,fun k hk=> .inl hk,by simp[Value.ownBlock],by simp[evC],HM.out.1,by have h1:=HM.out.2;have h2:=tot_take rs rs.length;have h3:=okR_tot HV.out;omega,(fun g_ hg_=>(HOE.out g_ hg_).dig DD165.out),Nat.le_refl _⟩ (EvA X1 X6 X93 X155 w162) (evA_own X1 X6 X93 X155 w162) ?assign ?body ?done);case assign=>
    intro l pre x W K hi hK;obtain⟨A,n,c,es2,A2,c2,hh,hd,hf1,hf2,hvl,hnl,hnp,hok,hsz⟩:=hi;have HSZ:=zH hsz;have H0:=zH hh;have HK:=zH hK;have HF:=zH (And.intro hf1 (And.intro hf2 (And.intro hvl (And.intro hnl hnp))));have HOKS:=zH hok;have HD:=zH hd;clear hsz hh hK hf1 hf2 hok hvl hnl hnp hd;unfold ptVal2;simp only[zA,zB,zC];refine wpIn_seq ?_;refine wpIn_region_plain kR (fun⟨_,_,h⟩=>h) ?_;refine aA 28 [.int .i64 0,.int .i64 0] H0.out ?_;intro X167 w168 H170 hx hge;have Q169:=zH (show W.heap.size<=X167 from Nat.le_trans (Fr.of_ext (G:=fun kz=>False) (Ext.refl W)).size hge);have D170:=zH (Dig.of_ext hx);have K172:=zH (show Fr (fun kz=>False) W w168 from(Fr.of_ext (G:=fun kz=>False) (Ext.refl W)).trans (Fr.of_ext hx));clear hx hge;refine aS 10 [.int .i64 x.1.1.1,.int .i64 x.1.1.2] H170.out ?_;intro w174 H175 hd ho;have D175:=zH (hd);have K177:=zH (K172.out.trans_new ho (fun j hj=> .inr (by injection hj with hj;rw[<-hj];exact Q169.out)));clear hd ho;refine wpIn_region_plain kR (fun⟨_,_,h⟩=>h) ?_;refine aA 28 [.int .i64 0,.int .i64 0] H175.out ?_;intro X178 w179 H181 hx hge;have Q180:=zH (Nat.le_trans K177.out.size hge);have D181:=zH (Dig.of_ext hx);have K183:=zH (K177.out.trans (Fr.of_ext hx));clear hx hge;refine aS 11 [.int .i64 x.1.2.1,.int .i64 x.1.2.2] H181.out ?_;intro w185 H186 hd ho;have D186:=zH (hd);have K188:=zH (K183.out.trans_new ho (fun j hj=> .inr (by injection hj with hj;rw[<-hj];exact Q180.out)));clear hd ho;refine HK.out _ _ (KeepsFrom.of_fr K188.out (fun _ h=>h.elim)) (K188.out.imp (fun _ h=>h.elim)) ⟨A,n,c,es2,A2,c2,H186.out.take 10,HD.out.trans (((D170.out.trans D175.out).trans D181.out).trans D186.out),HF.out.1,HF.out.2.1,HF.out.2.2.1,HF.out.2.2.2.1,HF.out.2.2.2.2,fun e he=>(HOKS.out e he).dig (((D170.out.trans D175.out).trans D181.out).trans D186.out),Nat.le_trans HSZ.out K188.out.size⟩ (evA_mk (H186.out.blk (i:=10) rR) (H186.out.blk (i:=11) rR) ?_ (Nat.le_trans HSZ.out Q169.out) (Nat.le_trans HSZ.out Q180.out) rR);exact fun e=>H186.out.apart 10 11 _ _ (by rfl) (by rfl) (by decide) X167 (by rfl) (by rw[e];rfl)
   case body=>
    intro l pre x a' W hi hax hlen;obtain⟨A,n,c,es2,A2,c2,hh,hd,hf1,hf2,hvl,hnl,hnp,hok,hsz⟩:=hi;obtain⟨J,Xp,Xq,hba,hbb,hne,hga,hgb2,rfl⟩:=hax;have HSZ:=zH hsz;have HD:=zH hd;have HF1:=zH hf1;have HF2:=zH hf2;have HVL:=zH hvl;have HNL:=zH hnl;have HNP:=zH hnp;have HOKS:=zH hok;have HOX:=zH x.2;have H0:=zH (show Hp w W [.blk X1 28 [.int .i64 a.1,.int .i64 a.2],.blk X6 28 [.int .i64 b.1,.int .i64 b.2],.blk X42 28 [.int .i64 a.1,.int .i64 a.2,.int .i64 b.1,.int .i64 b.2],.blk X63 33 (rc r61),.blk Y64 33 (rc r62),ro 33 4 A n c R1E.cells es2,.blk X83 76 [.slice A n c],.blk X93 101 [.func (.func 79) #[] #[.pointer (some ⟨X63,0,none⟩),.pointer (some ⟨Y64,0,none⟩),.pointer (some ⟨X83,0,none⟩)]],.blk X155 102 [.slice A2 pre.length c2],ro 109 4 A2 pre.length c2 edC (pre.map Subtype.val),.blk Xp 28 [.int .i64 x.1.1.1,.int .i64 x.1.1.2],.blk Xq 28 [.int .i64 x.1.2.1,.int .i64 x.1.2.2]]from hh.addTyp3 hba hbb hne HWS.out hga hgb2 (by simp[NoUL]) (by simp[NoUL]) (by simp only[List.forall_mem_cons,List.not_mem_nil,false_imp_iff,implies_true,and_true];exact⟨.inr (fun k hk=>by injection hk with hk;rw[<-hk];exact HOLD0.out),.inr (fun k hk=>by injection hk with hk;rw[<-hk];exact HOLD1.out),.inr (fun k hk=>by injection hk with hk;rw[<-hk];exact HOLD2.out),.inl (by simp[Ent.typ]),.inl (by simp[Ent.typ]),.inl (by simp[Ent.typ]),.inl (by simp[Ent.typ]),.inl (by simp[Ent.typ]),.inl (by simp[Ent.typ]),.inl (by simp[Ent.typ])⟩));have HLEN:=zH hlen;obtain⟨o2,ho2_⟩:∃o2,o2=Value.ownBlock (.slice A2 pre.length c2):=⟨_,rfl⟩;have HO2:=zH ho2_;clear ho2_;have HLO:=zH (R61.out.dig ((DD166.out).trans HD.out));have HHI:=zH (R62.out.dig ((DD166.out).trans HD.out));have HFR:=zH (show Fr (fun kz=>kz=X83\/kz=X155\/Value.ownBlock (.slice A n c)=some kz\/o2=some kz) W W from Fr.of_ext (Ext.refl W));clear hh hd hf1 hf2 hvl hnl hnp hok hsz hba hbb hne hga hgb2;gi_upto_region 19 with fail
    refine wpIn_region_plain kR (fun⟨_,_,h⟩=>h) ?_;refine zI4 H0.out _ _ _ _ ?_;refine aL 2 3 [.int .i64 a.1,.int .i64 b.1] H0.out ?_;intro X191 w192 H193 hx hge;have D193:=zH (Dig.of_ext hx);have K195:=zH (HFR.out.trans (Fr.of_ext hx));clear hx hge;refine zI2 (Hp.start _) _ _ ?_;refine wpList_nil ?_;skip
    gi_wp2_with fail
    gi_loopg [83] (2) (fun cq v198 wr=>∃(kx:Nat) (A3:Option Addr) (n3:Nat) (c3:Nat) (es3:List R1E),cq=2-kx/\v198= .int .i64 (kx:Int)/\(kx<=2)/\(n3=es3.length/\n3<=n+kx)/\(es3.map R1E.q=(es.map R1E.q)++evC a b [] (pre.map Subtype.val)++yatP a b x.1 kx)/\(∀e,e∈es3->e.Ok 24 wr)/\((∀k,Value.ownBlock (.slice A3 n3 c3)=some k->Value.ownBlock (.slice A n c)=some k\/W.heap.size<=k))/\(Fr (fun kz=>kz=X83\/kz=X155\/Value.ownBlock (.slice A n c)=some kz\/o2=some kz) W wr)/\Hp w wr [.blk X1 28 [.int .i64 a.1,.int .i64 a.2],.blk X6 28 [.int .i64 b.1,.int .i64 b.2],.blk X42 28 [.int .i64 a.1,.int .i64 a.2,.int .i64 b.1,.int .i64 b.2],.blk X63 33 [.bool r61.n,.slice r61.p r61.l r61.c,.bool r61.m,.slice r61.p2 r61.l2 r61.c2],.blk Y64 33 [.bool r62.n,.slice r62.p r62.l r62.c,.bool r62.m,.slice r62.p2 r62.l2 r62.c2],.row 33 4 (.slice A3 n3 c3) (n3) (List.flatMap R1E.cells es3),.blk X83 76 [.slice A3 n3 c3],.blk X93 101 [.func (.func 79) #[] #[.pointer (some ⟨X63,0,none⟩),.pointer (some ⟨Y64,0,none⟩),.pointer (some ⟨X83,0,none⟩)]],.blk X155 102 [.slice A2 pre.length c2],.row 109 4 (.slice A2 pre.length c2) (pre.length) (List.flatMap edC (pre.map Subtype.val)),.blk Xp 28 [.int .i64 x.1.1.1,.int .i64 x.1.1.2],.blk Xq 28 [.int .i64 x.1.2.1,.int .i64 x.1.2.2],.blk X191 3 [.int .i64 a.1,.int .i64 b.1]]/\Dig w192 wr)
    case atStart=>exact⟨0,A,n,c,es2,rfl,rfl,(by omega),⟨HNL.out,by omega⟩,(by rw[HVL.out];simp[yatP]),(fun g_ hg_=>(HOKS.out g_ hg_).dig D193.out),(fun k hk=> .inl hk),K195.out,H193.out,Dig.refl _⟩
    obtain⟨kx,A3,n3,c3,es3,rfl,rfl,q_HKX,q_HM3,q_HES3,q_HOE3,q_HO3,q_HFR,hh_,hd_⟩:=hrel;generalize wr=w199 at*
    have HKX:=zH q_HKX;clear q_HKX;have HM3:=zH q_HM3;clear q_HM3;have HES3:=zH q_HES3;clear q_HES3;have HOE3:=zH q_HOE3;clear q_HOE3;have HO3:=zH q_HO3;clear q_HO3;have HFR:=zH q_HFR;clear q_HFR;have H201:=zH hh_;have D201:=zH hd_;clear hh_ hd_ H193;rcases emH (kx<2)with HKT|HKT
    ·obtain⟨xv,hxv⟩:∃xv,xv=if kx=0 then a.1 else b.1:=⟨_,rfl⟩
     have HXV:=zH hxv;clear hxv;have hxb: -1048576<=xv/\xv<=1048576:=by rw[HXV.out];split<;>omega
     have HXB:=zH hxb;clear hxb;gi_upto_region 20 with fail
     refine wpIn_region_plain kR (fun⟨_,_,h⟩=>h) ?_;refine zp (.bool true) (by exact ezl (e:=(dec_t (by have ob0:=HLEN.out;have ob1:=HKT.out;omega)))) ?_;refine wpList_nil ?_;gi_upto_region 21 with fail
     refine wpIn_region_plain kR (fun⟨_,_,h⟩=>h) ?_;refine zp (.pointer (some ⟨X191,kx,none⟩)) (by exact ezi (k:=kx) Tryz.underlying106 (l:=(by have h_:=HKT.out;omega)) (f:=(show kx=0+kx*1 by omega))) ?_;refine ze X191 kx (.int .i64 xv) (by rw[HXV.out];exact lit2_get H201.out (i:=12) rR kx HKT.out) ?_;refine zq (.int .i64 xv) ?_;refine wpList_nil ?_;rcases emH (yatC x.1.1 x.1.2 xv)with HYC|HYC
     ·gi_upto_region 22 with fail
      refine wpIn_region_plain kR (fun⟨_,_,h⟩=>h) ?_;refine zd Xp (0) [.int .i64 x.1.1.1,.int .i64 x.1.1.2] (H201.out.range (i:=10) rR 0 2) Tryz.underlying28 ?_;refine zd Xq (0) [.int .i64 x.1.2.1,.int .i64 x.1.2.2] (H201.out.range (i:=11) rR 0 2) Tryz.underlying28 ?_;refine qV (.int .i64 xv) ?_;refine zc (((yat_any x.1.1 x.1.2 xv _ (by have h_:=HXB.out;omega)).mono (fun _ _ h_=>AtRet.yes h_ HYC.out))) ?_;rintro e w208 ⟨r209,rfl,hr_,hx⟩;have H210:=zH (H201.out.step hx);have D210:=zH (Dig.of_ext hx);have K212:=zH (HFR.out.trans (Fr.of_ext hx));have R209:=zH hr_;have B209:=zH (rl_yat (x:=xv) HYC.out.1 HYC.out.2.1 HXB.out);clear hr_ hx;refine zn ?_;refine zI3 (Hp.start _) _ _ (.bool true) ?_;refine aA 33 rz H210.out ?_;intro X216 w217 H219 hx hge;have Q218:=zH (Nat.le_trans K212.out.size hge);have D219:=zH (Dig.of_ext hx);have K221:=zH (K212.out.trans (Fr.of_ext hx));clear hx hge;refine aS 13 (rc r209) H219.out ?_;intro w223 H224 hd ho;have D224:=zH (hd);have K226:=zH (K221.out.trans_new ho (fun j hj=> .inr (by injection hj with hj;rw[<-hj];exact Q218.out)));clear hd ho;refine zq (.bool true) ?_;refine wpList_nil ?_;gi_upto_region 23 with fail
      refine wpIn_region_plain kR (fun⟨_,_,h⟩=>h) ?_;refine zq (.bool true) ?_;refine wpList_nil ?_;gi_upto_region 24 with fail
      refine wpIn_region_plain kR (fun⟨_,_,h⟩=>h) ?_;refine zI2 H224.out _ _ ?_;have DD231:=tD D219 D224;have DD232:=tD (tD (tD (tD D193 D201) D210) D219) D224;have DD233:=tD (tD D210 D219) D224;refine zc (put_any 24 dC r209 r61 r62 (yatQ x.1.1 x.1.2 xv) (((a.2):Int):Rat) (((b.2):Int):Rat) X63 Y64 X83 A3 n3 c3 es3 w _ (H224.out.pick2 (ib:=6) (ir:=5) rR rR dC) (R209.out.dig DD231.out) (Nat.le_trans B209.out (by omega)) (HLO.out.dig DD232.out) (HHI.out.dig DD232.out) (Nat.le_trans B61.out (by omega)) (Nat.le_trans B62.out (by omega)) (H224.out.range (i:=3) rR 0 4) (H224.out.range (i:=4) rR 0 4) (fun h_=>h_.elim (H224.out.offBlk (i:=3) (j:=6) rR rR dC rR) (H224.out.offRow (i:=3) (j:=5) rR rR dC rR)) (fun h_=>h_.elim (H224.out.offBlk (i:=4) (j:=6) rR rR dC rR) (H224.out.offRow (i:=4) (j:=5) rR rR dC rR)) HM3.out.1 (by have h_:=HM3.out.2;have h2_:=HNP.out;have h3_:=HLEN.out;have h4_:=HKT.out;omega) (fun g_ hg_=>(HOE3.out g_ hg_).dig DD233.out)) ?_;rintro e w229 ⟨rfl,hkr_⟩;unfold PutRet at hkr_;obtain⟨A230,c230,n230,es230,h1_,h2_,h3_,h4_,h5_,h6_,h7_,h8_⟩:=hkr_;have HVK230:=zH h5_;have HNK230:=zH (And.intro h6_ h7_);have HOK230:=zH h8_;have HFK230:=zH h4_;have HFP230:=zH h3_;have H234:=zH (show Hp w w229 [.blk X1 28 [.int .i64 a.1,.int .i64 a.2],.blk X6 28 [.int .i64 b.1,.int .i64 b.2],.blk X42 28 [.int .i64 a.1,.int .i64 a.2,.int .i64 b.1,.int .i64 b.2],.blk X63 33 (rc r61),.blk Y64 33 (rc r62),ro 33 4 A230 n230 c230 R1E.cells es230,.blk X83 76 [.slice A230 n230 c230],.blk X93 101 [.func (.func 79) #[] #[.pointer (some ⟨X63,0,none⟩),.pointer (some ⟨Y64,0,none⟩),.pointer (some ⟨X83,0,none⟩)]],.blk X155 102 [.slice A2 pre.length c2],ro 109 4 A2 pre.length c2 edC (pre.map Subtype.val),.blk Xp 28 [.int .i64 x.1.1.1,.int .i64 x.1.1.2],.blk Xq 28 [.int .i64 x.1.2.1,.int .i64 x.1.2.2],.blk X191 3 [.int .i64 a.1,.int .i64 b.1],.blk X216 33 (rc r209)]from H224.out.call2 (ib:=6) (ir:=5) (e:= .blk X83 76 [.slice A3 n3 c3]) (f:= .row 33 4 (.slice A3 n3 c3) (n3) (List.flatMap R1E.cells es3)) (e':= .blk X83 76 [.slice A230 n230 c230]) (f':= .row 33 4 (.slice A230 n230 c230) (n230) (List.flatMap R1E.cells es230)) (by rfl) (by rfl) (by decide) h3_ (fun k_ hk_=>hk_.elim (fun h_=> .inl (by rw[h_];rfl)) .inr) h1_ (fun k_ hk_=> .inl hk_) h4_);have D234:=zH (show Dig w223 w229 from h2_);have K236:=zH (K226.out.trans_fr HFP230.out (fun k hk=>hk.elim (fun h=> .inl (.inl h)) (fun hk=>(HO3.out k hk).elim (fun h=> .inl (.inr (.inr (.inl h)))) .inr)));clear h1_ h2_ h4_ h5_ h6_ h7_ h8_;have hx:=True.intro;clear hx;refine zn ?_;refine wpList_nil ?_;gi_upto_region 25 with fail
      refine wpIn_region_plain kR (fun⟨_,_,h⟩=>h) ?_;refine zp (.int .i64 ((kx+1:Nat):Int)) (by exact ez1 (by have ob0:=HLEN.out;have ob1:=HKT.out;have ob2:=HXB.out;omega)) ?_;refine zq (.int .i64 ((kx+1:Nat):Int)) ?_;refine wpList_nil ?_;have DD239:=tD (tD (tD (tD D201 D210) D219) D224) D234;gi_wp2_with fail
      go_roundg (2-(kx+1))
      case measure=>exact(by have ob0:=HLEN.out;have ob1:=HKT.out;have ob2:=HXB.out;have ob4:=(show kx<2 from HKT.out);omega)
      case rel=>exact⟨kx+1,A230,n230,c230,es230,rfl,(by go_num),(by have h_:=HKT.out;omega),⟨HNK230.out.1,by have h_:=HNK230.out.2;have h2_:=HM3.out.2;omega⟩,(by rw[HVK230.out,HES3.out,yatP_succ _ _ _ _ HKT.out,<-HXV.out,yatL_yes HYC.out,List.append_assoc];simp[btw]),(fun g_ hg_=>(HOK230.out g_ hg_)),(fun k_ hk_=>(HFK230.out k_ hk_).elim (fun h_=>HO3.out k_ h_) (fun h_=> .inr (Nat.le_trans K226.out.size h_))),K236.out,H234.out.take 13,DD239.out⟩
     gi_upto_region 22 with fail
     refine wpIn_region_plain kR (fun⟨_,_,h⟩=>h) ?_;refine zd Xp (0) [.int .i64 x.1.1.1,.int .i64 x.1.1.2] (H201.out.range (i:=10) rR 0 2) Tryz.underlying28 ?_;refine zd Xq (0) [.int .i64 x.1.2.1,.int .i64 x.1.2.2] (H201.out.range (i:=11) rR 0 2) Tryz.underlying28 ?_;refine qV (.int .i64 xv) ?_;refine zc (((yat_any x.1.1 x.1.2 xv _ (by have h_:=HXB.out;omega)).mono (fun _ _ h_=>AtRet.no h_ HYC.out))) ?_;rintro e w241 ⟨rfl,hx⟩;have H242:=zH (H201.out.step hx);have D242:=zH (Dig.of_ext hx);have K244:=zH (HFR.out.trans (Fr.of_ext hx));clear hx;refine zn ?_;refine zI3 (Hp.start _) _ _ (.bool false) ?_;refine aA 33 rz H242.out ?_;intro X248 w249 H251 hx hge;have Q250:=zH (Nat.le_trans K244.out.size hge);have D251:=zH (Dig.of_ext hx);have K253:=zH (K244.out.trans (Fr.of_ext hx));clear hx hge;refine aS 13 rz H251.out ?_;intro w255 H256 hd ho;have D256:=zH (hd);have K258:=zH (K253.out.trans_new ho (fun j hj=> .inr (by injection hj with hj;rw[<-hj];exact Q250.out)));clear hd ho;refine zq (.bool false) ?_;refine wpList_nil ?_;gi_upto_region 23 with fail
     refine wpIn_region_plain kR (fun⟨_,_,h⟩=>h) ?_;refine zq (.bool false) ?_;refine wpList_nil ?_;gi_upto_region 25 with fail
     refine wpIn_region_plain kR (fun⟨_,_,h⟩=>h) ?_;refine zp (.int .i64 ((kx+1:Nat):Int)) (by exact ez1 (by have ob0:=HLEN.out;have ob1:=HKT.out;have ob2:=HXB.out;omega)) ?_;refine zq (.int .i64 ((kx+1:Nat):Int)) ?_;refine wpList_nil ?_;have DD263:=tD (tD D242 D251) D256;have DD264:=tD (tD (tD D201 D242) D251) D256;gi_wp2_with fail
     go_roundg (2-(kx+1))
     case measure=>exact(by have ob0:=HLEN.out;have ob1:=HKT.out;have ob2:=HXB.out;have ob4:=(show kx<2 from HKT.out);omega)
     case rel=>exact⟨kx+1,A3,n3,c3,es3,rfl,(by go_num),(by have h_:=HKT.out;omega),⟨HM3.out.1,by have h_:=HM3.out.2;omega⟩,(by rw[HES3.out,yatP_succ _ _ _ _ HKT.out,<-HXV.out,yatL_no HYC.out];simp),(fun g_ hg_=>(HOE3.out g_ hg_).dig DD263.out),HO3.out,K258.out,H256.out.take 13,DD264.out⟩
    obtain rfl:kx=2:=by have h_:=HKX.out;have h2_:=HKT.out;omega
    gi_upto_region 20 with fail
    refine wpIn_region_plain kR (fun⟨_,_,h⟩=>h) ?_;refine zp (.bool false) (by exact ezl (e:=(dec_f dC))) ?_;refine wpList_nil ?_;gi_upto_region 26 with fail
    refine wpIn_region_plain kR (fun⟨_,_,h⟩=>h) ?_;refine zI3 H201.out _ (.int .i64 ((pre.length:Nat):Int)) _ ?_;refine wpList_nil ?_;skip
    gi_wp2_with fail
    gi_loopg [101] (pre.length) (fun cq v268 wr=>∃(i2:Nat) (A4:Option Addr) (n4:Nat) (c4:Nat) (es4:List R1E),cq=pre.length-i2/\v268= .int .i64 (i2:Int)/\(i2<=pre.length)/\(n4=es4.length/\n4<=n+2+i2)/\(es4.map R1E.q=(es.map R1E.q)++evC a b [] (pre.map Subtype.val)++((yatL x.1 a.1).flatMap (btw a.2 b.2)++(yatL x.1 b.1).flatMap (btw a.2 b.2))++((pre.map Subtype.val).take i2).flatMap (fun o=>(segL o x.1).flatMap (btw a.2 b.2)))/\(∀e,e∈es4->e.Ok 24 wr)/\((∀k,Value.ownBlock (.slice A4 n4 c4)=some k->Value.ownBlock (.slice A n c)=some k\/W.heap.size<=k))/\(Fr (fun kz=>kz=X83\/kz=X155\/Value.ownBlock (.slice A n c)=some kz\/o2=some kz) W wr)/\Hp w wr [.blk X1 28 [.int .i64 a.1,.int .i64 a.2],.blk X6 28 [.int .i64 b.1,.int .i64 b.2],.blk X42 28 [.int .i64 a.1,.int .i64 a.2,.int .i64 b.1,.int .i64 b.2],.blk X63 33 [.bool r61.n,.slice r61.p r61.l r61.c,.bool r61.m,.slice r61.p2 r61.l2 r61.c2],.blk Y64 33 [.bool r62.n,.slice r62.p r62.l r62.c,.bool r62.m,.slice r62.p2 r62.l2 r62.c2],.row 33 4 (.slice A4 n4 c4) (n4) (List.flatMap R1E.cells es4),.blk X83 76 [.slice A4 n4 c4],.blk X93 101 [.func (.func 79) #[] #[.pointer (some ⟨X63,0,none⟩),.pointer (some ⟨Y64,0,none⟩),.pointer (some ⟨X83,0,none⟩)]],.blk X155 102 [.slice A2 pre.length c2],.row 109 4 (.slice A2 pre.length c2) (pre.length) (List.flatMap edC (pre.map Subtype.val)),.blk Xp 28 [.int .i64 x.1.1.1,.int .i64 x.1.1.2],.blk Xq 28 [.int .i64 x.1.2.1,.int .i64 x.1.2.2],.blk X191 3 [.int .i64 a.1,.int .i64 b.1]]/\Dig w199 wr)
    case atStart=>exact⟨0,A3,n3,c3,es3,rfl,rfl,Nat.zero_le _,⟨HM3.out.1,HM3.out.2⟩,(by rw[HES3.out];simp[yatP]),(fun g_ hg_=>(HOE3.out g_ hg_)),HO3.out,HFR.out,H201.out,Dig.refl _⟩
    obtain⟨i2,A4,n4,c4,es4,rfl,rfl,q_HI4,q_HM4,q_HES4,q_HOE4,q_HO4,q_HFR,hh_,hd_⟩:=hrel;generalize wr=w269 at*
    have HI4:=zH q_HI4;clear q_HI4;have HM4:=zH q_HM4;clear q_HM4;have HES4:=zH q_HES4;clear q_HES4;have HOE4:=zH q_HOE4;clear q_HOE4;have HO4:=zH q_HO4;clear q_HO4;have HFR:=zH q_HFR;clear q_HFR;have H271:=zH hh_;have D271:=zH hd_;clear hh_ hd_ H201;rcases emH (i2<pre.length)with HLT4|HLT4
    ·have hlt:=HLT4.out
     obtain⟨o,ho_⟩:∃o,pre[i2]?=some o:=⟨_,List.getElem?_eq_getElem hlt⟩;have HOO:=zH o.2;have HPO:=zH (show(pre.map Subtype.val)[i2]?=some o.1 by rw[List.getElem?_map,ho_];rfl);skip
     have HTK:=zH (show(pre.map Subtype.val).take (i2+1)=(pre.map Subtype.val).take i2++[o.1]by rw[List.take_add_one,HPO.out];rfl);clear ho_;obtain⟨ge,hge_⟩:=RowN.form (H271.out.row (i:=9) (by rfl)) |>.elim (fun A_ h_=>h_.elim (fun c_ h2_=>(show∃ge,A2=some ⟨ge,0,none⟩from by obtain⟨e_,h3_⟩:=h2_;injection e_ with e1_ e2_ e3_;subst e1_;exact h3_ (by omega))));subst hge_;gi_upto_region 27 with fail
     refine wpIn_region_plain kR (fun⟨_,_,h⟩=>h) ?_;refine zp (.bool true) (by exact ezl (e:=(dec_t (by have ob0:=HLEN.out;omega)))) ?_;refine wpList_nil ?_;gi_upto_region 28 with fail
     refine wpIn_region_plain kR (fun⟨_,_,h⟩=>h) ?_;refine zp (.pointer (some ⟨ge,i2*4,none⟩)) (by exact ezi (k:=i2) Tryz.underlying102 (l:=hlt) (f:=(Nat.zero_add _).symm)) ?_;refine zd ge (i2*4) [.int .i64 o.1.1.1,.int .i64 o.1.1.2,.int .i64 o.1.2.1,.int .i64 o.1.2.2] (H271.out.elem (f:=edC) (i:=9) rR edC_len HPO.out) Tryz.underlying109 ?_;refine aA 109 [.int .i64 0,.int .i64 0,.int .i64 0,.int .i64 0] H271.out ?_;intro X275 w276 H278 hx hge;have Q277:=zH (show W.heap.size<=X275 from Nat.le_trans HFR.out.size hge);have D278:=zH (Dig.of_ext hx);have K280:=zH (HFR.out.trans (Fr.of_ext hx));clear hx hge;refine aS 13 [.int .i64 o.1.1.1,.int .i64 o.1.1.2,.int .i64 o.1.2.1,.int .i64 o.1.2.2] H278.out ?_;intro w282 H283 hd ho;have D283:=zH (hd);have K285:=zH (K280.out.trans_new ho (fun j hj=> .inr (by injection hj with hj;rw[<-hj];exact Q277.out)));clear hd ho;refine wpList_nil ?_;rcases emH (segN o.1.1 o.1.2 x.1.1 x.1.2=1)with HSG|HSG
     ·gi_upto_region 29 with fail
      refine wpIn_region_plain kR (fun⟨_,_,h⟩=>h) ?_;refine zI1 (Hp.start _) _ ?_;refine zd X275 (0) [.int .i64 o.1.1.1,.int .i64 o.1.1.2] (H283.out.range (i:=13) rR 0 2) Tryz.underlying28 ?_;refine zI1 (Hp.start _) _ ?_;refine zd X275 (2) [.int .i64 o.1.2.1,.int .i64 o.1.2.2] (H283.out.range (i:=13) rR 2 2) Tryz.underlying28 ?_;refine zI2 H283.out _ _ ?_;refine zc (((segments_any o.1.1 o.1.2 x.1.1 x.1.2 _ HOO.out.1 HOO.out.2 HOX.out.1 HOX.out.2).mono (fun _ _ h_=>SegRet.yes h_ HSG.out))) ?_;rintro e w289 ⟨r290,s290,rfl,hr_,hs_,hx⟩;have H291:=zH (H283.out.step hx);have D291:=zH (Dig.of_ext hx);have K293:=zH (K285.out.trans (Fr.of_ext hx));have R290:=zH hr_;have S290:=zH hs_;have C290:=zH (rl_segXY HOO.out.1 HOO.out.2 HOX.out.1 HOX.out.2).2;clear hr_ hs_ hx;refine zn ?_;refine zI4 (Hp.start _) _ _ _ _ ?_;refine aA 33 rz H291.out ?_;intro X298 w299 H301 hx hge;have Q300:=zH (Nat.le_trans K293.out.size hge);have D301:=zH (Dig.of_ext hx);have K303:=zH (K293.out.trans (Fr.of_ext hx));clear hx hge;refine aA 33 rz H301.out ?_;intro X305 w306 H308 hx hge;have Q307:=zH (Nat.le_trans K303.out.size hge);have D308:=zH (Dig.of_ext hx);have K310:=zH (K303.out.trans (Fr.of_ext hx));clear hx hge;refine aS 14 (rc r290) H308.out ?_;intro w312 H313 hd ho;have D313:=zH (hd);have K315:=zH (K310.out.trans_new ho (fun j hj=> .inr (by injection hj with hj;rw[<-hj];exact Q300.out)));clear hd ho;refine aS 15 (rc s290) H313.out ?_;intro w316 H317 hd ho;have D317:=zH (hd);have K319:=zH (K315.out.trans_new ho (fun j hj=> .inr (by injection hj with hj;rw[<-hj];exact Q307.out)));clear hd ho;refine zq (.int .i64 1) ?_;refine wpList_nil ?_;gi_upto_region 30 with fail
      refine wpIn_region_plain kR (fun⟨_,_,h⟩=>h) ?_;refine zq (.int .i64 1) ?_;refine zp (.bool true) (by exact ezq (e:=(dec_t rfl))) ?_;refine wpList_nil ?_;gi_upto_region 31 with fail
      refine wpIn_region_plain kR (fun⟨_,_,h⟩=>h) ?_;refine zI2 H317.out _ _ ?_;have DD325:=tD (tD (tD D301 D308) D313) D317;have DD326:=tD (tD (tD (tD (tD (tD (tD (tD (tD D193 D201) D271) D278) D283) D291) D301) D308) D313) D317;have DD327:=tD (tD (tD (tD (tD (tD D278 D283) D291) D301) D308) D313) D317;refine zc (put_any 24 dC s290 r61 r62 (segY o.1.1 o.1.2 x.1.1 x.1.2) (((a.2):Int):Rat) (((b.2):Int):Rat) X63 Y64 X83 A4 n4 c4 es4 w _ (H317.out.pick2 (ib:=6) (ir:=5) rR rR dC) (S290.out.dig DD325.out) (Nat.le_trans C290.out (by omega)) (HLO.out.dig DD326.out) (HHI.out.dig DD326.out) (Nat.le_trans B61.out (by omega)) (Nat.le_trans B62.out (by omega)) (H317.out.range (i:=3) rR 0 4) (H317.out.range (i:=4) rR 0 4) (fun h_=>h_.elim (H317.out.offBlk (i:=3) (j:=6) rR rR dC rR) (H317.out.offRow (i:=3) (j:=5) rR rR dC rR)) (fun h_=>h_.elim (H317.out.offBlk (i:=4) (j:=6) rR rR dC rR) (H317.out.offRow (i:=4) (j:=5) rR rR dC rR)) HM4.out.1 (by have h_:=HM4.out.2;have h2_:=HNP.out;have h3_:=HLEN.out;omega) (fun g_ hg_=>(HOE4.out g_ hg_).dig DD327.out)) ?_;rintro e w323 ⟨rfl,hkr_⟩;unfold PutRet at hkr_;obtain⟨A324,c324,n324,es324,h1_,h2_,h3_,h4_,h5_,h6_,h7_,h8_⟩:=hkr_;have HVK324:=zH h5_;have HNK324:=zH (And.intro h6_ h7_);have HOK324:=zH h8_;have HFK324:=zH h4_;have HFP324:=zH h3_;have H328:=zH (show Hp w w323 [.blk X1 28 [.int .i64 a.1,.int .i64 a.2],.blk X6 28 [.int .i64 b.1,.int .i64 b.2],.blk X42 28 [.int .i64 a.1,.int .i64 a.2,.int .i64 b.1,.int .i64 b.2],.blk X63 33 (rc r61),.blk Y64 33 (rc r62),ro 33 4 A324 n324 c324 R1E.cells es324,.blk X83 76 [.slice A324 n324 c324],.blk X93 101 [.func (.func 79) #[] #[.pointer (some ⟨X63,0,none⟩),.pointer (some ⟨Y64,0,none⟩),.pointer (some ⟨X83,0,none⟩)]],.blk X155 102 [.slice (some ⟨ge,0,none⟩) pre.length c2],ro 109 4 (some ⟨ge,0,none⟩) pre.length c2 edC (pre.map Subtype.val),.blk Xp 28 [.int .i64 x.1.1.1,.int .i64 x.1.1.2],.blk Xq 28 [.int .i64 x.1.2.1,.int .i64 x.1.2.2],.blk X191 3 [.int .i64 a.1,.int .i64 b.1],.blk X275 109 [.int .i64 o.1.1.1,.int .i64 o.1.1.2,.int .i64 o.1.2.1,.int .i64 o.1.2.2],.blk X298 33 (rc r290),.blk X305 33 (rc s290)]from H317.out.call2 (ib:=6) (ir:=5) (e:= .blk X83 76 [.slice A4 n4 c4]) (f:= .row 33 4 (.slice A4 n4 c4) (n4) (List.flatMap R1E.cells es4)) (e':= .blk X83 76 [.slice A324 n324 c324]) (f':= .row 33 4 (.slice A324 n324 c324) (n324) (List.flatMap R1E.cells es324)) (by rfl) (by rfl) (by decide) h3_ (fun k_ hk_=>hk_.elim (fun h_=> .inl (by rw[h_];rfl)) .inr) h1_ (fun k_ hk_=> .inl hk_) h4_);have D328:=zH (show Dig w316 w323 from h2_);have K330:=zH (K319.out.trans_fr HFP324.out (fun k hk=>hk.elim (fun h=> .inl (.inl h)) (fun hk=>(HO4.out k hk).elim (fun h=> .inl (.inr (.inr (.inl h)))) .inr)));clear h1_ h2_ h4_ h5_ h6_ h7_ h8_;have hx:=True.intro;clear hx;refine zn ?_;refine wpList_nil ?_;gi_upto_region 32 with fail
      refine wpIn_region_plain kR (fun⟨_,_,h⟩=>h) ?_;refine zp (.int .i64 ((i2+1:Nat):Int)) (by exact ez1 (by have ob0:=HLEN.out;omega)) ?_;refine zq (.int .i64 ((i2+1:Nat):Int)) ?_;refine wpList_nil ?_;have DD333:=tD (tD (tD (tD (tD (tD (tD (tD D271 D278) D283) D291) D301) D308) D313) D317) D328;gi_wp2_with fail
      go_roundg (pre.length-(i2+1))
      case measure=>exact(by have ob0:=HLEN.out;omega)
      case rel=>exact⟨i2+1,A324,n324,c324,es324,rfl,(by go_num),hlt,⟨HNK324.out.1,by have h_:=HNK324.out.2;have h2_:=HM4.out.2;omega⟩,(by rw[HVK324.out,HES4.out,HTK.out,List.flatMap_append,<-List.append_assoc];simp[segL_yes HSG.out,btw]),(fun g_ hg_=>(HOK324.out g_ hg_)),(fun k_ hk_=>(HFK324.out k_ hk_).elim (fun h_=>HO4.out k_ h_) (fun h_=> .inr (Nat.le_trans K319.out.size h_))),K330.out,H328.out.take 13,DD333.out⟩
     gi_upto_region 29 with fail
     refine wpIn_region_plain kR (fun⟨_,_,h⟩=>h) ?_;refine zI1 (Hp.start _) _ ?_;refine zd X275 (0) [.int .i64 o.1.1.1,.int .i64 o.1.1.2] (H283.out.range (i:=13) rR 0 2) Tryz.underlying28 ?_;refine zI1 (Hp.start _) _ ?_;refine zd X275 (2) [.int .i64 o.1.2.1,.int .i64 o.1.2.2] (H283.out.range (i:=13) rR 2 2) Tryz.underlying28 ?_;refine zI2 H283.out _ _ ?_;refine zc (((segments_any o.1.1 o.1.2 x.1.1 x.1.2 _ HOO.out.1 HOO.out.2 HOX.out.1 HOX.out.2).mono (fun _ _ h_=>SegRet.no h_ HSG.out))) ?_;rintro e w336 ⟨rfl,hx⟩;have H337:=zH (H283.out.step hx);have D337:=zH (Dig.of_ext hx);have K339:=zH (K285.out.trans (Fr.of_ext hx));clear hx;refine zn ?_;refine zI4 (Hp.start _) _ _ _ (.int .i64 (segN o.1.1 o.1.2 x.1.1 x.1.2)) ?_;refine aA 33 rz H337.out ?_;intro X344 w345 H347 hx hge;have Q346:=zH (Nat.le_trans K339.out.size hge);have D347:=zH (Dig.of_ext hx);have K349:=zH (K339.out.trans (Fr.of_ext hx));clear hx hge;refine aA 33 rz H347.out ?_;intro X351 w352 H354 hx hge;have Q353:=zH (Nat.le_trans K349.out.size hge);have D354:=zH (Dig.of_ext hx);have K356:=zH (K349.out.trans (Fr.of_ext hx));clear hx hge;refine aS 14 rz H354.out ?_;intro w358 H359 hd ho;have D359:=zH (hd);have K361:=zH (K356.out.trans_new ho (fun j hj=> .inr (by injection hj with hj;rw[<-hj];exact Q346.out)));clear hd ho;refine aS 15 rz H359.out ?_;intro w362 H363 hd ho;have D363:=zH (hd);have K365:=zH (K361.out.trans_new ho (fun j hj=> .inr (by injection hj with hj;rw[<-hj];exact Q353.out)));clear hd ho;refine zq (.int .i64 (segN o.1.1 o.1.2 x.1.1 x.1.2)) ?_;refine wpList_nil ?_;gi_upto_region 30 with fail
     refine wpIn_region_plain kR (fun⟨_,_,h⟩=>h) ?_;refine zq (.int .i64 (segN o.1.1 o.1.2 x.1.1 x.1.2)) ?_;refine zp (.bool false) (by exact ezq (e:=(dec_f HSG.out))) ?_;refine wpList_nil ?_;gi_upto_region 32 with fail
     refine wpIn_region_plain kR (fun⟨_,_,h⟩=>h) ?_;refine zp (.int .i64 ((i2+1:Nat):Int)) (by exact ez1 (by have ob0:=HLEN.out;omega)) ?_;refine zq (.int .i64 ((i2+1:Nat):Int)) ?_;refine wpList_nil ?_;have DD371:=tD (tD (tD (tD (tD (tD D278 D283) D337) D347) D354) D359) D363;have DD372:=tD (tD (tD (tD (tD (tD (tD D271 D278) D283) D337) D347) D354) D359) D363;gi_wp2_with fail
     go_roundg (pre.length-(i2+1))
     case measure=>exact(by have ob0:=HLEN.out;omega)
     case rel=>exact⟨i2+1,A4,n4,c4,es4,rfl,(by go_num),hlt,⟨HM4.out.1,by have h_:=HM4.out.2;omega⟩,(by rw[HES4.out,HTK.out,List.flatMap_append];simp[segL_no HSG.out]),(fun g_ hg_=>(HOE4.out g_ hg_).dig DD371.out),HO4.out,K365.out,H363.out.take 13,DD372.out⟩
    have hlt:=HLT4.out;have hi4:=HI4.out;obtain rfl:i2=pre.length:=by omega
    gi_upto_region 27 with fail
    refine wpIn_region_plain kR (fun⟨_,_,h⟩=>h) ?_;refine zp (.bool false) (by exact ezl (e:=(dec_f (Int.lt_irrefl _)))) ?_;refine wpList_nil ?_;gi_upto_region 33 with fail
    refine wpIn_region_plain kR (fun⟨_,_,h⟩=>h) ?_;refine zI1 H271.out _ ?_;refine zd Xp (0) [.int .i64 x.1.1.1,.int .i64 x.1.1.2] (H271.out.range (i:=10) rR 0 2) Tryz.underlying28 ?_;refine zd Xq (0) [.int .i64 x.1.2.1,.int .i64 x.1.2.2] (H271.out.range (i:=11) rR 0 2) Tryz.underlying28 ?_;refine zI1 (Hp.start _) _ ?_;refine zp (w':=(w269.alloc (.cells ([.int .i64 x.1.1.1,.int .i64 x.1.1.2,.int .i64 x.1.2.1,.int .i64 x.1.2.2]:List Value).toArray 109))) (.slice (some ⟨w269.heap.size,0,none⟩) 1 1) (by go_simp) ?_;refine mv_app rR _ _ _ rR elPP rR H271.out (ix:=9) rR 1 1 [.int .i64 x.1.1.1,.int .i64 x.1.1.2,.int .i64 x.1.2.1,.int .i64 x.1.2.2] rR rfl (by simp[Value.oneCell']) (by simp[NoUL]) dC (by unfold maxLen;exact(by have ob0:=HLEN.out;omega)) (by have ob0:=HLEN.out;omega) ?_;intro g376 cp377 w375 hf hh hd hg;have Fg376:=zH hf;clear hf;rw[show List.flatMap edC (pre.map Subtype.val)++[.int .i64 x.1.1.1,.int .i64 x.1.1.2,.int .i64 x.1.2.1,.int .i64 x.1.2.2]=_ from flat_snoc edC _ x.1]at hh;have H378:=hN hh;have D378:=zH (hd);have K380:=zH (show Fr (fun kz=>kz=X83\/kz=X155\/Value.ownBlock (.slice A n c)=some kz\/o2=some kz) W w375 from(HFR.out.trans (Fr.of_ext ((Ext.refl _).alloc _))).trans_new hg (fun j hj=> .inl (.inr (.inr (.inr (HO2.out.trans hj))))));clear hh hd hg;try simp only[Act.put,zA,zB,zC]
    refine aU 8 (.slice (some ⟨g376,0,none⟩) (pre.length+1) cp377) H378.out ?_;intro w381 H382 hd ho;have D382:=zH (hd);have K384:=zH (K380.out.trans_new ho (fun j hj=> .inl (.inr (.inl (by injection hj with hj;exact hj.symm)))));clear hd ho;refine wpList_nil ?_;have DD385:=tD D378 D382;gi_wp2
    exact⟨(KeepsFrom.of_fr K384.out (fun k hk o ho=>hk.elim (fun e=>H0.out.cells (i:=6) (by rfl) (by rw[e];rfl) o ho) (fun hk=>hk.elim (fun e=>H0.out.cells (i:=8) (by rfl) (by rw[e];rfl) o ho) (fun hk=>hk.elim (fun e=>H0.out.cells (i:=5) (by rfl) (by exact e) o ho) (fun e=>H0.out.cells (i:=9) (by rfl) (by exact HO2.out.symm.trans e) o ho))))),(K384.out.imp (fun k hk=>hk.elim .inl (fun hk=>hk.elim (fun e=> .inr (.inl e)) (fun hk=>hk.elim (fun e=>(HF1.out k e).elim (fun h=> .inr (.inr (.inl h))) (fun h=> .inr (.inr (.inr h)))) (fun e=> .inr (.inr (.inr (HF2.out k (HO2.out.symm.trans e))))))))),A4,n4,c4,es4,some ⟨g376,0,none⟩,cp377,(by have h_:=H382.out.take 10;rw[show pre.length+1=(pre++[x]).length by simp,show List.map Subtype.val pre++[x.1]=(pre++[x]).map Subtype.val by simp]at h_;exact h_),HD.out.trans ((((D193.out.trans D201.out).trans D271.out).trans D378.out).trans D382.out),(fun k hk=>(HO4.out k hk).elim (fun h=>HF1.out k h) (fun h=> .inr (Nat.le_trans HSZ.out h))),(fun k hk=>by have e_:g376=k:=(by simpa[Value.ownBlock]using hk);subst e_;exact Fg376.out.elim (fun q=>HF2.out _ q) (fun q=>Nat.le_trans HSZ.out (Nat.le_trans HFR.out.size q))),(by rw[HES4.out,List.take_of_length_le (by simp),List.map_append,List.map_cons,List.map_nil,evC_snoc,List.nil_append];simp[evStep]),HM4.out.1,(by have h_:=HM4.out.2;have h2_:=HNP.out;have h3_:=HLEN.out;simp;omega),(fun g_ hg_=>(HOE4.out g_ hg_).dig DD385.out),Nat.le_trans HSZ.out K384.out.size⟩
   rintro D xs W hD hxs ⟨A,n,c,es2,A2,c2,hh,hd,hf1,hf2,hvl,hnl,hnp,hok,hsz⟩ hK;have H0:=zH hh;have HVL:=zH hvl;have HNL:=zH hnl;have HOKS:=zH hok;have HXS:=zH hxs;have HD:=zH hK;have HDD:=zH hD;have hnp4:es2.length<=90000000:=by have h1:xs.length=(edgesV rs).length:=(by rw[<-hxs,List.length_map]);have h2:=edgesV_len rs;have h3:=okR_tot HV.out;omega
   clear hh hd hf1 hf2 hvl hnl hnp hok hsz hxs hK hD;go_upto_region 34 with fail
   refine wl ?_;refine zI1 H0.out _ ?_;refine zc (rising_any 24 dC (.slice A n c) es2 _ _ (by have h_:=H0.out.row (i:=5) rR;rw[<-HNL.out];exact h_) H0.out.ext.size HOKS.out (by omega)) ?_;rintro e w386 ⟨v3,es3,rfl,h2_,hg3_,h4_,h5_,h6_,h7_,h8_⟩;have HGR:=zH hg3_;have HR3:=zH (And.intro h6_ (And.intro h7_ h8_));have HD3:=zH h4_;have HS:=zH (H0.out.turn (i:=5) (e:= .row 33 4 (.slice A n c) (n) (List.flatMap R1E.cells es2)) (e':= .row 33 4 v3 es3.length (es3.flatMap R1E.cells)) (by rfl) (fun k h=>h) hg3_ h2_ (fun k hk=> .inl (by have h_:v3.ownBlock=some k:=hk;rw[h5_]at h_;exact h_)));clear h2_ hg3_ h4_ h5_ h6_ h7_ h8_;have hx:=True.intro;clear hx;refine zn ?_;refine zq (v3) ?_;go_wp2_with fail
   have hKs:w386.heap[D]?=some (.deferred (some [])):=(HGR.out.block D (Array.getElem?_eq_some_iff.1 HD.out).1 (fun e=>by have h1:=H0.out.cells (i:=5) (by rfl) (by exact e.symm) _ HD.out;cases h1)).trans HD.out;refine⟨by simp,.inl ⟨_,_,rfl,run_takeDeferred hKs,?_⟩⟩;have hfin:=HS.out.keptQ (grownBy_putObj' w386 D (.deferred none)) (fun k hk=>by injection hk with hk;subst hk;exact⟨Nat.le_trans HWS.out HDD.out,_,hKs,rfl⟩);have hdf:=HD3.out.trans (Dig.keptQ (grownBy_putObj' w386 D (.deferred none)) (fun k hk=>by injection hk with hk;subst hk;exact⟨_,hKs,rfl⟩));refine⟨_,results_tmp rfl _ _ _,v3,es3,rfl,hfin.row (i:=5) rR,HR3.out.1,fun q=>(HR3.out.2.1 q).trans ?_,fun e he=>(HOKS.out e (HR3.out.2.2 e he)).dig hdf,hfin.ext⟩;rw[HVL.out,HES.out,HXS.out,List.take_length];unfold evL;rw[if_pos ⟨HV.out,HOK.out.1,HOK.out.2,by have h_:=HLE.out;omega⟩]
  have HALL:=zH (Bool.eq_false_iff.2 HB.out);go_upto_region 1 with fail
  refine wl ?_;refine zI1 (Hp.start _) _ ?_;refine zc (polyValid_any _ rs _ (HU.out.ext H8.out.ext) HN.out HR.out) ?_;rintro e w389 ⟨rfl,hx⟩;have H390:=zH (H8.out.step hx);clear hx;refine⟨.bool true,by rw[HV.out],?_⟩;try simp only[Act.put,zA,zB,zC]
  refine zI4 H390.out (.bool false) (.bool false) _ _ ?_;refine aL' 2 28 [.int .i64 a.1,.int .i64 a.2,.int .i64 b.1,.int .i64 b.2] H390.out ?_;intro X394 w395 H396 _;refine zc (may_any (.slice (some ⟨X394,0,none⟩) 2 2) [a,b] _ (ptsLit2 H396.out (i:=2) rR) (by simp)) ?_;rintro e w398 ⟨rfl,hx⟩;have H399:=zH (H396.out.step hx);clear hx;refine⟨.bool false,by rw[HALL.out],?_⟩;try simp only[Act.put,zA,zB,zC]
  refine zI8 (Hp.start _) (.bool true) (.bool true) (.bool true) _ _ _ _ _ ?_;refine zq (.bool true) ?_;go_upto_region 2 with fail
  refine wl ?_;refine zI1 (Hp.start _) _ ?_;go_wp2_with fail
  exact⟨_,results_tmp rfl _ _ _,_,[],rfl,RowN.nil _ _ _ _,by simp,by rw[show evL a b rs=[]from if_neg (fun h=>HB.out (okAll2.2 ⟨h.2.1,h.2.2.1⟩))];simp,by simp,H399.out.ext⟩
 have HV:=zH (Bool.eq_false_iff.2 HVQ.out);go_upto_region 1 with fail
 refine wl ?_;refine zI1 (Hp.start _) _ ?_;refine zc (polyValid_any _ rs _ (HU.out.ext H8.out.ext) HN.out HR.out) ?_;rintro e w407 ⟨rfl,hx⟩;have H408:=zH (H8.out.step hx);clear hx;refine⟨.bool false,by rw[HV.out],?_⟩;try simp only[Act.put,zA,zB,zC]
 refine zI8 (Hp.start _) (.bool true) (.bool true) _ _ _ _ _ (.bool true) ?_;refine zI7 (Hp.start _) (.bool true) _ _ _ _ _ (.bool true) ?_;go_upto_region 2 with fail
 refine wl ?_;refine zI1 (Hp.start _) _ ?_;go_wp2_with fail
 exact⟨_,results_tmp rfl _ _ _,_,[],rfl,RowN.nil _ _ _ _,by simp,by rw[show evL a b rs=[]from if_neg (fun h=>HVQ.out h.1)];simp,by simp,H408.out.ext⟩
def RetZ (B:Nat)(E:Int)(q:Rat)(w:World)(e:Ending)(w':World):Prop:=
  ∃r:RV,e= .returned (.tuple #[.agg #[.bool r.n,.slice r.p r.l r.c,.bool r.m,.slice r.p2 r.l2 r.c2],.int .i64 E])/\(E=0->r.Is w' q/\Nm.rl q<=B)/\(E≠0->r=RV.zero)/\Ext w w'
theorem RetZ.ok {B:Nat}{E:Int}{q:Rat}{w w':World}{e:Ending}(h:RetZ B E q w e w')(h0:E=0):∃r:RV,e= .returned (.tuple #[.agg #[.bool r.n,.slice r.p r.l r.c,.bool r.m,.slice r.p2 r.l2 r.c2],.int .i64 0])/\r.Is w' q/\Nm.rl q<=B/\Ext w w':=by
  obtain⟨r,rfl,h1,_,hx⟩:=h;exact⟨r,by rw[h0],(h1 h0).1,(h1 h0).2,hx⟩
theorem RetZ.bad {B:Nat}{E:Int}{q:Rat}{w w':World}{e:Ending}(h:RetZ B E q w e w')(h0:E≠0):e= .returned (.tuple #[.agg z4,.int .i64 E])/\Ext w w':=by
  obtain⟨r,rfl,_,h2,hx⟩:=h;rw[h2 h0];exact⟨rfl,hx⟩
theorem inbox_any (A:Option Addr)(cap:Nat)(rs:List Ring)(rule:Int)(a b:Int×Int)(w:World)(hu:RingsV w (.slice A rs.length cap) rs)(hn:rs.length<=1048576)(hr:∀r,r∈rs->r.length<=1048576)(hs:tot rs<=24)(hru: -9223372036854775808<=rule/\rule<=9223372036854775807):
  Calls Tryz.prog 23 #[.slice A rs.length cap,.int .i64 rule,.agg #[.int .i64 a.1,.int .i64 a.2],.agg #[.int .i64 b.1,.int .i64 b.2]] w (RetZ 50000 (inbE rule a b rs) (areaV rule a b rs) w):=by
 have HU:=zH hu;have HN:=zH hn;have HRR:=zH hr;clear hu hr;have HTOT:=zH hs;have HRU:=zH hru;clear hs hru;go_enter Tryz.func23,Tryz.ntmps23
 have H0:=zH (Hp.start w);go_upto_region 0 with fail
 refine wl ?_;refine aA' 22 [.slice A rs.length cap] H0.out ?_;intro X83 w84 H85 _;refine aA' 3 [.int .i64 rule] H85.out ?_;intro X88 w89 H90 _;refine aA' 28 [.int .i64 a.1,.int .i64 a.2] H90.out ?_;intro X93 w94 H95 _;refine aA' 28 [.int .i64 b.1,.int .i64 b.2] H95.out ?_;intro X98 w99 H100 _;refine aA' 33 rz H100.out ?_;intro X103 w104 H105 _;refine zq (.int .i64 0) ?_;rcases emH (okR rs=true)with HV|HV
 ·rcases emH (rule=1\/rule=2)with HRL|HRL
  ·go_upto_region 1 with fail
   refine wl ?_;refine zI2 H105.out _ _ ?_;refine aC H105.out (fits_any A cap rs rule 0 _ (HU.out.ext H105.out.ext) HN.out HRR.out ((if_pos HV.out).trans (if_pos HRL.out))) ?_;intro w111 H112 _;refine zq (.int .i64 0) ?_;go_upto_region 2 with fail
   refine wl ?_;refine zq (.int .i64 0) ?_;refine zp (.bool false) (by exact ezn (e:=(dec_f (by omega)))) ?_;rcases emH (okPt a.1 a.2=true)with VA|VA
   ·rcases emH (okPt b.1 b.2=true)with VB|VB
    ·go_upto_region 4 with fail
     refine wl ?_;refine zI1 H112.out _ ?_;refine zc (valid_any a.1 a.2 _) ?_;rintro e w119 ⟨rfl,hx⟩;have H120:=zH (H112.out.step hx);clear hx;refine⟨.bool true,by rw[VA.out],?_⟩;try simp only[Act.put,zA,zB,zC]
     refine zI3 H120.out (.bool false) (.bool false) _ ?_;refine zc (valid_any b.1 b.2 _) ?_;rintro e w124 ⟨rfl,hx⟩;have H125:=zH (H120.out.step hx);clear hx;refine⟨.bool true,by rw[VB.out],?_⟩;try simp only[Act.put,zA,zB,zC]
     refine zI2 (Hp.start _) (.bool false) (.bool false) ?_;have H0E:=zH (show inbE rule a b rs=0 from inbE_zero.2 ⟨HV.out,HRL.out,VA.out,VB.out⟩);have oa:=okP_out (p:=a) VA.out;have ob:=okP_out (p:=b) VB.out;go_upto_region 6 with fail
     refine wl ?_;refine zc (pFrom 0 _ (by omega) (by omega)) ?_;rintro e w129 ⟨c_,rfl,hc_,hx⟩;have H131:=zH (H125.out.step hx);obtain⟨r130,rfl,hr_⟩:=hc_;have R130:=zH hr_;have B130:=zH (rl_i64 0 (by omega) (by omega));clear hr_ hx;refine zn ?_;refine aA' 33 rz H131.out ?_;intro X133 w134 H135 D135;refine aS' 5 (rc r130) H135.out ?_;intro w138 H139 D139;rcases emH (b.1<=a.1)with HX1|HX1
     ·go_upto_region 7 with fail
      refine wl ?_;refine zI4 H139.out _ _ _ _ ?_;refine zp (.bool true) (by exact eze (e:=(dec_t HX1.out))) ?_;go_upto_region 8 with fail
      refine wl ?_;refine zI1 H139.out _ ?_;refine aS' 4 (rc r130) H139.out ?_;intro w145 H146 D146;refine zq (.int .i64 0) ?_;have DD149:=tD (tD D135 D139) D146;go_wp2_with fail
      refine bodyPost_ret (v:= .tuple #[.agg #[.bool r130.n,.slice r130.p r130.l r130.c,.bool r130.m,.slice r130.p2 r130.l2 r130.c2],.int .i64 0]) ?_ rfl ⟨r130,by rw[H0E.out],fun _=>⟨(show((0:Int):Rat)=areaV rule a b rs from(if_pos (.inl HX1.out)).symm)▸(R130.out.dig DD149.out),(show((0:Int):Rat)=areaV rule a b rs from(if_pos (.inl HX1.out)).symm)▸Nat.le_trans B130.out dC⟩,fun h_=>absurd H0E.out h_,H146.out.ext⟩;exact results_c1t1 rfl rfl ((H146.out.blk (i:=4) rR).loadVar rfl rfl rR) rfl
     go_upto_region 7 with fail
     refine wl ?_;refine zI4 H139.out _ _ _ _ ?_;refine zp (.bool false) (by exact eze (e:=(dec_f HX1.out))) ?_;go_upto_region 9 with fail
     refine zy ?_;have H153:=zH (H139.out.step (Ext.refl w138).drew);have D153:=zH (Dig.of_ext (w:=w138) zb);refine zJ4 H139.out zb (bs 10 27) 0 1 3 4 _ _ _ _ ?_;refine FN.go2 (j1:=⟨6,some 12,33,[.bool false,.slice none 0 0,.bool false,.slice none 0 0]⟩) (j2:=⟨7,some 13,33,[.bool false,.slice none 0 0,.bool false,.slice none 0 0]⟩) (b:=w138) ?_ zb;refine gN 2 (bs 10 31) (fk (fk trivial)) zb.size (fun xq hxq=>pFrom a.1 _ (by omega) (by omega)) (by rintro x_ e x2_ ⟨c_,rfl,hc_,hx⟩;exact hx) ?_;rintro xq e w157 hxq ⟨c_,rfl,hc_,hx⟩;replace hx:=hxq.trans hx;clear hxq;have H159:=zH (H153.out.step hx);have D159:=zH (show Dig w138.drew w157 from Dig.of_ext hx);have S161:=zH (zb.trans hx);obtain⟨r158,rfl,hr_⟩:=hc_;have R158:=zH hr_;clear hr_ hx;refine⟨_,rfl,?_⟩;try simp only[Act.put,zA,zB,zC]
     refine gN 5 (bs 10 63) (fk (fk trivial)) S161.out.size (fun xq hxq=>pFrom b.1 _ (by omega) (by omega)) (by rintro x_ e x2_ ⟨c_,rfl,hc_,hx⟩;exact hx) ?_;rintro xq e w162 hxq ⟨c_,rfl,hc_,hx⟩;replace hx:=hxq.trans hx;clear hxq;have H164:=zH (H159.out.step hx);have D164:=zH (Dig.of_ext hx);have S166:=zH (S161.out.trans hx);obtain⟨r163,rfl,hr_⟩:=hc_;have R163:=zH hr_;clear hr_ hx;refine⟨_,rfl,?_⟩;try simp only[Act.put,zA,zB,zC]
     refine gE2 (bs 10 255) (fk (fk trivial)) S166.out.size H139.out H164.out ?_;intro X167 X168 w169 hx hh hg0 hg1 hs;have H170:=hN hh;have D170:=zH (Dig.of_ext hx);have S172:=zH (show Ext w138 w169 from hs);have G173:=zH (show w138.heap.size<=X167 from hg0);have G174:=zH (show w138.heap.size<=X168 from hg1);clear hh hx hs hg0 hg1;try simp only[Act.put,zA,zB,zC]
     refine bS 6 8 (bs 10 511) (rc r158) H170.out S172.out G173.out ?_;intro w175 H176 D176 S178;refine bS 7 9 (bs 10 1023) (rc r163) H176.out S178.out G174.out ?_;intro w179 H180 D180 S182;refine wpAnyH_done kR ?_ _;go_upto_region 10 with fail
     refine wl ?_;refine zI2 (Hp.start _) _ _ ?_;go_upto_region 11 with fail
     refine wl ?_;refine zI3 H180.out _ _ _ ?_;refine zc (eventYs_any _ rs a b _ (HU.out.ext H180.out.ext) HN.out HRR.out) ?_;rintro e w185 ⟨vp_,ep,rfl,hrow_,hs_,hm_,ho_,hx⟩;obtain⟨Ap,cp,rfl,hfp_⟩:=hrow_.form;have HFP:=zH hfp_;have HS1:=zH (ev_same hs_ hm_);have HO1:=zH ho_;clear hfp_ hs_ hm_ ho_;have H186:=zH (show Hp w w185 [.blk X83 22 [.slice A rs.length cap],.blk X88 3 [.int .i64 rule],.blk X93 28 [.int .i64 a.1,.int .i64 a.2],.blk X98 28 [.int .i64 b.1,.int .i64 b.2],.blk X103 33 rz,.blk X133 33 (rc r130),.blk X167 33 (rc r158),.blk X168 33 (rc r163),ro 33 4 Ap ep.length cp R1E.cells ep]from H180.out.addRow hx hrow_);have D186:=zH (Dig.of_ext hx);clear hrow_ hx;refine zn ?_;refine zI1 (Hp.start _) _ ?_;have hpl:ep.length<=9223372036854775807:=by have h_:=RowN.capA (Hp.row (i:=8) H186.out (by rfl));exact h_
     have HPQ:=zH (show(refL a b rs).length=ep.length from by rw[<-HS1.out,List.length_map]);have HHL:=zH (show∀x,x∈refL a b rs->Nm.rl x<=24 from fun x_ hx_=>by rw[<-HS1.out]at hx_;obtain⟨e_,he_,rfl⟩:=List.mem_map.1 hx_;exact(HO1.out e_ he_).2);have hxl:=HX1.out;have HPR:=zH (fun k_=>part_rl (rule:=rule) (a:=a) (b:=b) (rs:=rs) VA.out VB.out (by omega) HTOT.out HHL.out k_);go_upto_region 12 with fail
     refine wl ?_;refine zq (.int .i64 0) ?_;have DD190:=tD (tD (tD (tD (tD (tD (tD (tD D135 D139) D153) D159) D164) D170) D176) D180) D186;go_wp2_with fail
     go_loopg [16] (ep.length) (fun cq v191 wr=>∃(i:Nat) (rvz:RV),cq=ep.length-i/\v191= .int .i64 (i:Int)/\(i=0\/i+1<=ep.length)/\(rvz.Is wr (part rule a b rs i))/\Hp w wr [.blk X83 22 [.slice A rs.length cap],.blk X88 3 [.int .i64 rule],.blk X93 28 [.int .i64 a.1,.int .i64 a.2],.blk X98 28 [.int .i64 b.1,.int .i64 b.2],.blk X103 33 [.bool false,.slice none 0 0,.bool false,.slice none 0 0],.blk X133 33 [.bool rvz.n,.slice rvz.p rvz.l rvz.c,.bool rvz.m,.slice rvz.p2 rvz.l2 rvz.c2],.blk X167 33 [.bool r158.n,.slice r158.p r158.l r158.c,.bool r158.m,.slice r158.p2 r158.l2 r158.c2],.blk X168 33 [.bool r163.n,.slice r163.p r163.l r163.c,.bool r163.m,.slice r163.p2 r163.l2 r163.c2],.row 33 4 (.slice Ap ep.length cp) (ep.length) (List.flatMap R1E.cells ep)]/\Dig w185 wr)
     case atStart=>exact⟨0,r130,rfl,rfl,(.inl rfl),(by rw[part_zero];exact(R130.out.dig DD190.out)),H186.out,Dig.refl _⟩
     obtain⟨i,rvz,rfl,rfl,q_HKI,q_RZ,hh_,hd_⟩:=hrel;generalize wr=w192 at*
     have HKI:=zH q_HKI;clear q_HKI;have RZ:=zH q_RZ;clear q_RZ;have H194:=zH hh_;have D194:=zH hd_;clear hh_ hd_ H186;have BZ:=zH (HPR.out i);rcases emH (i+1<ep.length)with HLT|HLT
     ·have hlt:=HLT.out
      have hj:i<ep.length:=by omega
      obtain⟨gp,rfl⟩:=HFP.out (by omega);obtain⟨xe,hx_⟩:∃e,ep[i]?=some e:=⟨_,List.getElem?_eq_getElem hj⟩;obtain⟨ye,hy_⟩:∃e,ep[i+1]?=some e:=⟨_,List.getElem?_eq_getElem hlt⟩;have HX:=zH hx_;have HY:=zH hy_;have HX_1:=zH (HO1.out xe (List.mem_of_getElem? hx_)).1;have HX_2:=zH (HO1.out xe (List.mem_of_getElem? hx_)).2;have HY_1:=zH (HO1.out ye (List.mem_of_getElem? hy_)).1;have HY_2:=zH (HO1.out ye (List.mem_of_getElem? hy_)).2;have HSU:=zH (part_succ (rule:=rule) (a:=a) (b:=b) (rs:=rs) (k:=i) (x:=xe.q) (y:=ye.q) (by rw[<-HS1.out,List.getElem?_map,HX.out];rfl) (by rw[<-HS1.out,List.getElem?_map,HY.out];rfl));clear hx_ hy_;go_upto_region 13 with fail
      refine wl ?_;refine zq (.int .i64 (i:Int)) ?_;refine zp (.int .i64 ((i+1:Nat):Int)) (by exact ez1 (by omega)) ?_;refine zI2 (Hp.start _) _ (.int .i64 ((ep.length:Nat):Int)) ?_;refine zp (.bool true) (by exact ezl (e:=(dec_t (by omega)))) ?_;go_upto_region 15 with fail
      refine wp_region_held_drew (S:=fun x=>Fr (fun kz=>kz=X133) w192 x) kR (Fr.of_ext zb) (fun _=> ?_);have H201:=zH (H194.out.step (Ext.refl w192).drew);have D201:=zH (Dig.of_ext (w:=w192) zb);refine zx 0 (bs 11 1) (.func (.func 45) #[] #[.pointer (some ⟨X83,0,none⟩),.pointer (some ⟨X88,0,none⟩),.pointer (some ⟨X167,0,none⟩),.pointer (some ⟨X168,0,none⟩),.pointer (some ⟨X133,0,none⟩)]) (Fr.of_ext zb) ?_;refine zx 1 (bs 11 3) (.slice (some ⟨gp,0,none⟩) ep.length cp) (Fr.of_ext zb) ?_;refine zx 2 (bs 11 7) (.int .i64 (i:Int)) (Fr.of_ext zb) ?_;refine zo 3 (bs 11 15) (v:= .pointer (some ⟨gp,i*4,none⟩)) (Fr.of_ext zb) ?_ (hv:=by intro w hSw;exact ezi (k:=i) Tryz.underlying76 (l:=hj) (f:=(Nat.zero_add _).symm));refine zr 4 (bs 11 31) gp (i*4) [.bool xe.a.n,.slice xe.a.p xe.a.l xe.a.c,.bool xe.a.m,.slice xe.a.p2 xe.a.l2 xe.a.c2] (fun x hx=>Fr.range hx (show World.rangeAt w192 gp (i*4) [.bool xe.a.n,.slice xe.a.p xe.a.l xe.a.c,.bool xe.a.m,.slice xe.a.p2 xe.a.l2 xe.a.c2]from(H194.out.elem (f:=R1E.cells) (i:=8) rR R1E.len HX.out)) (H194.out.offBlk (i:=8) (j:=5) rR rR dC rR)) Tryz.underlying33 (Fr.of_ext zb) ?_;refine zx 5 (bs 11 63) (.slice (some ⟨gp,0,none⟩) ep.length cp) (Fr.of_ext zb) ?_;refine zx 6 (bs 11 127) (.int .i64 (i:Int)) (Fr.of_ext zb) ?_;refine zu 7 (bs 11 255) (v:= .int .i64 ((i+1:Nat):Int)) (Fr.of_ext zb) ?_ (hv:=by intro w hSw;exact ez1 (by omega));refine zo 8 (bs 11 511) (v:= .pointer (some ⟨gp,(i+1)*4,none⟩)) (Fr.of_ext zb) ?_ (hv:=by intro w hSw;exact ezi (k:=i+1) Tryz.underlying76 (l:=hlt) (f:=(Nat.zero_add _).symm));refine zr 9 (bs 11 1023) gp ((i+1)*4) [.bool ye.a.n,.slice ye.a.p ye.a.l ye.a.c,.bool ye.a.m,.slice ye.a.p2 ye.a.l2 ye.a.c2] (fun x hx=>Fr.range hx (show World.rangeAt w192 gp ((i+1)*4) [.bool ye.a.n,.slice ye.a.p ye.a.l ye.a.c,.bool ye.a.m,.slice ye.a.p2 ye.a.l2 ye.a.c2]from(H194.out.elem (f:=R1E.cells) (i:=8) rR R1E.len HY.out)) (H194.out.offBlk (i:=8) (j:=5) rR rR dC rR)) Tryz.underlying33 (Fr.of_ext zb) ?_;have DD213:=tD D194 D201;have DD214:=tD (tD (tD (tD (tD (tD D164 D170) D176) D180) D186) D194) D201;have DD215:=tD (tD (tD (tD (tD D170 D176) D180) D186) D194) D201;refine mC 10 (bs 11 2047) (band_any A cap rs rule a b xe.q ye.q (part rule a b rs i) xe.a ye.a r158 r163 rvz X83 X88 X167 X168 X133 w _ (H201.out.pickL [0,1,6,7,5] dC _ rR) HU.out HN.out HRR.out HRU.out HV.out VA.out VB.out (by omega) HTOT.out (HX_1.out.dig DD213.out) HX_2.out (HY_1.out.dig DD213.out) HY_2.out (R158.out.dig DD214.out) (R163.out.dig DD215.out) (RZ.out.dig D201.out) BZ.out) ?_;rintro e w211 ⟨rfl,hcr_⟩;obtain⟨r212,h0_,hl_,h1_,h2_,h3_⟩:=hcr_;have R212:=zH h0_;have B212:=zH hl_;have H216:=zH (show Hp w w211 [.blk X83 22 [.slice A rs.length cap],.blk X88 3 [.int .i64 rule],.blk X93 28 [.int .i64 a.1,.int .i64 a.2],.blk X98 28 [.int .i64 b.1,.int .i64 b.2],.blk X103 33 rz,.blk X133 33 (rc r212),.blk X167 33 (rc r158),.blk X168 33 (rc r163),ro 33 4 (some ⟨gp,0,none⟩) ep.length cp R1E.cells ep]from H201.out.callO (ir:=5) (f:= .blk X133 33 [.bool rvz.n,.slice rvz.p rvz.l rvz.c,.bool rvz.m,.slice rvz.p2 rvz.l2 rvz.c2]) (f':= .blk X133 33 [.bool r212.n,.slice r212.p r212.l r212.c,.bool r212.m,.slice r212.p2 r212.l2 r212.c2]) (by rfl) h3_ (fun k_ hk_=>by rw[show k_=X133 from hk_];rfl) h1_ rfl);have D216:=zH (show Dig w192.drew w211 from h2_);have hx:=h3_;clear h0_ hl_ h1_ h2_ h3_;have S218:=zH (show Fr (fun kz=>kz=X133) w192 w211 from(Fr.of_ext zb).trans hx);clear hx;refine zm S218.out ?_;refine wpAnyH_done kR ?_ _;go_upto_region 14 with fail
      refine wl ?_;refine zq (.int .i64 (i:Int)) ?_;refine zp (.int .i64 ((i+1:Nat):Int)) (by exact ez1 (by omega)) ?_;refine zq (.int .i64 ((i+1:Nat):Int)) ?_;have DD222:=tD DD213 D216;go_wp2_with fail
      go_roundg (ep.length-(i+1))
      case measure=>exact(by omega)
      case rel=>exact⟨i+1,r212,rfl,(by go_num),(.inr hlt),(by rw[HSU.out];exact R212.out),H216.out,DD222.out⟩
     have hlt:=HLT.out;have hki:=HKI.out;go_upto_region 13 with fail
     refine wl ?_;refine zq (.int .i64 (i:Int)) ?_;refine zp (.int .i64 ((i+1:Nat):Int)) (by exact ez1 (by omega)) ?_;refine zI2 (Hp.start _) _ (.int .i64 ((ep.length:Nat):Int)) ?_;refine zp (.bool false) (by exact ezl (e:=(dec_f (by omega)))) ?_;go_upto_region 16 with fail
     refine wl ?_;refine zd X133 (0) (rc rvz) (H194.out.range (i:=5) rR 0 4) Tryz.underlying33 ?_;refine aS' 4 (rc rvz) H194.out ?_;intro w228 H229 D229;refine zq (.int .i64 0) ?_;have HPA:=zH (show part rule a b rs i=areaV rule a b rs from part_all (by rw[HPQ.out];omega) (by have h_:=HX1.out;omega));go_wp2_with fail
     refine bodyPost_ret (v:= .tuple #[.agg #[.bool rvz.n,.slice rvz.p rvz.l rvz.c,.bool rvz.m,.slice rvz.p2 rvz.l2 rvz.c2],.int .i64 0]) ?_ rfl ⟨rvz,by rw[H0E.out],fun _=>⟨HPA.out▸(RZ.out.dig D229.out),HPA.out▸BZ.out⟩,fun h_=>absurd H0E.out h_,H229.out.ext⟩;exact results_c1t1 rfl rfl ((H229.out.blk (i:=4) rR).loadVar rfl rfl rR) rfl
    have Wb:=zH (Bool.eq_false_iff.2 VB.out);go_upto_region 4 with fail
    refine wl ?_;refine zI1 H112.out _ ?_;refine zc (valid_any a.1 a.2 _) ?_;rintro e w232 ⟨rfl,hx⟩;have H233:=zH (H112.out.step hx);clear hx;refine⟨.bool true,by rw[VA.out],?_⟩;try simp only[Act.put,zA,zB,zC]
    refine zI3 H233.out (.bool false) (.bool false) _ ?_;refine zc (valid_any b.1 b.2 _) ?_;rintro e w237 ⟨rfl,hx⟩;have H238:=zH (H233.out.step hx);clear hx;refine⟨.bool false,by rw[Wb.out],?_⟩;try simp only[Act.put,zA,zB,zC]
    refine zI2 (Hp.start _) (.bool true) (.bool true) ?_;go_upto_region 5 with fail
    refine wl ?_;refine zq (.agg z4) ?_;refine aS' 4 rz H238.out ?_;intro w243 H244 _;refine zq (.int .i64 6) ?_;go_wp2_with fail
    refine bodyPost_ret (v:= .tuple #[.agg z4,.int .i64 6]) ?_ rfl ⟨RV.zero,by rw[show inbE rule a b rs=6 from(if_pos HV.out).trans ((if_pos HRL.out).trans (if_neg (fun h_=>VB.out h_.2)))];rfl,fun h_=>absurd h_ (by rw[show inbE rule a b rs=6 from(if_pos HV.out).trans ((if_pos HRL.out).trans (if_neg (fun h_=>VB.out h_.2)))];decide),fun _=>rfl,H244.out.ext⟩;exact results_c1t1 rfl rfl ((H244.out.blk (i:=4) rR).loadVar rfl rfl rR) rfl
   have Wa:=zH (Bool.eq_false_iff.2 VA.out);go_upto_region 4 with fail
   refine wl ?_;refine zI1 H112.out _ ?_;refine zc (valid_any a.1 a.2 _) ?_;rintro e w247 ⟨rfl,hx⟩;have H248:=zH (H112.out.step hx);clear hx;refine⟨.bool false,by rw[Wa.out],?_⟩;try simp only[Act.put,zA,zB,zC]
   refine zI6 (Hp.start _) (.bool true) (.bool true) _ _ _ (.bool true) ?_;go_upto_region 5 with fail
   refine wl ?_;refine zq (.agg z4) ?_;refine aS' 4 rz H248.out ?_;intro w254 H255 _;refine zq (.int .i64 6) ?_;go_wp2_with fail
   refine bodyPost_ret (v:= .tuple #[.agg z4,.int .i64 6]) ?_ rfl ⟨RV.zero,by rw[show inbE rule a b rs=6 from(if_pos HV.out).trans ((if_pos HRL.out).trans (if_neg (fun h_=>VA.out h_.1)))];rfl,fun h_=>absurd h_ (by rw[show inbE rule a b rs=6 from(if_pos HV.out).trans ((if_pos HRL.out).trans (if_neg (fun h_=>VA.out h_.1)))];decide),fun _=>rfl,H255.out.ext⟩;exact results_c1t1 rfl rfl ((H255.out.blk (i:=4) rR).loadVar rfl rfl rR) rfl
  go_upto_region 1 with fail
  refine wl ?_;refine zI2 H105.out _ _ ?_;refine aC H105.out (fits_any A cap rs rule 2 _ (HU.out.ext H105.out.ext) HN.out HRR.out ((if_pos HV.out).trans (if_neg HRL.out))) ?_;intro w258 H259 _;refine zq (.int .i64 2) ?_;go_upto_region 2 with fail
  refine wl ?_;refine zq (.int .i64 2) ?_;refine zp (.bool true) (by exact ezn (e:=(dec_t (by omega)))) ?_;go_upto_region 3 with fail
  refine wl ?_;refine zI2 (Hp.start _) _ _ ?_;refine aS' 4 rz H259.out ?_;intro w266 H267 _;refine zq (.int .i64 2) ?_;go_wp2_with fail
  refine bodyPost_ret (v:= .tuple #[.agg z4,.int .i64 2]) ?_ rfl ⟨RV.zero,by rw[show inbE rule a b rs=2 from(if_pos HV.out).trans (if_neg HRL.out)];rfl,fun h_=>absurd h_ (by rw[show inbE rule a b rs=2 from(if_pos HV.out).trans (if_neg HRL.out)];decide),fun _=>rfl,H267.out.ext⟩;exact results_c1t1 rfl rfl ((H267.out.blk (i:=4) rR).loadVar rfl rfl rR) rfl
 go_upto_region 1 with fail
 refine wl ?_;refine zI2 H105.out _ _ ?_;refine aC H105.out (fits_any A cap rs rule 12 _ (HU.out.ext H105.out.ext) HN.out HRR.out (if_neg HV.out)) ?_;intro w270 H271 _;refine zq (.int .i64 12) ?_;go_upto_region 2 with fail
 refine wl ?_;refine zq (.int .i64 12) ?_;refine zp (.bool true) (by exact ezn (e:=(dec_t (by omega)))) ?_;go_upto_region 3 with fail
 refine wl ?_;refine zI2 (Hp.start _) _ _ ?_;refine aS' 4 rz H271.out ?_;intro w278 H279 _;refine zq (.int .i64 12) ?_;go_wp2_with fail
 refine bodyPost_ret (v:= .tuple #[.agg z4,.int .i64 12]) ?_ rfl ⟨RV.zero,by rw[show inbE rule a b rs=12 from if_neg HV.out];rfl,fun h_=>absurd h_ (by rw[show inbE rule a b rs=12 from if_neg HV.out];decide),fun _=>rfl,H279.out.ext⟩;exact results_c1t1 rfl rfl ((H279.out.blk (i:=4) rR).loadVar rfl rfl rR) rfl
end Go.Proofs.YtngikkggjidenabGreat
