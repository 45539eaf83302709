/- How chapter 18's arguments are opened: spans, rings, points, arrays of rational numbers. -/
import Derived.Test.YtiokhlgdelipdacGreatM6
set_option maxRecDepth 100000
set_option maxHeartbeats 4000000
namespace Go.Proofs.YtiokhlgdelipdacGreat
open Go.ChangeShapes Go.WideShapes Go.ChangeAt Go.RowKit
theorem cells_ringQ:Tryz.prog.cellsOf 34=1:=by kernel_rfl
instance:Inhabited RV:=⟨⟨false,none,0,0,false,none,0,0⟩⟩
section
variable {H:Type} {enc:TypeId×Value->H} {w:World} {base:Nat} {held:Bool}
theorem ring_openQ {fuel:Nat}{cs:List Value}{x:DataW H×List MemPlace}(h:DataW.trod enc Tryz.prog w base (fun _=>true) held fuel 34 cs=some x):
  ∃(A:Option Addr) (l:Ring) (cap:Nat),cs=[.slice A l.length cap]/\l.length<=maxLen/\PtsV w (.slice A l.length cap) l:=by
 obtain⟨A,len,cap,rfl,hl,hm,hx⟩:=slice_open Tryz.underlying34 (by rw[cells_pt];decide) h;by_cases h0:0<len
 ·obtain⟨g,off,rfl,hx'⟩:=hx h0
  rw[cells_pt]at hx';obtain⟨l,rfl,hl2⟩:=list_of (α:=Int×Int) len (fun i s=>∀j u,[Value.int .i64 s.1,.int .i64 s.2][j]?=some u->w.cell? ⟨g,off+i*2+j,none⟩=some u) (fun i hi=>by
   obtain⟨cs',n,y,_,h2,h3⟩:=hx' i hi;obtain⟨s,rfl⟩:=pt_open h3;exact⟨s,h2⟩)
  refine⟨_,l,cap,rfl,by omega,_,cap,rfl,fun _=>⟨g,off,rfl,fun i hi=> ?_⟩⟩;have h:=hl2 i (0,0) hi;exact⟨h 0 _ rfl,h 1 _ rfl⟩
 obtain rfl:len=0:=by omega
 exact⟨A,[],cap,rfl,Nat.zero_le _,A,cap,rfl,fun hn=>absurd rfl hn⟩
theorem rings_openQ {fuel:Nat}{cs:List Value}{x:DataW H×List MemPlace}(h:DataW.trod enc Tryz.prog w base (fun _=>true) held fuel 22 cs=some x):
  ∃(A:Option Addr) (l:List Ring) (cap:Nat),cs=[.slice A l.length cap]/\l.length<=maxLen/\RingsV w (.slice A l.length cap) l/\∀r,r∈l->r.length<=maxLen:=by
 obtain⟨A,len,cap,rfl,hl,hm,hx⟩:=slice_open Tryz.underlying22 (by rw[cells_ringQ];decide) h;by_cases h0:0<len
 ·obtain⟨g,off,rfl,hx'⟩:=hx h0
  rw[cells_ringQ]at hx';obtain⟨l,rfl,hl2⟩:=list_of (α:=Ring) len (fun i r=>(∃B cb,w.cell? ⟨g,off+i,none⟩=some (.slice B r.length cb)/\PtsV w (.slice B r.length cb) r)/\r.length<=maxLen) (fun i hi=>by
   obtain⟨cs',n,y,_,h2,h3⟩:=hx' i hi;obtain⟨B,r,cb,rfl,hr,hp⟩:=ring_openQ h3;have:=h2 0 _ rfl;simp only[Nat.mul_one,Nat.add_zero]at this;exact⟨r,⟨B,cb,this,hp⟩,hr⟩)
  refine⟨_,l,cap,rfl,by omega,⟨_,cap,rfl,fun _=>⟨g,off,rfl,fun i x hx=> ?_⟩⟩,fun x hx=> ?_⟩
  ·have h:=(hl2 i [] (List.getElem?_eq_some_iff.1 hx).1).1
   rw[List.getD_eq_getElem?_getD,hx]at h;exact h
  obtain⟨i,hi⟩:=List.mem_iff_getElem?.1 hx;have h:=(hl2 i [] (List.getElem?_eq_some_iff.1 hi).1).2;rw[List.getD_eq_getElem?_getD,hi]at h;exact h
 obtain rfl:len=0:=by omega
 exact⟨A,[],cap,rfl,Nat.zero_le _,⟨A,cap,rfl,fun hn=>absurd hn (by simp)⟩,fun x hx=>by simp at hx⟩
end
end Go.Proofs.YtiokhlgdelipdacGreat
