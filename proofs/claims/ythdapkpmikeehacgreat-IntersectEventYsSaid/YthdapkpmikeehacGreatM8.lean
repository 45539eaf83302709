/- Contracts that the claim stands on: XRPut17 to XOpenQ. -/
import Derived.Deep.LoopGhost
import Derived.Deep.DeepCutAuto
import Derived.Test.YthdapkpmikeehacGreatRows
import Derived.ProofKit
import Derived.OpenShut
import Derived.Below
import Derived.Deep.Slices
import Derived.Lib.SmallJoins
import Derived.ChangeSlices
import Derived.Test.YthdapkpmikeehacGreatM7
set_option maxRecDepth 100000
set_option maxHeartbeats 4000000
namespace Go.Proofs.YthdapkpmikeehacGreat
open Go.RowKit
attribute [local go_sem ↓] Go.wp_at_zero Go.wp_at_succ run_max_ii run_min_ii
theorem rput17_any (L : Nat) (hL : L <= 60000) (ry : RV) (y : Rat) (g n c b : Nat) (es : List R1E) (w : World) (hrow : RowN w b 34 4 (.slice (some ⟨g, 0, none⟩) n c) n (List.flatMap R1E.cells es)) (hn : n = es.length) (hn2 : n <= 90000000) (hok : ∀ e, e ∈ es -> e.Ok L w) (hy : ry.Is w y) (hyl : Nm.rl y <= L) :
  Calls Tryz.prog 30 #[.slice (some ⟨g, 0, none⟩) n c, .agg #[.bool ry.n, .slice ry.p ry.l ry.c, .bool ry.m, .slice ry.p2 ry.l2 ry.c2]] w fun e w' => ∃ (A' : Option Addr) (n' c' : Nat) (es' : List R1E), e = .returned (.slice A' n' c') /\ n' = es'.length /\
   ((Value.slice A' n' c' = .slice (some ⟨g, 0, none⟩) n c /\ n' = n /\ List.flatMap R1E.cells es' = List.flatMap R1E.cells es) \/ RowN w' w.heap.size 34 4 (.slice A' n' c') n' (List.flatMap R1E.cells es')) /\ es'.map R1E.q = putQ (es.map R1E.q) y /\ (∀ e, e ∈ es' -> e.Ok L w') /\ Ext w w' := by
 have HROW := zH hrow
 have HOK := zH hok
 have RY := zH hy
 have BY := zH hyl
 have hcap := hrow.capLe
 have HN := zH hn
 clear hrow hok hy hyl hn
 go_enter Tryz.func30, Tryz.ntmps30
 have H0 := zH (Hp.start w)
 go_upto_region 0 with fail
 refine wl ?_
 refine aA' 34 (rc ry) H0.out ?_
 intro X1 w2 H3 _
 refine zI1 (Hp.start _) _ ?_
 go_upto_region 1 with fail
 refine wl ?_
 refine zq (.int .i64 0) ?_
 go_wp2_with fail
 go_loopg [5] (n) (fun cq v8 wr => ∃ (i : Nat), cq = n - i /\ v8 = .int .i64 (i : Int) /\ (i <= n) /\ (∀ (j : Nat) (x : Rat), j < i -> (es.map R1E.q)[j]? = some x -> x < y) /\ Hp w wr [.blk X1 34 [.bool ry.n, .slice ry.p ry.l ry.c, .bool ry.m, .slice ry.p2 ry.l2 ry.c2]] /\ Dig w2 wr)
 case atStart => exact ⟨0, rfl, rfl, Nat.zero_le _, (fun j_ x_ h_ _ => absurd h_ (Nat.not_lt_zero _)), H3.out, Dig.refl _⟩
 obtain ⟨i, rfl, rfl, q_HKI, q_HLT0, hh_, hd_⟩ := hrel
 generalize wr = w9 at *
 have HKI := zH q_HKI
 clear q_HKI
 have HLT0 := zH q_HLT0
 clear q_HLT0
 have H11 := zH hh_
 have D11 := zH hd_
 clear hh_ hd_ H3
 have hki := HKI.out
 rcases emH (i < n) with HLT | HLT
 ·have hlt := HLT.out
  obtain ⟨e, he_⟩ : ∃ e, es[i]? = some e := ⟨_, List.getElem?_eq_getElem (HN.out ▸ hlt)⟩
  have HE := zH he_
  have HEO := zH (HOK.out e (List.mem_of_getElem? he_))
  have HEI := zH HEO.out.1
  have HEB := zH HEO.out.2
  have HEQ := zH (show (es.map R1E.q)[i]? = some e.q from by rw [List.getElem?_map, he_]; rfl)
  clear he_
  rcases emH (e.q < y) with CLT | CLT
  ·go_upto_region 2 with fail
   refine zy ?_
   have H14 := zH (H11.out.step (Ext.refl w9).drew)
   have D14 := zH (Dig.of_ext (w := w9) zb)
   refine zJ3 (Hp.start _) zb (bs 13 7) 0 1 2 (.int .i64 (i : Int)) _ (.int .i64 (n : Int)) ?_
   refine zu 3 (bs 13 15) (v := .bool true) zb ?_ (hv := by intro w hSw; exact ezl (e := (dec_t (by omega))))
   refine zJ3 (Hp.start _) zb (bs 13 127) 4 5 6 (.bool true) _ (.int .i64 (i : Int)) ?_
   refine zo 7 (bs 13 255) (v := .pointer (some ⟨g, i * 4, none⟩)) zb ?_ (hv := by intro w hSw; exact ezi (k := i) Tryz.underlying27 (l := hlt) (f := (Nat.zero_add _).symm))
   refine zg 8 (bs 13 511) g (i * 4) (rc e.a) ((RowN.ext HROW.out H11.out.ext).elem1 HE.out) Tryz.underlying34 zb ?_
   refine zg 9 (bs 13 1023) X1 (0) (rc ry) (H11.out.range (i := 0) rR 0 4) Tryz.underlying34 zb ?_
   refine mC 10 (bs 13 2047) (q03Cmp (L := 60000) (RV.Is.nin (HEI.out.dig H14.out.dig0) (Nat.le_trans HEB.out (by omega))) (RV.Is.nin (RY.out.dig H14.out.dig0) (Nat.le_trans BY.out (by omega))) (by omega)) ?_
   rintro e w24 ⟨rfl, hx⟩
   have H25 := zH (H14.out.step hx)
   have D25 := zH (show Dig w9.drew w24 from Dig.of_ext hx)
   have S27 := zH (zb.trans hx)
   clear hx
   refine zm S27.out ?_
   refine zu 11 (bs 13 4095) (v := .bool true) S27.out ?_ (hv := by intro w hSw; exact ezl (e := (dec_t (rcmp_lt.2 CLT.out))))
   refine zx 12 (bs 13 8191) (.bool true) S27.out ?_
   refine wpAnyH_done kR ?_ _
   go_upto_region 3 with fail
   refine wl ?_
   refine zq (.int .i64 (i : Int)) ?_
   refine zp (.int .i64 ((i + 1 : Nat) : Int)) (by exact ez1 (by omega)) ?_
   refine zq (.int .i64 ((i + 1 : Nat) : Int)) ?_
   have DD33 := tD (tD D11 D14) D25
   go_wp2_with fail
   go_roundg (n - (i + 1))
   case measure => exact (by omega)
   case rel => exact ⟨i + 1, rfl, (by go_num), hlt, (fun j_ x_ hj_ hx_ => by rcases Nat.lt_or_ge j_ i with q_ | q_; exact HLT0.out j_ x_ q_ hx_; obtain rfl : j_ = i := (by omega); rw [HEQ.out] at hx_; injection hx_ with hx_; rw [<- hx_]; exact CLT.out), H25.out, DD33.out⟩
  go_upto_region 2 with fail
  refine zy ?_
  have H34 := zH (H11.out.step (Ext.refl w9).drew)
  refine zJ3 (Hp.start _) zb (bs 13 7) 0 1 2 (.int .i64 (i : Int)) _ (.int .i64 (n : Int)) ?_
  refine zu 3 (bs 13 15) (v := .bool true) zb ?_ (hv := by intro w hSw; exact ezl (e := (dec_t (by omega))))
  refine zJ3 (Hp.start _) zb (bs 13 127) 4 5 6 (.bool true) _ (.int .i64 (i : Int)) ?_
  refine zo 7 (bs 13 255) (v := .pointer (some ⟨g, i * 4, none⟩)) zb ?_ (hv := by intro w hSw; exact ezi (k := i) Tryz.underlying27 (l := hlt) (f := (Nat.zero_add _).symm))
  refine zg 8 (bs 13 511) g (i * 4) (rc e.a) ((RowN.ext HROW.out H11.out.ext).elem1 HE.out) Tryz.underlying34 zb ?_
  refine zg 9 (bs 13 1023) X1 (0) (rc ry) (H11.out.range (i := 0) rR 0 4) Tryz.underlying34 zb ?_
  refine mC 10 (bs 13 2047) (q03Cmp (L := 60000) (RV.Is.nin (HEI.out.dig H34.out.dig0) (Nat.le_trans HEB.out (by omega))) (RV.Is.nin (RY.out.dig H34.out.dig0) (Nat.le_trans BY.out (by omega))) (by omega)) ?_
  rintro e w44 ⟨rfl, hx⟩
  have H45 := zH (H34.out.step hx)
  have S47 := zH (zb.trans hx)
  clear hx
  refine zm S47.out ?_
  refine zu 11 (bs 13 4095) (v := .bool false) S47.out ?_ (hv := by intro w hSw; exact ezl (e := (dec_f (fun hh => CLT.out (rcmp_lt.1 hh)))))
  refine zx 12 (bs 13 8191) (.bool false) S47.out ?_
  refine wpAnyH_done kR ?_ _
  rcases emH (e.q = y) with CEQ | CEQ
  ·go_upto_region 4 with fail
   refine zy ?_
   have H51 := zH (H45.out.step (Ext.refl w44).drew)
   refine zJ3 (Hp.start _) zb (bs 13 7) 0 1 2 (.int .i64 (i : Int)) _ (.int .i64 (n : Int)) ?_
   refine zu 3 (bs 13 15) (v := .bool true) zb ?_ (hv := by intro w hSw; exact ezl (e := (dec_t (by omega))))
   refine zJ3 (Hp.start _) zb (bs 13 127) 4 5 6 (.bool true) _ (.int .i64 (i : Int)) ?_
   refine zo 7 (bs 13 255) (v := .pointer (some ⟨g, i * 4, none⟩)) zb ?_ (hv := by intro w hSw; exact ezi (k := i) Tryz.underlying27 (l := hlt) (f := (Nat.zero_add _).symm))
   refine zg 8 (bs 13 511) g (i * 4) (rc e.a) ((RowN.ext HROW.out H45.out.ext).elem1 HE.out) Tryz.underlying34 zb ?_
   refine zg 9 (bs 13 1023) X1 (0) (rc ry) (H45.out.range (i := 0) rR 0 4) Tryz.underlying34 zb ?_
   refine mC 10 (bs 13 2047) (q03Cmp (L := 60000) (RV.Is.nin (HEI.out.dig H51.out.dig0) (Nat.le_trans HEB.out (by omega))) (RV.Is.nin (RY.out.dig H51.out.dig0) (Nat.le_trans BY.out (by omega))) (by omega)) ?_
   rintro e w61 ⟨rfl, hx⟩
   have H62 := zH (H51.out.step hx)
   have S64 := zH (zb.trans hx)
   clear hx
   refine zm S64.out ?_
   refine zu 11 (bs 13 4095) (v := .bool true) S64.out ?_ (hv := by intro w hSw; exact ezq (e := (dec_t (rcmp_eq_i.2 CEQ.out))))
   refine zx 12 (bs 13 8191) (.bool true) S64.out ?_
   refine wpAnyH_done kR ?_ _
   go_upto_region 5 with fail
   refine wl ?_
   refine zI2 (Hp.start _) _ _ ?_
   go_wp2_with fail
   go_ret
   exact ⟨some ⟨g, 0, none⟩, n, c, es, rfl, HN.out, .inl ⟨rfl, rfl, rfl⟩, (by rw [putQ_at HLT0.out (fun x_ hx_ => by rw [HEQ.out] at hx_; injection hx_ with hx_; rw [<- hx_]; exact CLT.out) (by rw [List.length_map, <- HN.out]; exact hki), if_pos (by rw [HEQ.out, CEQ.out])]), (fun e_ he_ => (HOK.out e_ he_).dig H62.out.dig0), H62.out.ext⟩
  go_upto_region 4 with fail
  refine zy ?_
  have H69 := zH (H45.out.step (Ext.refl w44).drew)
  refine zJ3 (Hp.start _) zb (bs 13 7) 0 1 2 (.int .i64 (i : Int)) _ (.int .i64 (n : Int)) ?_
  refine zu 3 (bs 13 15) (v := .bool true) zb ?_ (hv := by intro w hSw; exact ezl (e := (dec_t (by omega))))
  refine zJ3 (Hp.start _) zb (bs 13 127) 4 5 6 (.bool true) _ (.int .i64 (i : Int)) ?_
  refine zo 7 (bs 13 255) (v := .pointer (some ⟨g, i * 4, none⟩)) zb ?_ (hv := by intro w hSw; exact ezi (k := i) Tryz.underlying27 (l := hlt) (f := (Nat.zero_add _).symm))
  refine zg 8 (bs 13 511) g (i * 4) (rc e.a) ((RowN.ext HROW.out H45.out.ext).elem1 HE.out) Tryz.underlying34 zb ?_
  refine zg 9 (bs 13 1023) X1 (0) (rc ry) (H45.out.range (i := 0) rR 0 4) Tryz.underlying34 zb ?_
  refine mC 10 (bs 13 2047) (q03Cmp (L := 60000) (RV.Is.nin (HEI.out.dig H69.out.dig0) (Nat.le_trans HEB.out (by omega))) (RV.Is.nin (RY.out.dig H69.out.dig0) (Nat.le_trans BY.out (by omega))) (by omega)) ?_
  rintro e w79 ⟨rfl, hx⟩
  have H80 := zH (H69.out.step hx)
  have S82 := zH (zb.trans hx)
  clear hx
  refine zm S82.out ?_
  refine zu 11 (bs 13 4095) (v := .bool false) S82.out ?_ (hv := by intro w hSw; exact ezq (e := (dec_f (fun hh => CEQ.out (rcmp_eq_i.1 hh)))))
  refine zx 12 (bs 13 8191) (.bool false) S82.out ?_
  refine wpAnyH_done kR ?_ _
  go_upto_region 6 with fail
  refine wl ?_
  refine zI1 (Hp.start _) _ ?_
  have H86 := zH (show Hp w w79 [.blk X1 34 (rc ry), ro 34 4 none 0 0 R1E.cells ([])] from H80.out.addNil 34 4)
  have HTK := zH (HROW.out.srcTake i)
  have HDK := zH (HROW.out.srcDrop i)
  go_upto_region 7 with fail
  refine wl ?_
  refine zI3 (Hp.start _) _ _ (.int .i64 (i : Int)) ?_
  refine zp (.slice (some ⟨g, 0, none⟩) i c) (by exact ev_take17 (size := 4) rR Tryz.underlying27 kR rR rR rfl (by omega)) ?_
  refine mv_appS rR _ _ _ rR elRat rR H86.out (ix := 1) rR (some ⟨g, 0, none⟩) i c (List.flatMap R1E.cells (es.take i)) rR (by rw [flat_len R1E.len, List.length_take, <- HN.out, Nat.min_eq_left hki]) (fun h0_ => by obtain ⟨ad_, h1_, h2_⟩ := HTK.out h0_; exact ⟨ad_, h1_, fun j_ u_ hj_ => H86.out.ext.get (h2_ j_ u_ hj_)⟩) (ones1 _) (nou1 _) (by unfold maxLen; exact (by omega)) (by omega) ?_
  intro A92 c93 w91 hh hd hg hf
  clear hf
  rw [show List.flatMap R1E.cells ([]) ++ List.flatMap R1E.cells (es.take i) = List.flatMap R1E.cells ((es.take i)) from (List.nil_append _)] at hh
  have H94 := hN hh
  clear hh hd hg
  try simp only [Act.put, zA, zB, zC]
  refine zq (.slice A92 (0 + i) c93) ?_
  go_upto_region 8 with fail
  refine wl ?_
  refine zI2 H94.out (.slice A92 (0 + i) c93) _ ?_
  refine zp (w' := (w91.alloc (.cells ([.bool ry.n, .slice ry.p ry.l ry.c, .bool ry.m, .slice ry.p2 ry.l2 ry.c2] : List Value).toArray 34))) (.slice (some ⟨w91.heap.size, 0, none⟩) 1 1) (by go_simp) ?_
  refine mv_app rR _ _ _ rR elRat rR H94.out (ix := 1) rR 1 1 [.bool ry.n, .slice ry.p ry.l ry.c, .bool ry.m, .slice ry.p2 ry.l2 ry.c2] rR rfl (by simp [Value.oneCell']) (by simp [NoUL]) dC (by unfold maxLen; exact (by omega)) (by omega) ?_
  intro g99 cp100 w98 hf hh hd hg
  have Fg99 := zH hf
  clear hf
  rw [show List.flatMap R1E.cells (es.take i) ++ [.bool ry.n, .slice ry.p ry.l ry.c, .bool ry.m, .slice ry.p2 ry.l2 ry.c2] = _ from flat_snoc R1E.cells _ (⟨ry, y⟩ : R1E)] at hh
  have H101 := hN hh
  clear hh hd hg
  try simp only [Act.put, zA, zB, zC]
  refine zq (.slice (some ⟨g99, 0, none⟩) (0 + i + 1) cp100) ?_
  go_upto_region 9 with fail
  refine wl ?_
  refine zI3 (Hp.start _) (.slice (some ⟨g99, 0, none⟩) (0 + i + 1) cp100) _ (.int .i64 (i : Int)) ?_
  refine zp (.slice (dropA17 g c i 4) (n - i) (c - i)) (by exact ev_drop17 (size := 4) rR Tryz.underlying27 kR rR rR rfl (by omega)) ?_
  refine mv_appS rR _ _ _ rR elRat rR H101.out (ix := 1) rR (dropA17 g c i 4) (n - i) (c - i) (List.flatMap R1E.cells (es.drop i)) rR (by rw [flat_len R1E.len, List.length_drop, <- HN.out]) (fun h0_ => by obtain ⟨ad_, h1_, h2_⟩ := HDK.out h0_; exact ⟨ad_, h1_, fun j_ u_ hj_ => H101.out.ext.get (h2_ j_ u_ hj_)⟩) (ones1 _) (nou1 _) (by unfold maxLen; exact (by omega)) (by omega) ?_
  intro A109 c110 w108 hh hd hg hf
  clear hf
  rw [show List.flatMap R1E.cells ((es.take i) ++ [(⟨ry, y⟩ : R1E)]) ++ List.flatMap R1E.cells (es.drop i) = List.flatMap R1E.cells (((es.take i) ++ [(⟨ry, y⟩ : R1E)]) ++ (es.drop i)) from List.flatMap_append.symm] at hh
  have H111 := hN hh
  clear hh hd hg
  try simp only [Act.put, zA, zB, zC]
  refine zq (.slice A109 (0 + i + 1 + (n - i)) c110) ?_
  have HPQ := zH (show putQ (es.map R1E.q) y = (es.map R1E.q).take i ++ y :: (es.map R1E.q).drop i from by rw [putQ_at HLT0.out (fun x_ hx_ => by rw [HEQ.out] at hx_; injection hx_ with hx_; rw [<- hx_]; exact CLT.out) (by rw [List.length_map, <- HN.out]; exact hki), if_neg (fun h_ => by rw [HEQ.out] at h_; injection h_ with h_; exact CEQ.out h_)])
  go_wp2_with fail
  go_ret
  exact ⟨A109, _, c110, ((es.take i) ++ [(⟨ry, y⟩ : R1E)]) ++ (es.drop i), rfl, (by have h_ := HN.out; simp only [List.length_append, List.length_take, List.length_drop, List.length_cons, List.length_nil]; omega), .inr (H111.out.row (i := 1) (by rfl)), (by rw [HPQ.out]; simp [List.map_append, List.map_take, List.map_drop]), (fun e_ he_ => by rcases List.mem_append.1 he_ with h_ | h_; rcases List.mem_append.1 h_ with h_ | h_; exact (HOK.out e_ (List.mem_of_mem_take h_)).dig H111.out.dig0; (rw [List.mem_singleton] at h_; rw [h_]; exact ⟨RY.out.dig H111.out.dig0, BY.out⟩); exact (HOK.out e_ (List.mem_of_mem_drop h_)).dig H111.out.dig0), H111.out.ext⟩
 have hlt := HLT.out
 obtain rfl : n = i := by omega
 go_upto_region 2 with fail
 refine zy ?_
 have H114 := zH (H11.out.step (Ext.refl w9).drew)
 refine zJ3 (Hp.start _) zb (bs 13 7) 0 1 2 (.int .i64 (n : Int)) _ (.int .i64 (n : Int)) ?_
 refine zu 3 (bs 13 15) (v := .bool false) zb ?_ (hv := by intro w hSw; exact ezl (e := (dec_f (by omega))))
 refine zJ8 (Hp.start _) zb (bs 13 4095) 4 5 6 7 8 9 10 11 (.bool false) _ _ _ _ _ _ _ ?_
 refine zx 12 (bs 13 8191) (.bool false) zb ?_
 refine wpAnyH_done kR ?_ _
 go_upto_region 4 with fail
 refine wp_region_held_drew (S := fun x => Ext w9.drew x) kR zb (fun _ => ?_)
 have H122 := zH (H114.out.step (Ext.refl w9.drew).drew)
 refine zJ3 (Hp.start _) zb (bs 13 7) 0 1 2 (.int .i64 (n : Int)) _ (.int .i64 (n : Int)) ?_
 refine zu 3 (bs 13 15) (v := .bool false) zb ?_ (hv := by intro w hSw; exact ezl (e := (dec_f (by omega))))
 refine zJ8 (Hp.start _) zb (bs 13 4095) 4 5 6 7 8 9 10 11 (.bool false) _ _ _ _ _ _ _ ?_
 refine zx 12 (bs 13 8191) (.bool false) zb ?_
 refine wpAnyH_done kR ?_ _
 go_upto_region 6 with fail
 refine wl ?_
 refine zp (w' := w9.drew.drew) (.slice none 0 0) (by go_simp <;> with_reducible rfl) ?_
 have H131 := zH (show Hp w w9.drew.drew [.blk X1 34 (rc ry), ro 34 4 none 0 0 R1E.cells ([])] from H122.out.addNil 34 4)
 have HTK := zH (HROW.out.srcTake n)
 have HDK := zH (HROW.out.srcDrop n)
 go_upto_region 7 with fail
 refine wl ?_
 refine zp (w' := w9.drew.drew) (.slice none 0 0) (by go_simp <;> with_reducible rfl) ?_
 refine zp (w' := w9.drew.drew) (.slice (some ⟨g, 0, none⟩) n c) (by go_simp <;> with_reducible rfl) ?_
 refine zp (w' := w9.drew.drew) (.int .i64 (n : Int)) (by go_simp <;> with_reducible rfl) ?_
 refine zp (w' := w9.drew.drew) (.slice (some ⟨g, 0, none⟩) n c) (by exact ev_take17 (size := 4) rR Tryz.underlying27 kR rR rR rfl (by omega)) ?_
 refine mv_appS rR _ _ _ rR elRat rR H131.out (ix := 1) rR (some ⟨g, 0, none⟩) n c (List.flatMap R1E.cells (es.take n)) rR (by rw [flat_len R1E.len, List.length_take, <- HN.out, Nat.min_eq_left hki]) (fun h0_ => by obtain ⟨ad_, h1_, h2_⟩ := HTK.out h0_; exact ⟨ad_, h1_, fun j_ u_ hj_ => H131.out.ext.get (h2_ j_ u_ hj_)⟩) (ones1 _) (nou1 _) (by unfold maxLen; exact (by omega)) (by omega) ?_
 intro A137 c138 w136 hh hd hg hf
 clear hf
 rw [show List.flatMap R1E.cells ([]) ++ List.flatMap R1E.cells (es.take n) = List.flatMap R1E.cells ((es.take n)) from (List.nil_append _)] at hh
 have H139 := hN hh
 clear hh hd hg
 try simp only [Act.put, zA, zB, zC]
 refine zq (.slice A137 (0 + n) c138) ?_
 go_upto_region 8 with fail
 refine wl ?_
 refine zI2 H139.out (.slice A137 (0 + n) c138) _ ?_
 refine zp (w' := (w136.alloc (.cells ([.bool ry.n, .slice ry.p ry.l ry.c, .bool ry.m, .slice ry.p2 ry.l2 ry.c2] : List Value).toArray 34))) (.slice (some ⟨w136.heap.size, 0, none⟩) 1 1) (by go_simp) ?_
 refine mv_app rR _ _ _ rR elRat rR H139.out (ix := 1) rR 1 1 [.bool ry.n, .slice ry.p ry.l ry.c, .bool ry.m, .slice ry.p2 ry.l2 ry.c2] rR rfl (by simp [Value.oneCell']) (by simp [NoUL]) dC (by unfold maxLen; exact (by omega)) (by omega) ?_
 intro g144 cp145 w143 hf hh hd hg
 have Fg144 := zH hf
 clear hf
 rw [show List.flatMap R1E.cells (es.take n) ++ [.bool ry.n, .slice ry.p ry.l ry.c, .bool ry.m, .slice ry.p2 ry.l2 ry.c2] = _ from flat_snoc R1E.cells _ (⟨ry, y⟩ : R1E)] at hh
 have H146 := hN hh
 clear hh hd hg
 try simp only [Act.put, zA, zB, zC]
 refine zq (.slice (some ⟨g144, 0, none⟩) (0 + n + 1) cp145) ?_
 go_upto_region 9 with fail
 refine wl ?_
 refine zI3 (Hp.start _) (.slice (some ⟨g144, 0, none⟩) (0 + n + 1) cp145) _ (.int .i64 (n : Int)) ?_
 refine zp (.slice (dropA17 g c n 4) (n - n) (c - n)) (by exact ev_drop17 (size := 4) rR Tryz.underlying27 kR rR rR rfl (by omega)) ?_
 refine mv_appS rR _ _ _ rR elRat rR H146.out (ix := 1) rR (dropA17 g c n 4) (n - n) (c - n) (List.flatMap R1E.cells (es.drop n)) rR (by rw [flat_len R1E.len, List.length_drop, <- HN.out]) (fun h0_ => by obtain ⟨ad_, h1_, h2_⟩ := HDK.out h0_; exact ⟨ad_, h1_, fun j_ u_ hj_ => H146.out.ext.get (h2_ j_ u_ hj_)⟩) (ones1 _) (nou1 _) (by unfold maxLen; exact (by omega)) (by omega) ?_
 intro A154 c155 w153 hh hd hg hf
 clear hf
 rw [show List.flatMap R1E.cells ((es.take n) ++ [(⟨ry, y⟩ : R1E)]) ++ List.flatMap R1E.cells (es.drop n) = List.flatMap R1E.cells (((es.take n) ++ [(⟨ry, y⟩ : R1E)]) ++ (es.drop n)) from List.flatMap_append.symm] at hh
 have H156 := hN hh
 clear hh hd hg
 try simp only [Act.put, zA, zB, zC]
 refine zq (.slice A154 (0 + n + 1 + (n - n)) c155) ?_
 have HPQ := zH (show putQ (es.map R1E.q) y = (es.map R1E.q).take n ++ y :: (es.map R1E.q).drop n from by rw [putQ_at HLT0.out (fun x_ hx_ => by rw [List.getElem?_eq_none (by rw [List.length_map, <- HN.out]; exact Nat.le_refl _)] at hx_; cases hx_) (by rw [List.length_map, <- HN.out]; exact hki), if_neg (fun h_ => by rw [List.getElem?_eq_none (by rw [List.length_map, <- HN.out]; exact Nat.le_refl _)] at h_; cases h_)])
 go_wp2_with fail
 go_ret
 exact ⟨A154, _, c155, ((es.take n) ++ [(⟨ry, y⟩ : R1E)]) ++ (es.drop n), rfl, (by have h_ := HN.out; simp only [List.length_append, List.length_take, List.length_drop, List.length_cons, List.length_nil]; omega), .inr (H156.out.row (i := 1) (by rfl)), (by rw [HPQ.out]; simp [List.map_append, List.map_take, List.map_drop]), (fun e_ he_ => by rcases List.mem_append.1 he_ with h_ | h_; rcases List.mem_append.1 h_ with h_ | h_; exact (HOK.out e_ (List.mem_of_mem_take h_)).dig H156.out.dig0; (rw [List.mem_singleton] at h_; rw [h_]; exact ⟨RY.out.dig H156.out.dig0, BY.out⟩); exact (HOK.out e_ (List.mem_of_mem_drop h_)).dig H156.out.dig0), H156.out.ext⟩
theorem clamp8_any (n lo hi : Int) (w : World) (h1 : lo <= n) (h2 : n <= hi) : Calls Tryz.prog 125 #[.int .i64 n, .int .i64 lo, .int .i64 hi] w fun e w' => e = .returned (.int .i64 n) /\ Ext w w' := by
 go_enter Tryz.func125, Tryz.ntmps125
 have H0 := zH (Hp.start w)
 go_upto_region 0 with fail
 refine wl ?_
 refine zq (.int .i64 0) ?_
 go_upto_region 1 with fail
 refine wl ?_
 refine qV (.int .i64 n) ?_
 refine zq (.int .i64 lo) ?_
 refine zp (.bool false) (by exact ezl (e := (dec_f (by omega)))) ?_
 go_upto_region 3 with fail
 refine wl ?_
 refine qV (.int .i64 n) ?_
 refine zq (.int .i64 hi) ?_
 refine zp (.bool false) (by exact ezg (e := (dec_f (by omega)))) ?_
 go_upto_region 5 with fail
 refine wl ?_
 refine qV (.int .i64 n) ?_
 refine zq (.int .i64 n) ?_
 go_wp2_with fail
 go_ret
 exact ⟨rfl, H0.out.ext⟩
theorem hold11_any (p : Int × Int) (w : World) (h : okP p) : Calls Tryz.prog 88 #[.agg #[.int .i64 p.1, .int .i64 p.2]] w fun e w' => e = .returned (.agg #[.int .i64 p.1, .int .i64 p.2]) /\ Ext w w' := by
 have op := okP_out h
 go_enter Tryz.func88, Tryz.ntmps88
 have H0 := zH (Hp.start w)
 go_upto_region 0 with fail
 refine wl ?_
 refine aA' 24 [.int .i64 p.1, .int .i64 p.2] H0.out ?_
 intro X10 w11 H12 _
 refine aA' 24 [.int .i64 0, .int .i64 0] H12.out ?_
 intro X15 w16 H17 _
 go_upto_region 1 with fail
 refine wp_region_held_drew (S := fun x => Fr (fun kz => kz = X15) w16 x) kR (Fr.of_ext zb) (fun _ => ?_)
 have H20 := zH (H17.out.step (Ext.refl w16).drew)
 refine zx 0 (bs 8 1) (.pointer (some ⟨X10, 0, none⟩)) (Fr.of_ext zb) ?_
 refine md_ld1 (g := X10) (o := 0) (v := .int .i64 p.1) (i := 1) (listed' := (bs 8 3)) rR kR kR kR (by intro _ _ _ h; exact h) rR (fun x hx => Fr.cell hx (show World.cell? w16 ⟨X10, 0, none⟩ = some (.int .i64 p.1) from cell_of_range (H17.out.range (i := 0) rR 0 1)) (H17.out.offBlk (i := 0) (j := 1) rR rR dC rR)) (by intro x hq; go_simp <;> with_reducible rfl) (Fr.of_ext zb) kR ?_
 try simp only [Act.put, zA, zB, zC]
 refine zx 3 (bs 8 11) (.pointer (some ⟨X10, 1, none⟩)) (Fr.of_ext zb) ?_
 refine md_ld1 (g := X10) (o := 1) (v := .int .i64 p.2) (i := 4) (listed' := (bs 8 27)) rR kR kR kR (by intro _ _ _ h; exact h) rR (fun x hx => Fr.cell hx (show World.cell? w16 ⟨X10, 1, none⟩ = some (.int .i64 p.2) from cell_of_range (H17.out.range (i := 0) rR 1 1)) (H17.out.offBlk (i := 0) (j := 1) rR rR dC rR)) (by intro x hq; go_simp <;> with_reducible rfl) (Fr.of_ext zb) kR ?_
 try simp only [Act.put, zA, zB, zC]
 refine mC 2 (bs 8 31) (clamp8_any p.1 (-1048576) 1048576 _ (by omega) (by omega)) ?_
 rintro e w24 ⟨rfl, hx⟩
 have H25 := zH (H20.out.step hx)
 have S28 := zH (show Fr (fun kz => kz = X15) w16 w24 from (Fr.of_ext zb).trans (Fr.of_ext hx))
 clear hx
 refine zm S28.out ?_
 refine mC 5 (bs 8 63) (clamp8_any p.2 (-1048576) 1048576 _ (by omega) (by omega)) ?_
 rintro e w29 ⟨rfl, hx⟩
 have H30 := zH (H25.out.step hx)
 have S33 := zH (S28.out.trans (Fr.of_ext hx))
 clear hx
 refine zm S33.out ?_
 refine zx 6 (bs 8 127) (.agg #[.int .i64 p.1, .int .i64 p.2]) S33.out ?_
 refine md_st (i := 7) (listed' := (bs 8 255)) rR kR rR kR _ _ _ rR H30.out (ix := 1) rR 0 [.int .i64 p.1, .int .i64 p.2] rR rR (by simp) kR (by simp [Value.oneCell']) (by simp [NoUL]) ?_
 intro w35 hh hd ho
 have H36 := hN hh
 have S38 := zH (Fr.trans_new S33.out ho (fun j hj => .inl (by simpa using hj.symm)))
 clear hh hd ho
 refine ⟨S38.out, ?_⟩
 (try simp only [Act.put])
 refine wpAnyH_done kR ?_ _
 go_wp2_with fail
 refine bodyPost_ret (v := .agg #[.int .i64 p.1, .int .i64 p.2]) ?_ rfl ⟨rfl, H36.out.ext⟩
 exact results_cell1 rfl rfl ((H36.out.blk (i := 1) rR).loadVar rfl rfl rR)
theorem sub11_any (p q : Int × Int) (w : World) (hp : okP p) (hq : okP q) :
  Calls Tryz.prog 61 #[.agg #[.int .i64 p.1, .int .i64 p.2], .agg #[.int .i64 q.1, .int .i64 q.2]] w fun e w' => e = .returned (.agg #[.int .i64 (dv q p).1, .int .i64 (dv q p).2]) /\ Ext w w' := by
 have op := okP_out hp
 have oq := okP_out hq
 go_enter Tryz.func61, Tryz.ntmps61
 have H0 := zH (Hp.start w)
 go_upto_region 0 with fail
 refine wl ?_
 refine aA' 24 [.int .i64 p.1, .int .i64 p.2] H0.out ?_
 intro X39 w40 H41 _
 refine aA' 24 [.int .i64 q.1, .int .i64 q.2] H41.out ?_
 intro X44 w45 H46 _
 refine aA' 24 [.int .i64 0, .int .i64 0] H46.out ?_
 intro X49 w50 H51 _
 go_upto_region 1 with fail
 refine zy ?_
 have H54 := zH (H51.out.step (Ext.refl w50).drew)
 refine zJ2 H51.out zb (bs 8 5) 0 2 _ _ ?_
 refine FN.go2 (j1 := ⟨4, some 5, 24, [.int .i64 0, .int .i64 0]⟩) (j2 := ⟨5, some 6, 24, [.int .i64 0, .int .i64 0]⟩) (b := w50) ?_ zb
 refine gN 1 (bs 8 7) (fk (fk trivial)) zb.size (fun xq hxq => hold11_any p _ hp) (by rintro x_ e x2_ ⟨rfl, hx⟩; exact hx) ?_
 rintro xq e w56 hxq ⟨rfl, hx⟩
 replace hx := hxq.trans hx
 clear hxq
 have H57 := zH (H54.out.step hx)
 have S59 := zH (zb.trans hx)
 clear hx
 refine ⟨_, rfl, ?_⟩
 try simp only [Act.put, zA, zB, zC]
 refine gN 3 (bs 8 15) (fk (fk trivial)) S59.out.size (fun xq hxq => hold11_any q _ hq) (by rintro x_ e x2_ ⟨rfl, hx⟩; exact hx) ?_
 rintro xq e w60 hxq ⟨rfl, hx⟩
 replace hx := hxq.trans hx
 clear hxq
 have H61 := zH (H57.out.step hx)
 have S63 := zH (S59.out.trans hx)
 clear hx
 refine ⟨_, rfl, ?_⟩
 try simp only [Act.put, zA, zB, zC]
 refine gE2 (bs 8 63) (fk (fk trivial)) S63.out.size H51.out H61.out ?_
 intro X64 X65 w66 hx hh hg0 hg1 hs
 have H67 := hN hh
 have S69 := zH (show Ext w50 w66 from hs)
 have G70 := zH (show w50.heap.size <= X64 from hg0)
 have G71 := zH (show w50.heap.size <= X65 from hg1)
 clear hh hx hs hg0 hg1
 try simp only [Act.put, zA, zB, zC]
 refine bS 3 6 (bs 8 127) [.int .i64 p.1, .int .i64 p.2] H67.out S69.out G70.out ?_
 intro w72 H73 _ S75
 refine bS 4 7 (bs 8 255) [.int .i64 q.1, .int .i64 q.2] H73.out S75.out G71.out ?_
 intro w76 H77 _ S79
 refine wpAnyH_done kR ?_ _
 go_upto_region 2 with fail
 refine wl ?_
 refine zI4 H77.out _ _ _ _ ?_
 refine zp (.int .i64 (p.1 - q.1)) (by exact ez2 (by omega)) ?_
 refine zI4 H77.out _ _ _ _ ?_
 refine zp (.int .i64 (p.2 - q.2)) (by exact ez2 (by omega)) ?_
 refine zq (.agg #[.int .i64 (p.1 - q.1), .int .i64 (p.2 - q.2)]) ?_
 refine aS' 2 [.int .i64 (p.1 - q.1), .int .i64 (p.2 - q.2)] H77.out ?_
 intro w87 H88 _
 go_wp2_with fail
 refine bodyPost_ret (v := .agg #[.int .i64 (dv q p).1, .int .i64 (dv q p).2]) ?_ rfl ⟨rfl, H88.out.ext⟩
 exact results_cell1 rfl rfl ((H88.out.blk (i := 2) rR).loadVar rfl rfl rR)
theorem less11_any (p q : Int × Int) (w : World) (hp : okP p) (hq : okP q) :
  Calls Tryz.prog 89 #[.agg #[.int .i64 p.1, .int .i64 p.2], .agg #[.int .i64 q.1, .int .i64 q.2]] w fun e w' => e = .returned (.bool (lessB p q)) /\ Ext w w' := by
 have op := okP_out hp
 have oq := okP_out hq
 go_enter Tryz.func89, Tryz.ntmps89
 have H0 := zH (Hp.start w)
 go_upto_region 0 with fail
 refine wl ?_
 refine aA' 24 [.int .i64 p.1, .int .i64 p.2] H0.out ?_
 intro X90 w91 H92 _
 refine aA' 24 [.int .i64 q.1, .int .i64 q.2] H92.out ?_
 intro X95 w96 H97 _
 refine zq (.bool false) ?_
 go_upto_region 1 with fail
 refine zy ?_
 have H101 := zH (H97.out.step (Ext.refl w96).drew)
 refine zJ2 H97.out zb (bs 8 5) 0 2 _ _ ?_
 refine FN.go2 (j1 := ⟨4, some 5, 24, [.int .i64 0, .int .i64 0]⟩) (j2 := ⟨5, some 6, 24, [.int .i64 0, .int .i64 0]⟩) (b := w96) ?_ zb
 refine gN 1 (bs 8 7) (fk (fk trivial)) zb.size (fun xq hxq => hold11_any p _ hp) (by rintro x_ e x2_ ⟨rfl, hx⟩; exact hx) ?_
 rintro xq e w103 hxq ⟨rfl, hx⟩
 replace hx := hxq.trans hx
 clear hxq
 have H104 := zH (H101.out.step hx)
 have S106 := zH (zb.trans hx)
 clear hx
 refine ⟨_, rfl, ?_⟩
 try simp only [Act.put, zA, zB, zC]
 refine gN 3 (bs 8 15) (fk (fk trivial)) S106.out.size (fun xq hxq => hold11_any q _ hq) (by rintro x_ e x2_ ⟨rfl, hx⟩; exact hx) ?_
 rintro xq e w107 hxq ⟨rfl, hx⟩
 replace hx := hxq.trans hx
 clear hxq
 have H108 := zH (H104.out.step hx)
 have S110 := zH (S106.out.trans hx)
 clear hx
 refine ⟨_, rfl, ?_⟩
 try simp only [Act.put, zA, zB, zC]
 refine gE2 (bs 8 63) (fk (fk trivial)) S110.out.size H97.out H108.out ?_
 intro X111 X112 w113 hx hh hg0 hg1 hs
 have H114 := hN hh
 have S116 := zH (show Ext w96 w113 from hs)
 have G117 := zH (show w96.heap.size <= X111 from hg0)
 have G118 := zH (show w96.heap.size <= X112 from hg1)
 clear hh hx hs hg0 hg1
 try simp only [Act.put, zA, zB, zC]
 refine bS 2 6 (bs 8 127) [.int .i64 p.1, .int .i64 p.2] H114.out S116.out G117.out ?_
 intro w119 H120 _ S122
 refine bS 3 7 (bs 8 255) [.int .i64 q.1, .int .i64 q.2] H120.out S122.out G118.out ?_
 intro w123 H124 _ S126
 refine wpAnyH_done kR ?_ _
 rcases emH (p.2 < q.2) with C1 | C1
 ·go_upto_region 2 with fail
  refine wl ?_
  refine zI4 H124.out _ _ _ _ ?_
  refine zp (.bool true) (by exact ezl (e := (dec_t C1.out))) ?_
  refine zI8 (Hp.start _) (.bool true) _ _ _ _ _ _ _ ?_
  refine zI7 (Hp.start _) _ _ _ _ _ (.bool true) (.bool true) ?_
  go_wp2_with fail
  go_ret
  exact ⟨by rw [show lessB p q = true from by unfold lessB; simp [C1.out]]; rfl, H124.out.ext⟩
 rcases emH (p.2 = q.2) with C2 | C2
 ·rcases emH (p.1 < q.1) with C3 | C3
  ·go_upto_region 2 with fail
   refine wl ?_
   refine zI4 H124.out _ _ _ _ ?_
   refine zp (.bool false) (by exact ezl (e := (dec_f C1.out))) ?_
   refine zI5 H124.out (.bool false) _ _ _ _ ?_
   refine zp (.bool true) (by exact ezq (e := (dec_t C2.out))) ?_
   refine zI5 H124.out (.bool true) _ _ _ _ ?_
   refine zp (.bool true) (by exact ezl (e := (dec_t C3.out))) ?_
   refine zI3 (Hp.start _) (.bool true) (.bool true) (.bool true) ?_
   go_wp2_with fail
   go_ret
   exact ⟨by rw [show lessB p q = true from by unfold lessB; simp [C2.out, C3.out]]; rfl, H124.out.ext⟩
  go_upto_region 2 with fail
  refine wl ?_
  refine zI4 H124.out _ _ _ _ ?_
  refine zp (.bool false) (by exact ezl (e := (dec_f C1.out))) ?_
  refine zI5 H124.out (.bool false) _ _ _ _ ?_
  refine zp (.bool true) (by exact ezq (e := (dec_t C2.out))) ?_
  refine zI5 H124.out (.bool true) _ _ _ _ ?_
  refine zp (.bool false) (by exact ezl (e := (dec_f C3.out))) ?_
  refine zI3 (Hp.start _) (.bool false) (.bool false) (.bool false) ?_
  go_wp2_with fail
  go_ret
  exact ⟨by rw [show lessB p q = false from by unfold lessB; simp [C2.out, C3.out]]; rfl, H124.out.ext⟩
 go_upto_region 2 with fail
 refine wl ?_
 refine zI4 H124.out _ _ _ _ ?_
 refine zp (.bool false) (by exact ezl (e := (dec_f C1.out))) ?_
 refine zI5 H124.out (.bool false) _ _ _ _ ?_
 refine zp (.bool false) (by exact ezq (e := (dec_f C2.out))) ?_
 refine zI8 (Hp.start _) (.bool false) _ _ _ _ _ (.bool false) (.bool false) ?_
 refine zq (.bool false) ?_
 go_wp2_with fail
 go_ret
 exact ⟨by rw [show lessB p q = false from by unfold lessB; simp [C1.out, C2.out]]; rfl, H124.out.ext⟩
theorem wedge11_any (u v : Int × Int) (w : World) (hu : (-2097152 <= u.1 /\ u.1 <= 2097152) /\ (-2097152 <= u.2 /\ u.2 <= 2097152)) (hv : (-2097152 <= v.1 /\ v.1 <= 2097152) /\ (-2097152 <= v.2 /\ v.2 <= 2097152)) :
  Calls Tryz.prog 62 #[.agg #[.int .i64 u.1, .int .i64 u.2], .agg #[.int .i64 v.1, .int .i64 v.2]] w fun e w' => e = .returned (.int .i64 (cr u v)) /\ Ext w w' := by
 have m1 := mul_bd hu.1 hv.2
 have m2 := mul_bd hu.2 hv.1
 go_enter Tryz.func62, Tryz.ntmps62
 have H0 := zH (Hp.start w)
 go_upto_region 0 with fail
 refine wl ?_
 refine aA' 24 [.int .i64 u.1, .int .i64 u.2] H0.out ?_
 intro X175 w176 H177 _
 refine aA' 24 [.int .i64 v.1, .int .i64 v.2] H177.out ?_
 intro X180 w181 H182 _
 refine zq (.int .i64 0) ?_
 go_upto_region 1 with fail
 refine wl ?_
 refine zI4 H182.out _ _ _ _ ?_
 refine zp (.int .i64 (u.1 * v.2)) (by exact ez3 (by omega)) ?_
 refine zI4 H182.out _ _ _ _ ?_
 refine zp (.int .i64 (u.2 * v.1)) (by exact ez3 (by omega)) ?_
 refine zp (.int .i64 ((u.1 * v.2) - (u.2 * v.1))) (by exact ez2 (by omega)) ?_
 refine zq (.int .i64 ((u.1 * v.2) - (u.2 * v.1))) ?_
 go_wp2_with fail
 go_ret
 exact ⟨rfl, H182.out.ext⟩
def LineRet (q : (Int × Int) × Int) (w : World) (e : Ending) (w' : World) : Prop :=
  ((∃ r s : RV, q.2 = 1 /\ e = .returned (.tuple #[.agg #[.bool r.n, .slice r.p r.l r.c, .bool r.m, .slice r.p2 r.l2 r.c2], .agg #[.bool s.n, .slice s.p s.l s.c, .bool s.m, .slice s.p2 s.l2 s.c2], .int .i64 1]) /\ r.Is w' (((q.1.1 : Int)) : Rat) /\ s.Is w' (((q.1.2 : Int)) : Rat)) \/
    (q.2 ≠ 1 /\ e = .returned (.tuple #[.agg z4, .agg z4, .int .i64 q.2]))) /\ Ext w w'
theorem LineRet.yes {q : (Int × Int) × Int} {w w' : World} {e : Ending} (h : LineRet q w e w') (hc : q.2 = 1) : ∃ r s : RV, e = .returned (.tuple #[.agg #[.bool r.n, .slice r.p r.l r.c, .bool r.m, .slice r.p2 r.l2 r.c2], .agg #[.bool s.n, .slice s.p s.l s.c, .bool s.m, .slice s.p2 s.l2 s.c2], .int .i64 1]) /\ r.Is w' (((q.1.1 : Int)) : Rat) /\ s.Is w' (((q.1.2 : Int)) : Rat) /\ Ext w w' := by
  obtain ⟨⟨r, s, _, h1, h2, h3⟩ | ⟨h1, _⟩, hx⟩ := h
  · exact ⟨r, s, h1, h2, h3, hx⟩
  exact absurd hc h1
theorem LineRet.no {q : (Int × Int) × Int} {w w' : World} {e : Ending} (h : LineRet q w e w') (hc : ¬ q.2 = 1) : e = .returned (.tuple #[.agg z4, .agg z4, .int .i64 q.2]) /\ Ext w w' := by
  obtain ⟨⟨r, s, h0, h1, h2, h3⟩ | ⟨_, h1⟩, hx⟩ := h
  · exact absurd h0 hc
  exact ⟨h1, hx⟩
theorem one17_any (p : Int × Int) (w : World) (h : okP p) : Calls Tryz.prog 90 #[.agg #[.int .i64 p.1, .int .i64 p.2]] w fun e w' => ∃ r s : RV, e = .returned (.tuple #[.agg #[.bool r.n, .slice r.p r.l r.c, .bool r.m, .slice r.p2 r.l2 r.c2], .agg #[.bool s.n, .slice s.p s.l s.c, .bool s.m, .slice s.p2 s.l2 s.c2], .int .i64 1]) /\ r.Is w' (((p.1 : Int)) : Rat) /\ s.Is w' (((p.2 : Int)) : Rat) /\ Ext w w' := by
 have op := okP_out h
 go_enter Tryz.func90, Tryz.ntmps90
 have H0 := zH (Hp.start w)
 go_upto_region 0 with fail
 refine wl ?_
 refine aA' 24 [.int .i64 p.1, .int .i64 p.2] H0.out ?_
 intro X1 w2 H3 _
 refine aA' 34 rz H3.out ?_
 intro X6 w7 H8 _
 refine aA' 34 rz H8.out ?_
 intro X11 w12 H13 _
 refine zq (.int .i64 0) ?_
 go_upto_region 1 with fail
 refine wp_region_held_drew (S := fun x => Fr (fun kz => kz = X6 \/ kz = X11) w12 x) kR (Fr.of_ext zb) (fun _ => ?_)
 have H17 := zH (H13.out.step (Ext.refl w12).drew)
 refine zx 0 (bs 9 1) (.pointer (some ⟨X1, 0, none⟩)) (Fr.of_ext zb) ?_
 refine md_ld1 (g := X1) (o := 0) (v := .int .i64 p.1) (i := 1) (listed' := (bs 9 3)) rR kR kR kR (by intro _ _ _ h; exact h) rR (fun x hx => Fr.cell hx (show World.cell? w12 ⟨X1, 0, none⟩ = some (.int .i64 p.1) from cell_of_range (H13.out.range (i := 0) rR 0 1)) (fun hk => hk.elim (H13.out.offBlk (i := 0) (j := 1) rR rR dC rR) (H13.out.offBlk (i := 0) (j := 2) rR rR dC rR))) (by intro x hq; go_simp <;> with_reducible rfl) (Fr.of_ext zb) kR ?_
 try simp only [Act.put, zA, zB, zC]
 refine zx 3 (bs 9 11) (.pointer (some ⟨X1, 1, none⟩)) (Fr.of_ext zb) ?_
 refine md_ld1 (g := X1) (o := 1) (v := .int .i64 p.2) (i := 4) (listed' := (bs 9 27)) rR kR kR kR (by intro _ _ _ h; exact h) rR (fun x hx => Fr.cell hx (show World.cell? w12 ⟨X1, 1, none⟩ = some (.int .i64 p.2) from cell_of_range (H13.out.range (i := 0) rR 1 1)) (fun hk => hk.elim (H13.out.offBlk (i := 0) (j := 1) rR rR dC rR) (H13.out.offBlk (i := 0) (j := 2) rR rR dC rR))) (by intro x hq; go_simp <;> with_reducible rfl) (Fr.of_ext zb) kR ?_
 try simp only [Act.put, zA, zB, zC]
 refine mC 2 (bs 9 31) (q03From p.1 _ (by omega) (by omega)) ?_
 rintro e w21 ⟨c_, rfl, hc_, hx⟩
 have H23 := zH (H17.out.step hx)
 have S26 := zH (show Fr (fun kz => kz = X6 \/ kz = X11) w12 w21 from (Fr.of_ext zb).trans (Fr.of_ext hx))
 obtain ⟨r22, rfl, hr_⟩ := hc_
 have R22 := zH hr_
 clear hr_ hx
 refine zm S26.out ?_
 refine mC 5 (bs 9 63) (q03From p.2 _ (by omega) (by omega)) ?_
 rintro e w27 ⟨c_, rfl, hc_, hx⟩
 have H29 := zH (H23.out.step hx)
 have D29 := zH (Dig.of_ext hx)
 have S32 := zH (S26.out.trans (Fr.of_ext hx))
 obtain ⟨r28, rfl, hr_⟩ := hc_
 have R28 := zH hr_
 clear hr_ hx
 refine zm S32.out ?_
 refine md_st (i := 6) (listed' := (bs 9 127)) rR kR rR kR _ _ _ rR H29.out (ix := 1) rR 0 [.bool r22.n, .slice r22.p r22.l r22.c, .bool r22.m, .slice r22.p2 r22.l2 r22.c2] rR rR (by simp) kR (by simp [Value.oneCell']) (by simp [NoUL]) ?_
 intro w33 hh hd ho
 have H34 := hN hh
 have D34 := zH (hd)
 have S36 := zH (Fr.trans_new S32.out ho (fun j hj => .inl (.inl (by injection hj with hj; exact hj.symm))))
 clear hh hd ho
 refine ⟨S36.out, ?_⟩
 (try simp only [Act.put])
 refine md_st (i := 7) (listed' := (bs 9 255)) rR kR rR kR _ _ _ rR H34.out (ix := 2) rR 0 [.bool r28.n, .slice r28.p r28.l r28.c, .bool r28.m, .slice r28.p2 r28.l2 r28.c2] rR rR (by simp) kR (by simp [Value.oneCell']) (by simp [NoUL]) ?_
 intro w37 hh hd ho
 have H38 := hN hh
 have D38 := zH (hd)
 have S40 := zH (Fr.trans_new S36.out ho (fun j hj => .inl (.inr (by injection hj with hj; exact hj.symm))))
 clear hh hd ho
 refine ⟨S40.out, ?_⟩
 (try simp only [Act.put])
 refine zx 8 (bs 9 511) (.int .i64 1) S40.out ?_
 refine wpAnyH_done kR ?_ _
 have DD42 := tD (tD D29 D34) D38
 have DD43 := tD D34 D38
 go_wp2_with fail
 refine bodyPost_ret (v := .tuple #[.agg #[.bool r22.n, .slice r22.p r22.l r22.c, .bool r22.m, .slice r22.p2 r22.l2 r22.c2], .agg #[.bool r28.n, .slice r28.p r28.l r28.c, .bool r28.m, .slice r28.p2 r28.l2 r28.c2], .int .i64 1]) ?_ rfl ⟨_, _, rfl, (R22.out.dig DD42.out), (R28.out.dig DD43.out), H38.out.ext⟩
 exact results_c1c1t1 rfl rfl rfl ((H38.out.blk (i := 1) rR).loadVar rfl rfl rR) ((H38.out.blk (i := 2) rR).loadVar rfl rfl rR) rfl
theorem ralong17_any (a b c d : Int × Int) (w : World) (ha : okP a) (hb : okP b) (hc : okP c) (hd : okP d) :
  Calls Tryz.prog 63 #[.agg #[.int .i64 a.1, .int .i64 a.2], .agg #[.int .i64 b.1, .int .i64 b.2], .agg #[.int .i64 c.1, .int .i64 c.2], .agg #[.int .i64 d.1, .int .i64 d.2]] w (LineRet (sharedV a b c d) w) := by
 go_enter Tryz.func63, Tryz.ntmps63
 have H0 := zH (Hp.start w)
 go_upto_region 0 with fail
 refine wl ?_
 refine aA' 24 [.int .i64 a.1, .int .i64 a.2] H0.out ?_
 intro X44 w45 H46 _
 refine aA' 24 [.int .i64 b.1, .int .i64 b.2] H46.out ?_
 intro X49 w50 H51 _
 refine aA' 24 [.int .i64 c.1, .int .i64 c.2] H51.out ?_
 intro X54 w55 H56 _
 refine aA' 24 [.int .i64 d.1, .int .i64 d.2] H56.out ?_
 intro X59 w60 H61 _
 refine aA' 34 rz H61.out ?_
 intro X64 w65 H66 _
 refine aA' 34 rz H66.out ?_
 intro X69 w70 H71 _
 refine zq (.int .i64 0) ?_
 go_upto_region 1 with fail
 refine wl ?_
 refine zI2 H71.out _ _ ?_
 refine aC H71.out (less11_any b a _ hb ha) ?_
 intro w75 H76 _
 go_upto_if 15 with fail
 go_cut [] (fun wx => Hp w wx [.blk X44 24 [.int .i64 ((endL a b).1), .int .i64 ((endL a b).2)], .blk X49 24 [.int .i64 ((endH a b).1), .int .i64 ((endH a b).2)], .blk X54 24 [.int .i64 c.1, .int .i64 c.2], .blk X59 24 [.int .i64 d.1, .int .i64 d.2], .blk X64 34 [.bool false, .slice none 0 0, .bool false, .slice none 0 0], .blk X69 34 [.bool false, .slice none 0 0, .bool false, .slice none 0 0]] /\ Dig w75 wx)
 case first =>
  by_cases cj : lessB b a = true
  ·rw [cj]
   go_upto_region 2 with fail
   refine wl ?_
   refine zI2 H76.out _ _ ?_
   refine aS' 0 [.int .i64 b.1, .int .i64 b.2] H76.out ?_
   intro w78 H79 D79
   refine aS' 1 [.int .i64 a.1, .int .i64 a.2] H79.out ?_
   intro w81 H82 D82
   have DD84 := tD D79 D82
   go_wp2_with fail
   go_meet
   exact ⟨(by rw [show endL a b = b from (if_pos cj), show endH a b = a from (if_pos cj)]; exact H82.out), DD84.out⟩
  rw [Bool.eq_false_iff.2 cj]
  go_wp2_with fail
  go_meet
  exact ⟨(by rw [show endL a b = a from (if_neg cj), show endH a b = b from (if_neg cj)]; exact H76.out), (Dig.refl _)⟩
 obtain ⟨hh_, hd_⟩ := hcut
 generalize wc = w85 at *
 have H87 := zH hh_
 have D87 := zH hd_
 clear hh_ hd_
 go_upto_region 3 with fail
 refine wl ?_
 refine zd X59 (0) [.int .i64 d.1, .int .i64 d.2] (H87.out.range (i := 3) rR 0 2) Tryz.underlying24 ?_
 refine zd X54 (0) [.int .i64 c.1, .int .i64 c.2] (H87.out.range (i := 2) rR 0 2) Tryz.underlying24 ?_
 refine aC H87.out (less11_any d c _ hd hc) ?_
 intro w88 H89 _
 go_upto_if 20 with fail
 go_cut [] (fun wx => Hp w wx [.blk X44 24 [.int .i64 ((endL a b).1), .int .i64 ((endL a b).2)], .blk X49 24 [.int .i64 ((endH a b).1), .int .i64 ((endH a b).2)], .blk X54 24 [.int .i64 ((endL c d).1), .int .i64 ((endL c d).2)], .blk X59 24 [.int .i64 ((endH c d).1), .int .i64 ((endH c d).2)], .blk X64 34 [.bool false, .slice none 0 0, .bool false, .slice none 0 0], .blk X69 34 [.bool false, .slice none 0 0, .bool false, .slice none 0 0]] /\ Dig w88 wx)
 case first =>
  by_cases cj : lessB d c = true
  ·rw [cj]
   go_upto_region 4 with fail
   refine wl ?_
   refine zd X59 (0) [.int .i64 d.1, .int .i64 d.2] (H89.out.range (i := 3) rR 0 2) Tryz.underlying24 ?_
   refine zd X54 (0) [.int .i64 c.1, .int .i64 c.2] (H89.out.range (i := 2) rR 0 2) Tryz.underlying24 ?_
   refine aS' 2 [.int .i64 d.1, .int .i64 d.2] H89.out ?_
   intro w91 H92 D92
   refine aS' 3 [.int .i64 c.1, .int .i64 c.2] H92.out ?_
   intro w94 H95 D95
   have DD97 := tD D92 D95
   go_wp2_with fail
   go_meet
   exact ⟨(by rw [show endL c d = d from (if_pos cj), show endH c d = c from (if_pos cj)]; exact H95.out), DD97.out⟩
  rw [Bool.eq_false_iff.2 cj]
  go_wp2_with fail
  go_meet
  exact ⟨(by rw [show endL c d = c from (if_neg cj), show endH c d = d from (if_neg cj)]; exact H89.out), (Dig.refl _)⟩
 obtain ⟨hh_, hd_⟩ := hcut
 generalize wc = w98 at *
 have H100 := zH hh_
 have D100 := zH hd_
 clear hh_ hd_
 go_upto_region 5 with fail
 refine zy ?_
 have H101 := zH (H100.out.step (Ext.refl w98).drew)
 refine zg 0 (bs 6 1) X44 (0) [.int .i64 ((endL a b).1), .int .i64 ((endL a b).2)] (H100.out.range (i := 0) rR 0 2) Tryz.underlying24 zb ?_
 refine zg 1 (bs 6 3) X49 (0) [.int .i64 ((endH a b).1), .int .i64 ((endH a b).2)] (H100.out.range (i := 1) rR 0 2) Tryz.underlying24 zb ?_
 refine md_alloc2 (i := 2) (j := 3) (T := 24) (U := 24) (zs := [.int .i64 0, .int .i64 0]) (us := [.int .i64 0, .int .i64 0]) (li := (bs 6 7)) (lj := (bs 6 11)) (lij := (bs 6 15)) rR rR kR kR kR kR kR kR kR rR rR dC (by intro r_ x_; go_simp) (by intro r_ x_; go_simp) (fun x y h1 h2 => h1.trans h2) zb H101.out (by simp [NoUL]) (by simp [NoUL]) ?_
 intro X103 Y104 w105 hh hx hg1 hg2 hs
 have H106 := hN hh
 have S108 := zH (show Ext w98 w105 from hs)
 have G109 := zH (Nat.le_trans zb.size hg1)
 have G110 := zH (Nat.le_trans zb.size hg2)
 clear hh hx hg1 hg2 hs
 try simp only [Act.put, zA, zB, zC]
 refine bS 6 4 (bs 6 31) [.int .i64 ((endL a b).1), .int .i64 ((endL a b).2)] H106.out S108.out G109.out ?_
 intro w111 H112 _ S114
 refine bS 7 5 (bs 6 63) [.int .i64 ((endH a b).1), .int .i64 ((endH a b).2)] H112.out S114.out G110.out ?_
 intro w115 H116 _ S118
 refine wpAnyH_done kR ?_ _
 go_upto_region 6 with fail
 refine wl ?_
 refine zI2 H116.out _ _ ?_
 refine aC H116.out (less11_any (endL a b) (endL c d) _ (okL ha hb) (okL hc hd)) ?_
 intro w119 H120 _
 go_upto_if 27 with fail
 go_cut [] (fun wx => Hp w wx [.blk X44 24 [.int .i64 ((endL a b).1), .int .i64 ((endL a b).2)], .blk X49 24 [.int .i64 ((endH a b).1), .int .i64 ((endH a b).2)], .blk X54 24 [.int .i64 ((endL c d).1), .int .i64 ((endL c d).2)], .blk X59 24 [.int .i64 ((endH c d).1), .int .i64 ((endH c d).2)], .blk X64 34 [.bool false, .slice none 0 0, .bool false, .slice none 0 0], .blk X69 34 [.bool false, .slice none 0 0, .bool false, .slice none 0 0], .blk X103 24 [.int .i64 ((shL a b c d).1), .int .i64 ((shL a b c d).2)], .blk Y104 24 [.int .i64 ((endH a b).1), .int .i64 ((endH a b).2)]] /\ Dig w119 wx)
 case first =>
  by_cases cj : lessB (endL a b) (endL c d) = true
  ·rw [cj]
   go_upto_region 7 with fail
   refine wl ?_
   refine zI1 H120.out _ ?_
   refine aS' 6 [.int .i64 ((endL c d).1), .int .i64 ((endL c d).2)] H120.out ?_
   intro w122 H123 D123
   go_wp2_with fail
   go_meet
   exact ⟨(by rw [show shL a b c d = endL c d from (if_pos cj)]; exact H123.out), D123.out⟩
  rw [Bool.eq_false_iff.2 cj]
  go_wp2_with fail
  go_meet
  exact ⟨(by rw [show shL a b c d = endL a b from (if_neg cj)]; exact H120.out), (Dig.refl _)⟩
 obtain ⟨hh_, hd_⟩ := hcut
 generalize wc = w125 at *
 have H127 := zH hh_
 have D127 := zH hd_
 clear hh_ hd_
 go_upto_region 8 with fail
 refine wl ?_
 refine zd X59 (0) [.int .i64 ((endH c d).1), .int .i64 ((endH c d).2)] (H127.out.range (i := 3) rR 0 2) Tryz.underlying24 ?_
 refine zd X49 (0) [.int .i64 ((endH a b).1), .int .i64 ((endH a b).2)] (H127.out.range (i := 1) rR 0 2) Tryz.underlying24 ?_
 refine aC H127.out (less11_any (endH c d) (endH a b) _ (okH hc hd) (okH ha hb)) ?_
 intro w128 H129 _
 go_upto_if 31 with fail
 go_cut [] (fun wx => Hp w wx [.blk X44 24 [.int .i64 ((endL a b).1), .int .i64 ((endL a b).2)], .blk X49 24 [.int .i64 ((endH a b).1), .int .i64 ((endH a b).2)], .blk X54 24 [.int .i64 ((endL c d).1), .int .i64 ((endL c d).2)], .blk X59 24 [.int .i64 ((endH c d).1), .int .i64 ((endH c d).2)], .blk X64 34 [.bool false, .slice none 0 0, .bool false, .slice none 0 0], .blk X69 34 [.bool false, .slice none 0 0, .bool false, .slice none 0 0], .blk X103 24 [.int .i64 ((shL a b c d).1), .int .i64 ((shL a b c d).2)], .blk Y104 24 [.int .i64 ((shH a b c d).1), .int .i64 ((shH a b c d).2)]] /\ Dig w128 wx)
 case first =>
  by_cases cj : lessB (endH c d) (endH a b) = true
  ·rw [cj]
   go_upto_region 9 with fail
   refine wl ?_
   refine zd X59 (0) [.int .i64 ((endH c d).1), .int .i64 ((endH c d).2)] (H129.out.range (i := 3) rR 0 2) Tryz.underlying24 ?_
   refine aS' 7 [.int .i64 ((endH c d).1), .int .i64 ((endH c d).2)] H129.out ?_
   intro w131 H132 D132
   go_wp2_with fail
   go_meet
   exact ⟨(by rw [show shH a b c d = endH c d from (if_pos cj)]; exact H132.out), D132.out⟩
  rw [Bool.eq_false_iff.2 cj]
  go_wp2_with fail
  go_meet
  exact ⟨(by rw [show shH a b c d = endH a b from (if_neg cj)]; exact H129.out), (Dig.refl _)⟩
 obtain ⟨hh_, hd_⟩ := hcut
 generalize wc = w134 at *
 have H136 := zH hh_
 have D136 := zH hd_
 clear hh_ hd_
 have HL := zH (show shL a b c d = shL a b c d from rfl)
 have HH := zH (show shH a b c d = shH a b c d from rfl)
 rcases emH (lessB (shH a b c d) (shL a b c d) = true) with C5 | C5
 ·go_upto_region 10 with fail
  refine wl ?_
  refine zd Y104 (0) [.int .i64 ((shH a b c d).1), .int .i64 ((shH a b c d).2)] (H136.out.range (i := 7) rR 0 2) Tryz.underlying24 ?_
  refine zd X103 (0) [.int .i64 ((shL a b c d).1), .int .i64 ((shL a b c d).2)] (H136.out.range (i := 6) rR 0 2) Tryz.underlying24 ?_
  refine zc (less11_any (shH a b c d) (shL a b c d) _ (okSH ha hb hc hd) (okSL ha hb hc hd)) ?_
  rintro e w138 ⟨rfl, hx⟩
  have H139 := zH (H136.out.step hx)
  clear hx
  refine ⟨.bool true, by rw [C5.out], ?_⟩
  try simp only [Act.put, zA, zB, zC]
  go_upto_region 11 with fail
  refine wl ?_
  refine zI2 (Hp.start _) _ _ ?_
  refine aS' 4 rz H139.out ?_
  intro w143 H144 _
  refine aS' 5 rz H144.out ?_
  intro w146 H147 _
  refine zq (.int .i64 0) ?_
  have HS := zH (show sharedV a b c d = ((0, 0), 0) from by unfold sharedV; rw [HL.out, HH.out]; exact if_pos C5.out)
  go_wp2_with fail
  refine bodyPost_ret (v := .tuple #[.agg z4, .agg z4, .int .i64 0]) ?_ rfl ⟨.inr ⟨by rw [HS.out]; decide, by rw [HS.out]⟩, H147.out.ext⟩
  exact results_c1c1t1 rfl rfl rfl ((H147.out.blk (i := 4) rR).loadVar rfl rfl rR) ((H147.out.blk (i := 5) rR).loadVar rfl rfl rR) rfl
 go_upto_region 10 with fail
 refine wl ?_
 refine zd Y104 (0) [.int .i64 ((shH a b c d).1), .int .i64 ((shH a b c d).2)] (H136.out.range (i := 7) rR 0 2) Tryz.underlying24 ?_
 refine zd X103 (0) [.int .i64 ((shL a b c d).1), .int .i64 ((shL a b c d).2)] (H136.out.range (i := 6) rR 0 2) Tryz.underlying24 ?_
 refine zc (less11_any (shH a b c d) (shL a b c d) _ (okSH ha hb hc hd) (okSL ha hb hc hd)) ?_
 rintro e w150 ⟨rfl, hx⟩
 have H151 := zH (H136.out.step hx)
 clear hx
 refine ⟨.bool false, by rw [Bool.eq_false_iff.2 C5.out], ?_⟩
 try simp only [Act.put, zA, zB, zC]
 rcases emH ((shL a b c d) = (shH a b c d)) with C6 | C6
 ·go_upto_region 12 with fail
  refine wl ?_
  refine zd X103 (0) [.int .i64 ((shL a b c d).1), .int .i64 ((shL a b c d).2)] (H151.out.range (i := 6) rR 0 2) Tryz.underlying24 ?_
  refine zd Y104 (0) [.int .i64 ((shH a b c d).1), .int .i64 ((shH a b c d).2)] (H151.out.range (i := 7) rR 0 2) Tryz.underlying24 ?_
  refine zp (.bool true) (by exact ev_eqlpt rR rR rR (pt_eq.2 C6.out)) ?_
  go_upto_region 13 with fail
  refine wl ?_
  refine zd X103 (0) [.int .i64 ((shL a b c d).1), .int .i64 ((shL a b c d).2)] (H151.out.range (i := 6) rR 0 2) Tryz.underlying24 ?_
  refine zc (one17_any (shL a b c d) _ (okSL ha hb hc hd)) ?_
  rintro e w156 ⟨r155, s155, rfl, hr_, hs_, hx⟩
  have H157 := zH (H151.out.step hx)
  have R155 := zH hr_
  have S155 := zH hs_
  clear hr_ hs_ hx
  refine zn ?_
  refine zI3 (Hp.start _) _ _ _ ?_
  refine aS' 4 (rc r155) H157.out ?_
  intro w162 H163 D163
  refine aS' 5 (rc s155) H163.out ?_
  intro w165 H166 D166
  refine zq (.int .i64 1) ?_
  have HS := zH (show sharedV a b c d = ((shL a b c d), 1) from by unfold sharedV; rw [HL.out, HH.out, if_neg C5.out]; exact if_pos C6.out)
  have DD169 := tD D163 D166
  go_wp2_with fail
  refine bodyPost_ret (v := .tuple #[.agg #[.bool r155.n, .slice r155.p r155.l r155.c, .bool r155.m, .slice r155.p2 r155.l2 r155.c2], .agg #[.bool s155.n, .slice s155.p s155.l s155.c, .bool s155.m, .slice s155.p2 s155.l2 s155.c2], .int .i64 1]) ?_ rfl ⟨.inl ⟨_, _, by rw [HS.out], rfl, by rw [HS.out]; exact (R155.out.dig DD169.out), by rw [HS.out]; exact (S155.out.dig DD169.out)⟩, H166.out.ext⟩
  exact results_c1c1t1 rfl rfl rfl ((H166.out.blk (i := 4) rR).loadVar rfl rfl rR) ((H166.out.blk (i := 5) rR).loadVar rfl rfl rR) rfl
 go_upto_region 12 with fail
 refine wl ?_
 refine zd X103 (0) [.int .i64 ((shL a b c d).1), .int .i64 ((shL a b c d).2)] (H151.out.range (i := 6) rR 0 2) Tryz.underlying24 ?_
 refine zd Y104 (0) [.int .i64 ((shH a b c d).1), .int .i64 ((shH a b c d).2)] (H151.out.range (i := 7) rR 0 2) Tryz.underlying24 ?_
 refine zp (.bool false) (by exact ev_eqlpt rR rR rR (Bool.eq_false_iff.2 (fun h_ => C6.out (pt_eq.1 h_)))) ?_
 go_upto_region 14 with fail
 refine wl ?_
 refine zI2 (Hp.start _) _ _ ?_
 refine aS' 4 rz H151.out ?_
 intro w173 H174 _
 refine aS' 5 rz H174.out ?_
 intro w176 H177 _
 refine zq (.int .i64 2) ?_
 have HS := zH (show sharedV a b c d = ((0, 0), 2) from by unfold sharedV; rw [HL.out, HH.out, if_neg C5.out]; exact if_neg C6.out)
 go_wp2_with fail
 refine bodyPost_ret (v := .tuple #[.agg z4, .agg z4, .int .i64 2]) ?_ rfl ⟨.inr ⟨by rw [HS.out]; decide, by rw [HS.out]⟩, H177.out.ext⟩
 exact results_c1c1t1 rfl rfl rfl ((H177.out.blk (i := 4) rR).loadVar rfl rfl rR) ((H177.out.blk (i := 5) rR).loadVar rfl rfl rR) rfl
theorem inU_pos (t d : Int) (hd : 0 < d) : (¬ (t : Rat) / (d : Rat) < (((0) : Int) : Rat) /\ ¬ (((1) : Int) : Rat) < (t : Rat) / (d : Rat)) ↔ 0 <= t /\ t <= d := by
  have h : (0 : Rat) < (d : Rat) := by exact_mod_cast hd
  rw [Rat.div_lt_iff h, Rat.lt_div_iff h, <- Rat.intCast_mul, <- Rat.intCast_mul, Rat.intCast_lt_intCast, Rat.intCast_lt_intCast]
  omega
theorem neg_div_neg17 (t d : Int) : ((-t : Int) : Rat) / ((-d : Int) : Rat) = (t : Rat) / (d : Rat) := by
  rw [Rat.intCast_neg, Rat.intCast_neg, Rat.div_def, Rat.div_def]
  by_cases hd : (d : Rat) = 0
  · rw [hd]; simp
  have h1 := Rat.mul_inv_cancel (d : Rat) hd
  have h2 := Rat.mul_inv_cancel (-(d : Rat)) (by grind)
  grind
theorem cr_par {r s w : Int × Int} (h : r.1 * s.2 - r.2 * s.1 = 0) (hr : ¬ (r = (0, 0))) (hw : r.1 * w.2 - r.2 * w.1 = 0) : s.1 * w.2 - s.2 * w.1 = 0 := by
 obtain ⟨r1, r2⟩ := r
 obtain ⟨s1, s2⟩ := s
 obtain ⟨w1, w2⟩ := w
 simp only at *
 by_cases h1 : r1 = 0
 ·have h2 : r2 ≠ 0 := fun h2 => hr (by rw [h1, h2])
  have h3 : r2 * (s1 * w2 - s2 * w1) = 0 := by subst h1; grind
  rcases Int.mul_eq_zero.1 h3 with h4 | h4
  ·exact absurd h4 h2
  exact h4
 have h3 : r1 * (s1 * w2 - s2 * w1) = 0 := by grind
 rcases Int.mul_eq_zero.1 h3 with h4 | h4
 ·exact absurd h4 h1
 exact h4
theorem segN_line {a b c d : Int × Int} (h : cr (dv a b) (dv c d) = 0) : segN a b c d = if (cr (dv a b) (dv a c) ≠ 0 \/ cr (dv c d) (dv a c) ≠ 0) \/ (a = b /\ c = d /\ a ≠ c) then 0 else (sharedV a b c d).2 := by
 have e0 : ∀ p q : Int × Int, dv p q = (0, 0) ↔ p = q := fun p q => by
  unfold dv
  constructor
  ·intro h
   have h1 := congrArg Prod.fst h
   have h2 := congrArg Prod.snd h
   simp only at h1 h2
   exact Prod.ext (by omega) (by omega)
  intro h
  subst h
  simp
 have z : ∀ u : Int × Int, cr (0, 0) u = 0 := fun u => by simp [cr]
 unfold segN
 rw [if_neg (fun h2 => h2 h)]
 by_cases h1 : dv a b = (0, 0)
 ·have hl : lineV a b c d = dv c d := if_pos h1
  rw [hl]
  by_cases h2 : dv c d = (0, 0)
  ·rw [h1, h2]
   simp only [z, ne_eq, not_true_eq_false, false_or, true_and]
   have e1 := (e0 a b).1 h1
   have e2 := (e0 c d).1 h2
   simp only [e1, e2, true_and]
  rw [h1]
  have e2 : ¬ c = d := fun h => h2 ((e0 c d).2 h)
  simp [z, h2, e2]
 have hl : lineV a b c d = dv a b := if_neg h1
 rw [hl]
 have e1 : ¬ a = b := fun h => h1 ((e0 a b).2 h)
 have h3 : cr (dv a b) (dv a c) = 0 -> cr (dv c d) (dv a c) = 0 := fun h4 => cr_par h h1 h4
 by_cases h4 : cr (dv a b) (dv a c) = 0
 ·simp [h1, e1, h4, h3 h4]
 simp [h4]
theorem rsegments_any (a b c d : Int × Int) (w : World) (ha : okP a) (hb : okP b) (hc : okP c) (hd : okP d) :
  Calls Tryz.prog 27 #[.agg #[.int .i64 a.1, .int .i64 a.2], .agg #[.int .i64 b.1, .int .i64 b.2], .agg #[.int .i64 c.1, .int .i64 c.2], .agg #[.int .i64 d.1, .int .i64 d.2]] w (SegRet a b c d w) := by
 have hn1 := cr_bd (dv_bd ha hb) (dv_bd hc hd)
 have hn2 := cr_bd (dv_bd ha hc) (dv_bd hc hd)
 have hn3 := cr_bd (dv_bd ha hc) (dv_bd ha hb)
 have db := dv_bd ha hb
 have oa := okP_out ha
 have ob := okP_out hb
 have oc := okP_out hc
 have od := okP_out hd
 go_enter Tryz.func27, Tryz.ntmps27
 have H0 := zH (Hp.start w)
 go_upto_region 0 with fail
 refine wl ?_
 refine aA' 24 [.int .i64 a.1, .int .i64 a.2] H0.out ?_
 intro X136 w137 H138 _
 refine aA' 24 [.int .i64 b.1, .int .i64 b.2] H138.out ?_
 intro X141 w142 H143 _
 refine aA' 24 [.int .i64 c.1, .int .i64 c.2] H143.out ?_
 intro X146 w147 H148 _
 refine aA' 24 [.int .i64 d.1, .int .i64 d.2] H148.out ?_
 intro X151 w152 H153 _
 refine aA' 34 rz H153.out ?_
 intro X156 w157 H158 _
 refine aA' 34 rz H158.out ?_
 intro X161 w162 H163 _
 refine zq (.int .i64 0) ?_
 go_upto_region 1 with fail
 refine wl ?_
 refine zI1 H163.out _ ?_
 refine zc (rvalid_any a.1 a.2 _) ?_
 rintro e w167 ⟨rfl, hx⟩
 have H168 := zH (H163.out.step hx)
 clear hx
 refine ⟨.bool true, by rw [ha], ?_⟩
 try simp only [Act.put, zA, zB, zC]
 refine zI3 H168.out (.bool false) (.bool false) _ ?_
 refine zc (rvalid_any b.1 b.2 _) ?_
 rintro e w172 ⟨rfl, hx⟩
 have H173 := zH (H168.out.step hx)
 clear hx
 refine ⟨.bool true, by rw [hb], ?_⟩
 try simp only [Act.put, zA, zB, zC]
 refine zI4 H173.out (.bool false) (.bool false) (.bool false) _ ?_
 refine zc (rvalid_any c.1 c.2 _) ?_
 rintro e w178 ⟨rfl, hx⟩
 have H179 := zH (H173.out.step hx)
 clear hx
 refine ⟨.bool true, by rw [hc], ?_⟩
 try simp only [Act.put, zA, zB, zC]
 refine zI4 H179.out (.bool false) (.bool false) (.bool false) _ ?_
 refine zc (rvalid_any d.1 d.2 _) ?_
 rintro e w184 ⟨rfl, hx⟩
 have H185 := zH (H179.out.step hx)
 clear hx
 refine ⟨.bool true, by rw [hd], ?_⟩
 try simp only [Act.put, zA, zB, zC]
 refine qV (.bool false) ?_
 refine zq (.bool false) ?_
 go_upto_region 3 with fail
 refine zy ?_
 have H189 := zH (H185.out.step (Ext.refl w184).drew)
 refine zJ6 H185.out zb (bs 15 219) 0 1 3 4 6 7 _ _ _ _ _ _ ?_
 refine FN.go3 (j1 := ⟨9, some 11, 24, [.int .i64 0, .int .i64 0]⟩) (j2 := ⟨10, some 12, 24, [.int .i64 0, .int .i64 0]⟩) (j3 := ⟨11, some 13, 24, [.int .i64 0, .int .i64 0]⟩) (b := w184) ?_ zb
 refine gN 2 (bs 15 223) (fk (fk (fk trivial))) zb.size (fun xq hxq => sub11_any b a _ hb ha) (by rintro x_ e x2_ ⟨rfl, hx⟩; exact hx) ?_
 rintro xq e w191 hxq ⟨rfl, hx⟩
 replace hx := hxq.trans hx
 clear hxq
 have H192 := zH (H189.out.step hx)
 have S194 := zH (zb.trans hx)
 clear hx
 refine ⟨_, rfl, ?_⟩
 try simp only [Act.put, zA, zB, zC]
 refine gN 5 (bs 15 255) (fk (fk (fk trivial))) S194.out.size (fun xq hxq => sub11_any d c _ hd hc) (by rintro x_ e x2_ ⟨rfl, hx⟩; exact hx) ?_
 rintro xq e w195 hxq ⟨rfl, hx⟩
 replace hx := hxq.trans hx
 clear hxq
 have H196 := zH (H192.out.step hx)
 have S198 := zH (S194.out.trans hx)
 clear hx
 refine ⟨_, rfl, ?_⟩
 try simp only [Act.put, zA, zB, zC]
 refine gN 8 (bs 15 511) (fk (fk (fk trivial))) S198.out.size (fun xq hxq => sub11_any c a _ hc ha) (by rintro x_ e x2_ ⟨rfl, hx⟩; exact hx) ?_
 rintro xq e w199 hxq ⟨rfl, hx⟩
 replace hx := hxq.trans hx
 clear hxq
 have H200 := zH (H196.out.step hx)
 have S202 := zH (S198.out.trans hx)
 clear hx
 refine ⟨_, rfl, ?_⟩
 try simp only [Act.put, zA, zB, zC]
 refine gE3 (bs 15 4095) (fk (fk (fk trivial))) S202.out.size H185.out H200.out ?_
 intro X203 X204 X205 w206 hx hh hg0 hg1 hg2 hs
 have H207 := hN hh
 have S209 := zH (show Ext w184 w206 from hs)
 have G210 := zH (show w184.heap.size <= X203 from hg0)
 have G211 := zH (show w184.heap.size <= X204 from hg1)
 have G212 := zH (show w184.heap.size <= X205 from hg2)
 clear hh hx hs hg0 hg1 hg2
 try simp only [Act.put, zA, zB, zC]
 refine bS 6 12 (bs 15 8191) [.int .i64 ((dv a b).1), .int .i64 ((dv a b).2)] H207.out S209.out G210.out ?_
 intro w213 H214 _ S216
 refine bS 7 13 (bs 15 16383) [.int .i64 ((dv c d).1), .int .i64 ((dv c d).2)] H214.out S216.out G211.out ?_
 intro w217 H218 _ S220
 refine bS 8 14 (bs 15 32767) [.int .i64 ((dv a c).1), .int .i64 ((dv a c).2)] H218.out S220.out G212.out ?_
 intro w221 H222 _ S224
 refine wpAnyH_done kR ?_ _
 go_upto_region 4 with fail
 refine wl ?_
 refine zI2 H222.out _ _ ?_
 refine aC H222.out (wedge11_any (dv a b) (dv c d) _ (dv_bd ha hb) (dv_bd hc hd)) ?_
 intro w225 H226 _
 refine zq (.int .i64 (cr (dv a b) (dv c d))) ?_
 rcases emH (cr (dv a b) (dv c d) = 0) with C0 | C0
 ·go_upto_region 5 with fail
  refine wl ?_
  refine zq (.int .i64 (cr (dv a b) (dv c d))) ?_
  refine zp (.bool true) (by exact ezq (e := (dec_t C0.out))) ?_
  rcases emH (cr (dv a b) (dv a c) ≠ 0) with C1 | C1
  ·go_upto_region 6 with fail
   refine wl ?_
   refine zI2 H226.out _ _ ?_
   refine aC H226.out (wedge11_any (dv a b) (dv a c) _ (dv_bd ha hb) (dv_bd ha hc)) ?_
   intro w233 H234 _
   refine zp (.bool true) (by exact ezn (e := (dec_t C1.out))) ?_
   refine zI6 (Hp.start _) (.bool true) _ _ _ _ (.bool true) ?_
   go_upto_region 7 with fail
   refine wl ?_
   refine zI2 (Hp.start _) _ _ ?_
   refine aS' 4 rz H234.out ?_
   intro w241 H242 _
   refine aS' 5 rz H242.out ?_
   intro w244 H245 _
   refine zq (.int .i64 0) ?_
   have HSN := zH (show segN a b c d = 0 from by rw [segN_line C0.out]; exact if_pos (.inl (.inl C1.out)))
   go_wp2_with fail
   refine bodyPost_ret (v := .tuple #[.agg z4, .agg z4, .int .i64 0]) ?_ rfl ⟨.inr ⟨by rw [HSN.out]; decide, by rw [HSN.out]⟩, H245.out.ext⟩
   exact results_c1c1t1 rfl rfl rfl ((H245.out.blk (i := 4) rR).loadVar rfl rfl rR) ((H245.out.blk (i := 5) rR).loadVar rfl rfl rR) rfl
  rcases emH (cr (dv c d) (dv a c) ≠ 0) with C2 | C2
  ·go_upto_region 6 with fail
   refine wl ?_
   refine zI2 H226.out _ _ ?_
   refine aC H226.out (wedge11_any (dv a b) (dv a c) _ (dv_bd ha hb) (dv_bd ha hc)) ?_
   intro w249 H250 _
   refine zp (.bool false) (by exact ezn (e := (dec_f C1.out))) ?_
   refine zI3 H250.out (.bool false) _ _ ?_
   refine aC H250.out (wedge11_any (dv c d) (dv a c) _ (dv_bd hc hd) (dv_bd ha hc)) ?_
   intro w254 H255 _
   refine zp (.bool true) (by exact ezn (e := (dec_t C2.out))) ?_
   refine zq (.bool true) ?_
   go_upto_region 7 with fail
   refine wl ?_
   refine zI2 (Hp.start _) _ _ ?_
   refine aS' 4 rz H255.out ?_
   intro w261 H262 _
   refine aS' 5 rz H262.out ?_
   intro w264 H265 _
   refine zq (.int .i64 0) ?_
   have HSN := zH (show segN a b c d = 0 from by rw [segN_line C0.out]; exact if_pos (.inl (.inr C2.out)))
   go_wp2_with fail
   refine bodyPost_ret (v := .tuple #[.agg z4, .agg z4, .int .i64 0]) ?_ rfl ⟨.inr ⟨by rw [HSN.out]; decide, by rw [HSN.out]⟩, H265.out.ext⟩
   exact results_c1c1t1 rfl rfl rfl ((H265.out.blk (i := 4) rR).loadVar rfl rfl rR) ((H265.out.blk (i := 5) rR).loadVar rfl rfl rR) rfl
  go_upto_region 6 with fail
  refine wl ?_
  refine zI2 H226.out _ _ ?_
  refine aC H226.out (wedge11_any (dv a b) (dv a c) _ (dv_bd ha hb) (dv_bd ha hc)) ?_
  intro w268 H269 _
  refine zp (.bool false) (by exact ezn (e := (dec_f C1.out))) ?_
  refine zI3 H269.out (.bool false) _ _ ?_
  refine aC H269.out (wedge11_any (dv c d) (dv a c) _ (dv_bd hc hd) (dv_bd ha hc)) ?_
  intro w273 H274 _
  refine zp (.bool false) (by exact ezn (e := (dec_f C2.out))) ?_
  refine zq (.bool false) ?_
  rcases emH (a = b) with E1 | E1
  ·rcases emH (c = d) with E2 | E2
   ·rcases emH (a = c) with E3 | E3
    ·go_upto_region 8 with fail
     refine wl ?_
     refine zI2 H274.out _ _ ?_
     refine zp (.bool true) (by exact ev_eqlpt rR rR rR (pt_eq.2 E1.out)) ?_
     refine zI3 H274.out (.bool true) _ _ ?_
     refine zp (.bool true) (by exact ev_eqlpt rR rR rR (pt_eq.2 E2.out)) ?_
     refine zI4 H274.out (.bool true) (.bool true) _ _ ?_
     refine zp (.bool false) (by exact ev_neqpt rR rR rR (by rw [pt_eq.2 E3.out]; rfl)) ?_
     refine zq (.bool false) ?_
     have HSV := zH (show segN a b c d = (sharedV a b c d).2 from by rw [segN_line C0.out]; exact if_neg (fun h_ => h_.elim (fun h_ => h_.elim C1.out C2.out) (fun h_ => h_.2.2 E3.out)))
     have HSX := zH (show segX a b c d = (((sharedV a b c d).1.1 : Int) : Rat) from if_neg (fun h_ => h_ C0.out))
     have HSY := zH (show segY a b c d = (((sharedV a b c d).1.2 : Int) : Rat) from if_neg (fun h_ => h_ C0.out))
     rcases emH ((sharedV a b c d).2 = 1) with CS | CS
     ·go_upto_region 10 with fail
      refine wl ?_
      refine zI4 H274.out _ _ _ _ ?_
      refine zc (((ralong17_any a b c d _ ha hb hc hd).mono (fun _ _ h_ => LineRet.yes h_ CS.out))) ?_
      rintro e w290 ⟨r289, s289, rfl, hr_, hs_, hx⟩
      have H291 := zH (H274.out.step hx)
      have R289 := zH hr_
      have S289 := zH hs_
      clear hr_ hs_ hx
      refine zn ?_
      refine zI3 (Hp.start _) _ _ _ ?_
      refine aS' 4 (rc r289) H291.out ?_
      intro w296 H297 D297
      refine aS' 5 (rc s289) H297.out ?_
      intro w299 H300 D300
      refine zq (.int .i64 1) ?_
      have DD303 := tD D297 D300
      go_wp2_with fail
      refine bodyPost_ret (v := .tuple #[.agg #[.bool r289.n, .slice r289.p r289.l r289.c, .bool r289.m, .slice r289.p2 r289.l2 r289.c2], .agg #[.bool s289.n, .slice s289.p s289.l s289.c, .bool s289.m, .slice s289.p2 s289.l2 s289.c2], .int .i64 1]) ?_ rfl ⟨.inl ⟨_, _, by rw [HSV.out, CS.out], rfl, by rw [HSX.out]; exact (R289.out.dig DD303.out), by rw [HSY.out]; exact (S289.out.dig DD303.out)⟩, H300.out.ext⟩
      exact results_c1c1t1 rfl rfl rfl ((H300.out.blk (i := 4) rR).loadVar rfl rfl rR) ((H300.out.blk (i := 5) rR).loadVar rfl rfl rR) rfl
     go_upto_region 10 with fail
     refine wl ?_
     refine zI4 H274.out _ _ _ _ ?_
     refine aC H274.out (((ralong17_any a b c d _ ha hb hc hd).mono (fun _ _ h_ => LineRet.no h_ CS.out))) ?_
     intro w304 H305 _
     refine zI3 (Hp.start _) _ _ (.int .i64 ((sharedV a b c d).2)) ?_
     refine aS' 4 rz H305.out ?_
     intro w310 H311 _
     refine aS' 5 rz H311.out ?_
     intro w313 H314 _
     refine zq (.int .i64 ((sharedV a b c d).2)) ?_
     go_wp2_with fail
     refine bodyPost_ret (v := .tuple #[.agg z4, .agg z4, .int .i64 (sharedV a b c d).2]) ?_ rfl ⟨.inr ⟨by rw [HSV.out]; exact CS.out, by rw [HSV.out]⟩, H314.out.ext⟩
     exact results_c1c1t1 rfl rfl rfl ((H314.out.blk (i := 4) rR).loadVar rfl rfl rR) ((H314.out.blk (i := 5) rR).loadVar rfl rfl rR) rfl
    go_upto_region 8 with fail
    refine wl ?_
    refine zI2 H274.out _ _ ?_
    refine zp (.bool true) (by exact ev_eqlpt rR rR rR (pt_eq.2 E1.out)) ?_
    refine zI3 H274.out (.bool true) _ _ ?_
    refine zp (.bool true) (by exact ev_eqlpt rR rR rR (pt_eq.2 E2.out)) ?_
    refine zI4 H274.out (.bool true) (.bool true) _ _ ?_
    refine zp (.bool true) (by exact ev_neqpt rR rR rR (by rw [Bool.eq_false_iff.2 (fun h_ => E3.out (pt_eq.1 h_))]; rfl)) ?_
    refine zq (.bool true) ?_
    go_upto_region 9 with fail
    refine wl ?_
    refine zI2 (Hp.start _) _ _ ?_
    refine aS' 4 rz H274.out ?_
    intro w326 H327 _
    refine aS' 5 rz H327.out ?_
    intro w329 H330 _
    refine zq (.int .i64 0) ?_
    have HSN := zH (show segN a b c d = 0 from by rw [segN_line C0.out]; exact if_pos (.inr ⟨E1.out, E2.out, E3.out⟩))
    go_wp2_with fail
    refine bodyPost_ret (v := .tuple #[.agg z4, .agg z4, .int .i64 0]) ?_ rfl ⟨.inr ⟨by rw [HSN.out]; decide, by rw [HSN.out]⟩, H330.out.ext⟩
    exact results_c1c1t1 rfl rfl rfl ((H330.out.blk (i := 4) rR).loadVar rfl rfl rR) ((H330.out.blk (i := 5) rR).loadVar rfl rfl rR) rfl
   go_upto_region 8 with fail
   refine wl ?_
   refine zI2 H274.out _ _ ?_
   refine zp (.bool true) (by exact ev_eqlpt rR rR rR (pt_eq.2 E1.out)) ?_
   refine zI3 H274.out (.bool true) _ _ ?_
   refine zp (.bool false) (by exact ev_eqlpt rR rR rR (Bool.eq_false_iff.2 (fun h_ => E2.out (pt_eq.1 h_)))) ?_
   refine zI6 (Hp.start _) (.bool false) (.bool false) _ _ _ (.bool false) ?_
   have HSV := zH (show segN a b c d = (sharedV a b c d).2 from by rw [segN_line C0.out]; exact if_neg (fun h_ => h_.elim (fun h_ => h_.elim C1.out C2.out) (fun h_ => E2.out h_.2.1)))
   have HSX := zH (show segX a b c d = (((sharedV a b c d).1.1 : Int) : Rat) from if_neg (fun h_ => h_ C0.out))
   have HSY := zH (show segY a b c d = (((sharedV a b c d).1.2 : Int) : Rat) from if_neg (fun h_ => h_ C0.out))
   rcases emH ((sharedV a b c d).2 = 1) with CS | CS
   ·go_upto_region 10 with fail
    refine wl ?_
    refine zI4 H274.out _ _ _ _ ?_
    refine zc (((ralong17_any a b c d _ ha hb hc hd).mono (fun _ _ h_ => LineRet.yes h_ CS.out))) ?_
    rintro e w341 ⟨r340, s340, rfl, hr_, hs_, hx⟩
    have H342 := zH (H274.out.step hx)
    have R340 := zH hr_
    have S340 := zH hs_
    clear hr_ hs_ hx
    refine zn ?_
    refine zI3 (Hp.start _) _ _ _ ?_
    refine aS' 4 (rc r340) H342.out ?_
    intro w347 H348 D348
    refine aS' 5 (rc s340) H348.out ?_
    intro w350 H351 D351
    refine zq (.int .i64 1) ?_
    have DD354 := tD D348 D351
    go_wp2_with fail
    refine bodyPost_ret (v := .tuple #[.agg #[.bool r340.n, .slice r340.p r340.l r340.c, .bool r340.m, .slice r340.p2 r340.l2 r340.c2], .agg #[.bool s340.n, .slice s340.p s340.l s340.c, .bool s340.m, .slice s340.p2 s340.l2 s340.c2], .int .i64 1]) ?_ rfl ⟨.inl ⟨_, _, by rw [HSV.out, CS.out], rfl, by rw [HSX.out]; exact (R340.out.dig DD354.out), by rw [HSY.out]; exact (S340.out.dig DD354.out)⟩, H351.out.ext⟩
    exact results_c1c1t1 rfl rfl rfl ((H351.out.blk (i := 4) rR).loadVar rfl rfl rR) ((H351.out.blk (i := 5) rR).loadVar rfl rfl rR) rfl
   go_upto_region 10 with fail
   refine wl ?_
   refine zI4 H274.out _ _ _ _ ?_
   refine aC H274.out (((ralong17_any a b c d _ ha hb hc hd).mono (fun _ _ h_ => LineRet.no h_ CS.out))) ?_
   intro w355 H356 _
   refine zI3 (Hp.start _) _ _ (.int .i64 ((sharedV a b c d).2)) ?_
   refine aS' 4 rz H356.out ?_
   intro w361 H362 _
   refine aS' 5 rz H362.out ?_
   intro w364 H365 _
   refine zq (.int .i64 ((sharedV a b c d).2)) ?_
   go_wp2_with fail
   refine bodyPost_ret (v := .tuple #[.agg z4, .agg z4, .int .i64 (sharedV a b c d).2]) ?_ rfl ⟨.inr ⟨by rw [HSV.out]; exact CS.out, by rw [HSV.out]⟩, H365.out.ext⟩
   exact results_c1c1t1 rfl rfl rfl ((H365.out.blk (i := 4) rR).loadVar rfl rfl rR) ((H365.out.blk (i := 5) rR).loadVar rfl rfl rR) rfl
  go_upto_region 8 with fail
  refine wl ?_
  refine zI2 H274.out _ _ ?_
  refine zp (.bool false) (by exact ev_eqlpt rR rR rR (Bool.eq_false_iff.2 (fun h_ => E1.out (pt_eq.1 h_)))) ?_
  refine zI8 (Hp.start _) (.bool false) _ _ _ (.bool false) (.bool false) _ _ ?_
  refine zk ?_
  refine zq (.bool false) ?_
  have HSV := zH (show segN a b c d = (sharedV a b c d).2 from by rw [segN_line C0.out]; exact if_neg (fun h_ => h_.elim (fun h_ => h_.elim C1.out C2.out) (fun h_ => E1.out h_.1)))
  have HSX := zH (show segX a b c d = (((sharedV a b c d).1.1 : Int) : Rat) from if_neg (fun h_ => h_ C0.out))
  have HSY := zH (show segY a b c d = (((sharedV a b c d).1.2 : Int) : Rat) from if_neg (fun h_ => h_ C0.out))
  rcases emH ((sharedV a b c d).2 = 1) with CS | CS
  ·go_upto_region 10 with fail
   refine wl ?_
   refine zI4 H274.out _ _ _ _ ?_
   refine zc (((ralong17_any a b c d _ ha hb hc hd).mono (fun _ _ h_ => LineRet.yes h_ CS.out))) ?_
   rintro e w375 ⟨r374, s374, rfl, hr_, hs_, hx⟩
   have H376 := zH (H274.out.step hx)
   have R374 := zH hr_
   have S374 := zH hs_
   clear hr_ hs_ hx
   refine zn ?_
   refine zI3 (Hp.start _) _ _ _ ?_
   refine aS' 4 (rc r374) H376.out ?_
   intro w381 H382 D382
   refine aS' 5 (rc s374) H382.out ?_
   intro w384 H385 D385
   refine zq (.int .i64 1) ?_
   have DD388 := tD D382 D385
   go_wp2_with fail
   refine bodyPost_ret (v := .tuple #[.agg #[.bool r374.n, .slice r374.p r374.l r374.c, .bool r374.m, .slice r374.p2 r374.l2 r374.c2], .agg #[.bool s374.n, .slice s374.p s374.l s374.c, .bool s374.m, .slice s374.p2 s374.l2 s374.c2], .int .i64 1]) ?_ rfl ⟨.inl ⟨_, _, by rw [HSV.out, CS.out], rfl, by rw [HSX.out]; exact (R374.out.dig DD388.out), by rw [HSY.out]; exact (S374.out.dig DD388.out)⟩, H385.out.ext⟩
   exact results_c1c1t1 rfl rfl rfl ((H385.out.blk (i := 4) rR).loadVar rfl rfl rR) ((H385.out.blk (i := 5) rR).loadVar rfl rfl rR) rfl
  go_upto_region 10 with fail
  refine wl ?_
  refine zI4 H274.out _ _ _ _ ?_
  refine aC H274.out (((ralong17_any a b c d _ ha hb hc hd).mono (fun _ _ h_ => LineRet.no h_ CS.out))) ?_
  intro w389 H390 _
  refine zI3 (Hp.start _) _ _ (.int .i64 ((sharedV a b c d).2)) ?_
  refine aS' 4 rz H390.out ?_
  intro w395 H396 _
  refine aS' 5 rz H396.out ?_
  intro w398 H399 _
  refine zq (.int .i64 ((sharedV a b c d).2)) ?_
  go_wp2_with fail
  refine bodyPost_ret (v := .tuple #[.agg z4, .agg z4, .int .i64 (sharedV a b c d).2]) ?_ rfl ⟨.inr ⟨by rw [HSV.out]; exact CS.out, by rw [HSV.out]⟩, H399.out.ext⟩
  exact results_c1c1t1 rfl rfl rfl ((H399.out.blk (i := 4) rR).loadVar rfl rfl rR) ((H399.out.blk (i := 5) rR).loadVar rfl rfl rR) rfl
 go_upto_region 5 with fail
 refine wl ?_
 refine zq (.int .i64 (cr (dv a b) (dv c d))) ?_
 refine zp (.bool false) (by exact ezq (e := (dec_f C0.out))) ?_
 go_upto_region 11 with fail
 refine zy ?_
 have H404 := zH (H226.out.step (Ext.refl w225).drew)
 refine zJ4 H226.out zb (bs 8 27) 0 1 3 4 _ _ _ _ ?_
 refine mC 2 (bs 8 31) (wedge11_any (dv a c) (dv c d) _ (dv_bd ha hc) (dv_bd hc hd)) ?_
 rintro e w406 ⟨rfl, hx⟩
 have H407 := zH (H404.out.step hx)
 have S409 := zH (zb.trans hx)
 clear hx
 refine zm S409.out ?_
 refine mC 5 (bs 8 63) (wedge11_any (dv a c) (dv a b) _ (dv_bd ha hc) (dv_bd ha hb)) ?_
 rintro e w410 ⟨rfl, hx⟩
 have H411 := zH (H407.out.step hx)
 have S413 := zH (S409.out.trans hx)
 clear hx
 refine zm S413.out ?_
 refine zJ2 (Hp.start _) S413.out (bs 8 255) 6 7 (.int .i64 (cr (dv a c) (dv c d))) (.int .i64 (cr (dv a c) (dv a b))) ?_
 refine wpAnyH_done kR ?_ _
 go_upto_region 12 with fail
 refine wl ?_
 refine zq (.int .i64 (cr (dv a b) (dv c d))) ?_
 refine zp (.bool (decide (cr (dv a b) (dv c d) < 0))) (by exact ezl (e := rfl)) ?_
 go_upto_if 97 with fail
 go_cut [15, 16, 14] (fun v418 v419 v420 wx => ∃ (t : Int) (u : Int) (n : Int), v418 = .int .i64 t /\ v419 = .int .i64 u /\ v420 = .int .i64 n /\ (0 < n) /\ ((-9000000000000 <= t /\ t <= 9000000000000) /\ -9000000000000 <= u /\ u <= 9000000000000 /\ -9000000000000 <= n /\ n <= 9000000000000) /\ (((t : Rat) / (n : Rat) = segT a b c d)) /\ (((u : Rat) / (n : Rat) = segS a b c d)) /\ Hp w wx [.blk X136 24 [.int .i64 a.1, .int .i64 a.2], .blk X141 24 [.int .i64 b.1, .int .i64 b.2], .blk X146 24 [.int .i64 c.1, .int .i64 c.2], .blk X151 24 [.int .i64 d.1, .int .i64 d.2], .blk X156 34 [.bool false, .slice none 0 0, .bool false, .slice none 0 0], .blk X161 34 [.bool false, .slice none 0 0, .bool false, .slice none 0 0], .blk X203 24 [.int .i64 ((dv a b).1), .int .i64 ((dv a b).2)], .blk X204 24 [.int .i64 ((dv c d).1), .int .i64 ((dv c d).2)], .blk X205 24 [.int .i64 ((dv a c).1), .int .i64 ((dv a c).2)]] /\ Dig w410 wx)
 case first =>
  by_cases cj : cr (dv a b) (dv c d) < 0
  ·rw [decide_eq_true cj]
   go_upto_region 13 with fail
   refine wl ?_
   refine zq (.int .i64 (cr (dv a c) (dv c d))) ?_
   refine zp (.int .i64 (-(cr (dv a c) (dv c d)))) (by exact ev_neg rR rR rfl (by omega) (by omega)) ?_
   refine zq (.int .i64 (cr (dv a c) (dv a b))) ?_
   refine zp (.int .i64 (-(cr (dv a c) (dv a b)))) (by exact ev_neg rR rR rfl (by omega) (by omega)) ?_
   refine zq (.int .i64 (cr (dv a b) (dv c d))) ?_
   refine zp (.int .i64 (-(cr (dv a b) (dv c d)))) (by exact ev_neg rR rR rfl (by omega) (by omega)) ?_
   refine zI3 (Hp.start _) (.int .i64 (-(cr (dv a c) (dv c d)))) (.int .i64 (-(cr (dv a c) (dv a b)))) (.int .i64 (-(cr (dv a b) (dv c d)))) ?_
   go_wp2_with fail
   go_meet
   exact ⟨(-(cr (dv a c) (dv c d))), (-(cr (dv a c) (dv a b))), (-(cr (dv a b) (dv c d))), rfl, rfl, rfl, (by have h_ := C0.out; omega), (by omega), neg_div_neg17 _ _, neg_div_neg17 _ _, H411.out, (Dig.refl _)⟩
  rw [decide_eq_false cj]
  go_wp2_with fail
  go_meet
  exact ⟨(cr (dv a c) (dv c d)), (cr (dv a c) (dv a b)), (cr (dv a b) (dv c d)), rfl, rfl, rfl, (by have h_ := C0.out; omega), (by omega), rfl, rfl, H411.out, (Dig.refl _)⟩
 obtain ⟨t, u, n, rfl, rfl, rfl, q_HDN, q_HBT, q_HQT, q_HQS, hh_, hd_⟩ := hcut
 generalize wc = w430 at *
 have HDN := zH q_HDN
 clear q_HDN
 have HBT := zH q_HBT
 clear q_HBT
 have HQT := zH q_HQT
 clear q_HQT
 have HQS := zH q_HQS
 clear q_HQS
 have H432 := zH hh_
 have D432 := zH hd_
 clear hh_ hd_
 have HIT := zH (show inU (segT a b c d) ↔ 0 <= t /\ t <= n from by unfold inU; rw [<- HQT.out]; exact inU_pos _ _ HDN.out)
 have HIS := zH (show inU (segS a b c d) ↔ 0 <= u /\ u <= n from by unfold inU; rw [<- HQS.out]; exact inU_pos _ _ HDN.out)
 rcases emH (t < 0) with T1 | T1
 ·go_upto_region 14 with fail
  refine wl ?_
  refine zq (.int .i64 t) ?_
  refine zp (.bool true) (by exact ezl (e := (dec_t T1.out))) ?_
  refine zI8 (Hp.start _) (.bool true) _ _ _ (.bool true) (.bool true) _ _ ?_
  refine zI6 (Hp.start _) (.bool true) (.bool true) _ _ _ (.bool true) ?_
  go_upto_region 15 with fail
  refine wl ?_
  refine zI2 (Hp.start _) _ _ ?_
  refine aS' 4 rz H432.out ?_
  intro w444 H445 _
  refine aS' 5 rz H445.out ?_
  intro w447 H448 _
  refine zq (.int .i64 0) ?_
  have HSN := zH (show segN a b c d = 0 from by unfold segN; rw [if_pos C0.out]; exact if_neg (fun h_ => by have h2_ := (HIT.out.1 h_.1).1; have h3_ := T1.out; omega))
  go_wp2_with fail
  refine bodyPost_ret (v := .tuple #[.agg z4, .agg z4, .int .i64 0]) ?_ rfl ⟨.inr ⟨by rw [HSN.out]; decide, by rw [HSN.out]⟩, H448.out.ext⟩
  exact results_c1c1t1 rfl rfl rfl ((H448.out.blk (i := 4) rR).loadVar rfl rfl rR) ((H448.out.blk (i := 5) rR).loadVar rfl rfl rR) rfl
 rcases emH (n < t) with T2 | T2
 ·go_upto_region 14 with fail
  refine wl ?_
  refine zq (.int .i64 t) ?_
  refine zp (.bool false) (by exact ezl (e := (dec_f T1.out))) ?_
  refine zI3 (Hp.start _) (.bool false) (.int .i64 t) (.int .i64 n) ?_
  refine zp (.bool true) (by exact ezg (e := (dec_t T2.out))) ?_
  refine zI8 (Hp.start _) (.bool true) (.bool true) _ _ (.bool true) (.bool true) _ _ ?_
  refine zk ?_
  refine zq (.bool true) ?_
  go_upto_region 15 with fail
  refine wl ?_
  refine zI2 (Hp.start _) _ _ ?_
  refine aS' 4 rz H432.out ?_
  intro w465 H466 _
  refine aS' 5 rz H466.out ?_
  intro w468 H469 _
  refine zq (.int .i64 0) ?_
  have HSN := zH (show segN a b c d = 0 from by unfold segN; rw [if_pos C0.out]; exact if_neg (fun h_ => by have h2_ := (HIT.out.1 h_.1).2; have h3_ := T2.out; omega))
  go_wp2_with fail
  refine bodyPost_ret (v := .tuple #[.agg z4, .agg z4, .int .i64 0]) ?_ rfl ⟨.inr ⟨by rw [HSN.out]; decide, by rw [HSN.out]⟩, H469.out.ext⟩
  exact results_c1c1t1 rfl rfl rfl ((H469.out.blk (i := 4) rR).loadVar rfl rfl rR) ((H469.out.blk (i := 5) rR).loadVar rfl rfl rR) rfl
 rcases emH (u < 0) with U1 | U1
 ·go_upto_region 14 with fail
  refine wl ?_
  refine zq (.int .i64 t) ?_
  refine zp (.bool false) (by exact ezl (e := (dec_f T1.out))) ?_
  refine zI3 (Hp.start _) (.bool false) (.int .i64 t) (.int .i64 n) ?_
  refine zp (.bool false) (by exact ezg (e := (dec_f T2.out))) ?_
  refine zI3 (Hp.start _) (.bool false) (.bool false) (.int .i64 u) ?_
  refine zp (.bool true) (by exact ezl (e := (dec_t U1.out))) ?_
  refine zI6 (Hp.start _) (.bool true) (.bool true) _ _ _ (.bool true) ?_
  go_upto_region 15 with fail
  refine wl ?_
  refine zI2 (Hp.start _) _ _ ?_
  refine aS' 4 rz H432.out ?_
  intro w488 H489 _
  refine aS' 5 rz H489.out ?_
  intro w491 H492 _
  refine zq (.int .i64 0) ?_
  have HSN := zH (show segN a b c d = 0 from by unfold segN; rw [if_pos C0.out]; exact if_neg (fun h_ => by have h2_ := (HIS.out.1 h_.2).1; have h3_ := U1.out; omega))
  go_wp2_with fail
  refine bodyPost_ret (v := .tuple #[.agg z4, .agg z4, .int .i64 0]) ?_ rfl ⟨.inr ⟨by rw [HSN.out]; decide, by rw [HSN.out]⟩, H492.out.ext⟩
  exact results_c1c1t1 rfl rfl rfl ((H492.out.blk (i := 4) rR).loadVar rfl rfl rR) ((H492.out.blk (i := 5) rR).loadVar rfl rfl rR) rfl
 rcases emH (n < u) with U2 | U2
 ·go_upto_region 14 with fail
  refine wl ?_
  refine zq (.int .i64 t) ?_
  refine zp (.bool false) (by exact ezl (e := (dec_f T1.out))) ?_
  refine zI3 (Hp.start _) (.bool false) (.int .i64 t) (.int .i64 n) ?_
  refine zp (.bool false) (by exact ezg (e := (dec_f T2.out))) ?_
  refine zI3 (Hp.start _) (.bool false) (.bool false) (.int .i64 u) ?_
  refine zp (.bool false) (by exact ezl (e := (dec_f U1.out))) ?_
  refine zI4 (Hp.start _) (.bool false) (.bool false) (.int .i64 u) (.int .i64 n) ?_
  refine zp (.bool true) (by exact ezg (e := (dec_t U2.out))) ?_
  refine zq (.bool true) ?_
  go_upto_region 15 with fail
  refine wl ?_
  refine zI2 (Hp.start _) _ _ ?_
  refine aS' 4 rz H432.out ?_
  intro w514 H515 _
  refine aS' 5 rz H515.out ?_
  intro w517 H518 _
  refine zq (.int .i64 0) ?_
  have HSN := zH (show segN a b c d = 0 from by unfold segN; rw [if_pos C0.out]; exact if_neg (fun h_ => by have h2_ := (HIS.out.1 h_.2).2; have h3_ := U2.out; omega))
  go_wp2_with fail
  refine bodyPost_ret (v := .tuple #[.agg z4, .agg z4, .int .i64 0]) ?_ rfl ⟨.inr ⟨by rw [HSN.out]; decide, by rw [HSN.out]⟩, H518.out.ext⟩
  exact results_c1c1t1 rfl rfl rfl ((H518.out.blk (i := 4) rR).loadVar rfl rfl rR) ((H518.out.blk (i := 5) rR).loadVar rfl rfl rR) rfl
 go_upto_region 14 with fail
 refine wl ?_
 refine zq (.int .i64 t) ?_
 refine zp (.bool false) (by exact ezl (e := (dec_f T1.out))) ?_
 refine zI3 (Hp.start _) (.bool false) (.int .i64 t) (.int .i64 n) ?_
 refine zp (.bool false) (by exact ezg (e := (dec_f T2.out))) ?_
 refine zI3 (Hp.start _) (.bool false) (.bool false) (.int .i64 u) ?_
 refine zp (.bool false) (by exact ezl (e := (dec_f U1.out))) ?_
 refine zI4 (Hp.start _) (.bool false) (.bool false) (.int .i64 u) (.int .i64 n) ?_
 refine zp (.bool false) (by exact ezg (e := (dec_f U2.out))) ?_
 refine zq (.bool false) ?_
 have HSN := zH (show segN a b c d = 1 from by unfold segN; rw [if_pos C0.out]; exact if_pos ⟨HIT.out.2 (by have h2_ := T1.out; have h3_ := T2.out; omega), HIS.out.2 (by have h2_ := U1.out; have h3_ := U2.out; omega)⟩)
 go_upto_region 16 with fail
 refine wl ?_
 refine zI2 (Hp.start _) (.int .i64 t) (.int .i64 n) ?_
 refine zc (q03FromInts (t) (n) _ (by have ob5 := HDN.out; have ob6 := HBT.out; omega) (by have ob5 := HDN.out; have ob6 := HBT.out; omega) (by have ob5 := HDN.out; have ob6 := HBT.out; omega) (by have ob5 := HDN.out; have ob6 := HBT.out; omega) (by have h_ := HDN.out; omega)) ?_
 rintro e w540 ⟨c_, rfl, hc_, hx⟩
 have H541 := zH (H432.out.step hx)
 obtain ⟨r537, rfl, hr_⟩ := hc_
 have R537 := zH hr_
 have B537 := zH (rl_qq (t) (n) (by have ob5 := HDN.out; have ob6 := HBT.out; omega) (by have ob5 := HDN.out; have ob6 := HBT.out; omega))
 clear hr_ hx
 refine zn ?_
 refine zI3 (Hp.start _) _ _ _ ?_
 refine aA' 34 rz H541.out ?_
 intro X546 w547 H548 D548
 refine aS' 9 (rc r537) H548.out ?_
 intro w551 H552 D552
 refine zq (.int .i64 0) ?_
 go_upto_region 17 with fail
 refine zy ?_
 have H555 := zH (H552.out.step (Ext.refl w551).drew)
 have D555 := zH (Dig.of_ext (w := w551) zb)
 refine zJ1 (Hp.start _) zb (bs 11 1) 0 _ ?_
 refine md_ld1 (g := X136) (o := 0) (v := .int .i64 a.1) (i := 1) (listed' := (bs 11 3)) rR kR kR kR (by intro _ _ _ h; exact h) rR (fun x hx => Ext.get hx (show World.cell? w551 ⟨X136, 0, none⟩ = some (.int .i64 a.1) from cell_of_range (H552.out.range (i := 0) rR 0 1))) (by intro x hq; go_simp <;> with_reducible rfl) zb kR ?_
 refine zJ3 H552.out zb (bs 11 59) 3 4 5 _ _ _ ?_
 refine gG 9 (some 19) 34 rz w551 H555.out ?_
 refine gL 2 (bs 11 571) (bs 11 63) zb.size H555.out zb (fun xq hxq => q03From a.1 _ (by have ob5 := HDN.out; have ob6 := HBT.out; omega) (by have ob5 := HDN.out; have ob6 := HBT.out; omega)) (by rintro x_ e x2_ ⟨c_, rfl, hc_, hx⟩; exact hx) ?_
 rintro xq e w559 hxq ⟨c_, rfl, hc_, hx⟩
 replace hx := hxq.trans hx
 clear hxq
 have H561 := zH (H555.out.step hx)
 have D561 := zH (show Dig w551.drew w559 from Dig.of_ext hx)
 have S563 := zH (zb.trans hx)
 obtain ⟨r560, rfl, hr_⟩ := hc_
 have R560 := zH hr_
 have B560 := zH (rl_i64 a.1 (by have ob5 := HDN.out; have ob6 := HBT.out; omega) (by have ob5 := HDN.out; have ob6 := HBT.out; omega))
 clear hr_ hx
 refine ⟨_, rfl, ?_⟩
 try simp only [Act.put, zA, zB, zC]
 refine gL 6 (bs 11 575) (bs 11 127) S563.out.size H561.out S563.out (fun xq hxq => q03From ((dv a b).1) _ (by have ob5 := HDN.out; have ob6 := HBT.out; omega) (by have ob5 := HDN.out; have ob6 := HBT.out; omega)) (by rintro x_ e x2_ ⟨c_, rfl, hc_, hx⟩; exact hx) ?_
 rintro xq e w564 hxq ⟨c_, rfl, hc_, hx⟩
 replace hx := hxq.trans hx
 clear hxq
 have H566 := zH (H561.out.step hx)
 have D566 := zH (Dig.of_ext hx)
 have S568 := zH (S563.out.trans hx)
 obtain ⟨r565, rfl, hr_⟩ := hc_
 have R565 := zH hr_
 have B565 := zH (rl_i64 ((dv a b).1) (by have ob5 := HDN.out; have ob6 := HBT.out; omega) (by have ob5 := HDN.out; have ob6 := HBT.out; omega))
 clear hr_ hx
 refine ⟨_, rfl, ?_⟩
 try simp only [Act.put, zA, zB, zC]
 have DD571 := tD (tD (tD (tD D548 D552) D555) D561) D566
 refine gL 7 (bs 11 639) (bs 11 255) S568.out.size H566.out S568.out (fun xq hxq => q03Mul (L := 60000) (RV.Is.nin (R537.out.dig (DD571.out.trans (Dig.of_ext hxq))) (Nat.le_trans B537.out (by omega))) (RV.Is.nin (R565.out.dig (Dig.of_ext hxq)) (Nat.le_trans B565.out (by omega))) (by omega)) (by rintro x_ e x2_ ⟨c_, rfl, hc_, hx⟩; exact hx) ?_
 rintro xq e w569 hxq ⟨c_, rfl, hc_, hx⟩
 replace hx := hxq.trans hx
 clear hxq
 have H572 := zH (H566.out.step hx)
 have D572 := zH (Dig.of_ext hx)
 have S574 := zH (S568.out.trans hx)
 obtain ⟨r570, rfl, hr_⟩ := hc_
 have R570 := zH hr_
 clear hr_
 have B570 := zH (show Nm.rl ((((t : Int) : Rat) / ((n : Int) : Rat)) * ((((dv a b).1) : Int) : Rat)) <= 8 + 2 from by have h1 := B537.out; have h2 := B565.out; have h3 := Nm.rl_mul (((t : Int) : Rat) / ((n : Int) : Rat)) ((((dv a b).1) : Int) : Rat); omega)
 clear hx
 refine ⟨_, rfl, ?_⟩
 try simp only [Act.put, zA, zB, zC]
 have DD577 := tD D566 D572
 refine gL 8 (bs 11 767) (bs 11 511) S574.out.size H572.out S574.out (fun xq hxq => q03Add (L := 60000) (RV.Is.nin (R560.out.dig (DD577.out.trans (Dig.of_ext hxq))) (Nat.le_trans B560.out (by omega))) (RV.Is.nin (R570.out.dig (Dig.of_ext hxq)) (Nat.le_trans B570.out (by omega))) (by omega)) (by rintro x_ e x2_ ⟨c_, rfl, hc_, hx⟩; exact hx) ?_
 rintro xq e w575 hxq ⟨c_, rfl, hc_, hx⟩
 replace hx := hxq.trans hx
 clear hxq
 have H578 := zH (H572.out.step hx)
 have D578 := zH (Dig.of_ext hx)
 have S580 := zH (S574.out.trans hx)
 obtain ⟨r576, rfl, hr_⟩ := hc_
 have R576 := zH hr_
 clear hr_ hx
 refine ⟨_, rfl, ?_⟩
 try simp only [Act.put, zA, zB, zC]
 refine gE (bs 11 1023) S580.out.size H578.out S580.out ?_
 intro X581 w582 hx hh hs hge
 have H583 := hN hh
 have D583 := zH (Dig.of_ext hx)
 have S585 := zH (show Ext w551 w582 from hs)
 have G586 := zH (show w551.heap.size <= X581 from hge)
 clear hh hx hge hs
 try simp only [Act.put, zA, zB, zC]
 refine bS 10 10 (bs 11 2047) (rc r576) H583.out S585.out G586.out ?_
 intro w587 H588 D588 S590
 refine wpAnyH_done kR ?_ _
 go_upto_region 18 with fail
 refine zy ?_
 have H591 := zH (H588.out.step (Ext.refl w587).drew)
 have D591 := zH (Dig.of_ext (w := w587) zb)
 refine zJ1 (Hp.start _) zb (bs 11 1) 0 _ ?_
 refine md_ld1 (g := X136) (o := 1) (v := .int .i64 a.2) (i := 1) (listed' := (bs 11 3)) rR kR kR kR (by intro _ _ _ h; exact h) rR (fun x hx => Ext.get hx (show World.cell? w587 ⟨X136, 1, none⟩ = some (.int .i64 a.2) from cell_of_range (H588.out.range (i := 0) rR 1 1))) (by intro x hq; go_simp <;> with_reducible rfl) zb kR ?_
 refine zJ3 H588.out zb (bs 11 59) 3 4 5 _ _ _ ?_
 refine gG 9 (some 20) 34 rz w587 H591.out ?_
 refine gL 2 (bs 11 571) (bs 11 63) zb.size H591.out zb (fun xq hxq => q03From a.2 _ (by have ob5 := HDN.out; have ob6 := HBT.out; omega) (by have ob5 := HDN.out; have ob6 := HBT.out; omega)) (by rintro x_ e x2_ ⟨c_, rfl, hc_, hx⟩; exact hx) ?_
 rintro xq e w595 hxq ⟨c_, rfl, hc_, hx⟩
 replace hx := hxq.trans hx
 clear hxq
 have H597 := zH (H591.out.step hx)
 have D597 := zH (show Dig w587.drew w595 from Dig.of_ext hx)
 have S599 := zH (zb.trans hx)
 obtain ⟨r596, rfl, hr_⟩ := hc_
 have R596 := zH hr_
 have B596 := zH (rl_i64 a.2 (by have ob5 := HDN.out; have ob6 := HBT.out; omega) (by have ob5 := HDN.out; have ob6 := HBT.out; omega))
 clear hr_ hx
 refine ⟨_, rfl, ?_⟩
 try simp only [Act.put, zA, zB, zC]
 refine gL 6 (bs 11 575) (bs 11 127) S599.out.size H597.out S599.out (fun xq hxq => q03From ((dv a b).2) _ (by have ob5 := HDN.out; have ob6 := HBT.out; omega) (by have ob5 := HDN.out; have ob6 := HBT.out; omega)) (by rintro x_ e x2_ ⟨c_, rfl, hc_, hx⟩; exact hx) ?_
 rintro xq e w600 hxq ⟨c_, rfl, hc_, hx⟩
 replace hx := hxq.trans hx
 clear hxq
 have H602 := zH (H597.out.step hx)
 have D602 := zH (Dig.of_ext hx)
 have S604 := zH (S599.out.trans hx)
 obtain ⟨r601, rfl, hr_⟩ := hc_
 have R601 := zH hr_
 have B601 := zH (rl_i64 ((dv a b).2) (by have ob5 := HDN.out; have ob6 := HBT.out; omega) (by have ob5 := HDN.out; have ob6 := HBT.out; omega))
 clear hr_ hx
 refine ⟨_, rfl, ?_⟩
 try simp only [Act.put, zA, zB, zC]
 have DD607 := tD (tD (tD (tD (tD (tD (tD DD571 D572) D578) D583) D588) D591) D597) D602
 refine gL 7 (bs 11 639) (bs 11 255) S604.out.size H602.out S604.out (fun xq hxq => q03Mul (L := 60000) (RV.Is.nin (R537.out.dig (DD607.out.trans (Dig.of_ext hxq))) (Nat.le_trans B537.out (by omega))) (RV.Is.nin (R601.out.dig (Dig.of_ext hxq)) (Nat.le_trans B601.out (by omega))) (by omega)) (by rintro x_ e x2_ ⟨c_, rfl, hc_, hx⟩; exact hx) ?_
 rintro xq e w605 hxq ⟨c_, rfl, hc_, hx⟩
 replace hx := hxq.trans hx
 clear hxq
 have H608 := zH (H602.out.step hx)
 have D608 := zH (Dig.of_ext hx)
 have S610 := zH (S604.out.trans hx)
 obtain ⟨r606, rfl, hr_⟩ := hc_
 have R606 := zH hr_
 clear hr_
 have B606 := zH (show Nm.rl ((((t : Int) : Rat) / ((n : Int) : Rat)) * ((((dv a b).2) : Int) : Rat)) <= 8 + 2 from by have h1 := B537.out; have h2 := B601.out; have h3 := Nm.rl_mul (((t : Int) : Rat) / ((n : Int) : Rat)) ((((dv a b).2) : Int) : Rat); omega)
 clear hx
 refine ⟨_, rfl, ?_⟩
 try simp only [Act.put, zA, zB, zC]
 have DD613 := tD D602 D608
 refine gL 8 (bs 11 767) (bs 11 511) S610.out.size H608.out S610.out (fun xq hxq => q03Add (L := 60000) (RV.Is.nin (R596.out.dig (DD613.out.trans (Dig.of_ext hxq))) (Nat.le_trans B596.out (by omega))) (RV.Is.nin (R606.out.dig (Dig.of_ext hxq)) (Nat.le_trans B606.out (by omega))) (by omega)) (by rintro x_ e x2_ ⟨c_, rfl, hc_, hx⟩; exact hx) ?_
 rintro xq e w611 hxq ⟨c_, rfl, hc_, hx⟩
 replace hx := hxq.trans hx
 clear hxq
 have H614 := zH (H608.out.step hx)
 have D614 := zH (Dig.of_ext hx)
 have S616 := zH (S610.out.trans hx)
 obtain ⟨r612, rfl, hr_⟩ := hc_
 have R612 := zH hr_
 clear hr_ hx
 refine ⟨_, rfl, ?_⟩
 try simp only [Act.put, zA, zB, zC]
 refine gE (bs 11 1023) S616.out.size H614.out S616.out ?_
 intro X617 w618 hx hh hs hge
 have H619 := hN hh
 have D619 := zH (Dig.of_ext hx)
 have S621 := zH (show Ext w587 w618 from hs)
 have G622 := zH (show w587.heap.size <= X617 from hge)
 clear hh hx hge hs
 try simp only [Act.put, zA, zB, zC]
 refine bS 11 10 (bs 11 2047) (rc r612) H619.out S621.out G622.out ?_
 intro w623 H624 D624 S626
 refine wpAnyH_done kR ?_ _
 go_upto_region 19 with fail
 refine wp_region_held_drew (S := fun x => Fr (fun kz => kz = X156 \/ kz = X161) w623 x) kR (Fr.of_ext zb) (fun _ => ?_)
 have H627 := zH (H624.out.step (Ext.refl w623).drew)
 have D627 := zH (Dig.of_ext (w := w623) zb)
 refine mR 0 (bs 5 1) X581 (0) [.bool r576.n, .slice r576.p r576.l r576.c, .bool r576.m, .slice r576.p2 r576.l2 r576.c2] (fun x hx => Fr.range hx (show World.rangeAt w623 X581 (0) [.bool r576.n, .slice r576.p r576.l r576.c, .bool r576.m, .slice r576.p2 r576.l2 r576.c2] from (H624.out.range (i := 10) rR 0 4)) (fun hk => hk.elim (H624.out.offBlk (i := 10) (j := 4) rR rR dC rR) (H624.out.offBlk (i := 10) (j := 5) rR rR dC rR))) Tryz.underlying34 (Fr.of_ext zb) ?_
 refine zr 1 (bs 5 3) X617 (0) [.bool r612.n, .slice r612.p r612.l r612.c, .bool r612.m, .slice r612.p2 r612.l2 r612.c2] (fun x hx => Fr.range hx (show World.rangeAt w623 X617 (0) [.bool r612.n, .slice r612.p r612.l r612.c, .bool r612.m, .slice r612.p2 r612.l2 r612.c2] from (H624.out.range (i := 11) rR 0 4)) (fun hk => hk.elim (H624.out.offBlk (i := 11) (j := 4) rR rR dC rR) (H624.out.offBlk (i := 11) (j := 5) rR rR dC rR))) Tryz.underlying34 (Fr.of_ext zb) ?_
 refine md_st (i := 2) (listed' := (bs 5 7)) rR kR rR kR _ _ _ rR H627.out (ix := 4) rR 0 [.bool r576.n, .slice r576.p r576.l r576.c, .bool r576.m, .slice r576.p2 r576.l2 r576.c2] rR rR (by simp) kR (by simp [Value.oneCell']) (by simp [NoUL]) ?_
 intro w629 hh hd ho
 have H630 := hN hh
 have D630 := zH (show Dig w623.drew w629 from hd)
 have S632 := zH (show Fr (fun kz => kz = X156 \/ kz = X161) w623 w629 from Fr.trans_new (Fr.of_ext zb) ho (fun j hj => .inl (.inl (by injection hj with hj; exact hj.symm))))
 clear hh hd ho
 refine ⟨S632.out, ?_⟩
 (try simp only [Act.put])
 refine md_st (i := 3) (listed' := (bs 5 15)) rR kR rR kR _ _ _ rR H630.out (ix := 5) rR 0 [.bool r612.n, .slice r612.p r612.l r612.c, .bool r612.m, .slice r612.p2 r612.l2 r612.c2] rR rR (by simp) kR (by simp [Value.oneCell']) (by simp [NoUL]) ?_
 intro w633 hh hd ho
 have H634 := hN hh
 have D634 := zH (hd)
 have S636 := zH (Fr.trans_new S632.out ho (fun j hj => .inl (.inr (by injection hj with hj; exact hj.symm))))
 clear hh hd ho
 refine ⟨S636.out, ?_⟩
 (try simp only [Act.put])
 refine zx 4 (bs 5 31) (.int .i64 1) S636.out ?_
 refine wpAnyH_done kR ?_ _
 have DD638 := tD (tD (tD (tD (tD (tD (tD (tD (tD (tD (tD D583 D588) D591) D597) D602) D608) D614) D619) D624) D627) D630) D634
 have DD639 := tD (tD (tD (tD D619 D624) D627) D630) D634
 go_wp2_with fail
 refine bodyPost_ret (v := .tuple #[.agg #[.bool r576.n, .slice r576.p r576.l r576.c, .bool r576.m, .slice r576.p2 r576.l2 r576.c2], .agg #[.bool r612.n, .slice r612.p r612.l r612.c, .bool r612.m, .slice r612.p2 r612.l2 r612.c2], .int .i64 1]) ?_ rfl ⟨.inl ⟨_, _, HSN.out, rfl, by unfold segX; rw [if_pos C0.out, <- HQT.out]; exact (R576.out.dig DD638.out), by unfold segY; rw [if_pos C0.out, <- HQT.out]; exact (R612.out.dig DD639.out)⟩, H634.out.ext⟩
 exact results_c1c1t1 rfl rfl rfl ((H634.out.blk (i := 4) rR).loadVar rfl rfl rR) ((H634.out.blk (i := 5) rR).loadVar rfl rfl rR) rfl
theorem yat_ref {a b : Int × Int} {x : Int} : (a.2 : Rat) + (((b.2 - a.2) * (x - a.1) : Int) : Rat) / ((b.1 - a.1 : Int) : Rat) = yatQ a b x := by
  unfold yatQ
  congr 1
  rw [Rat.intCast_mul, Rat.div_def, Rat.div_def, Rat.mul_comm ((b.2 - a.2 : Int) : Rat), Rat.mul_assoc, Rat.mul_assoc, Rat.mul_comm ((b.2 - a.2 : Int) : Rat)]
theorem ryat_any (a b : Int × Int) (x : Int) (w : World) (hx0 : -9223372036854775808 <= x /\ x <= 9223372036854775807) :
  Calls Tryz.prog 28 #[.agg #[.int .i64 a.1, .int .i64 a.2], .agg #[.int .i64 b.1, .int .i64 b.2], .int .i64 x] w (AtRet (yatC a b x) (yatQ a b x) w) := by
 go_enter Tryz.func28, Tryz.ntmps28
 have H0 := zH (Hp.start w)
 go_upto_region 0 with fail
 refine wl ?_
 refine aA' 24 [.int .i64 a.1, .int .i64 a.2] H0.out ?_
 intro X1 w2 H3 _
 refine aA' 24 [.int .i64 b.1, .int .i64 b.2] H3.out ?_
 intro X6 w7 H8 _
 refine aA' 34 rz H8.out ?_
 intro X11 w12 H13 _
 refine zq (.bool false) ?_
 rcases emH (okPt a.1 a.2 = true) with VA | VA
 ·rcases emH (okPt b.1 b.2 = true) with VB | VB
  ·have oa := okP_out (p := a) VA.out
   have ob := okP_out (p := b) VB.out
   rcases emH (a.1 = b.1) with C1 | C1
   ·go_upto_region 1 with fail
    refine wl ?_
    refine zI1 H13.out _ ?_
    refine zc (rvalid_any a.1 a.2 _) ?_
    rintro e w20 ⟨rfl, hx⟩
    have H21 := zH (H13.out.step hx)
    clear hx
    refine ⟨.bool true, by rw [VA.out], ?_⟩
    try simp only [Act.put, zA, zB, zC]
    refine zI3 H21.out (.bool false) (.bool false) _ ?_
    refine zc (rvalid_any b.1 b.2 _) ?_
    rintro e w25 ⟨rfl, hx⟩
    have H26 := zH (H21.out.step hx)
    clear hx
    refine ⟨.bool true, by rw [VB.out], ?_⟩
    try simp only [Act.put, zA, zB, zC]
    refine zI7 H26.out (.bool false) (.bool false) (.bool false) _ _ _ _ ?_
    refine zp (.bool true) (by exact ezq (e := (dec_t C1.out))) ?_
    refine zI8 (Hp.start _) (.bool true) (.bool true) _ _ _ _ _ _ ?_
    refine zI8 (Hp.start _) _ (.bool true) (.bool true) _ _ _ _ _ ?_
    refine zI3 (Hp.start _) _ _ (.bool true) ?_
    go_upto_region 2 with fail
    refine wl ?_
    refine zq (.agg z4) ?_
    refine aS' 2 rz H26.out ?_
    intro w40 H41 _
    refine zq (.bool false) ?_
    go_wp2_with fail
    refine bodyPost_ret (v := .tuple #[.agg z4, .bool false]) ?_ rfl ⟨.inr ⟨fun h => h.2.2.1 C1.out, rfl⟩, H41.out.ext⟩
    exact results_c1t1 rfl rfl ((H41.out.blk (i := 2) rR).loadVar rfl rfl rR) rfl
   rcases emH (x < min a.1 b.1) with C2 | C2
   ·go_upto_region 1 with fail
    refine wl ?_
    refine zI1 H13.out _ ?_
    refine zc (rvalid_any a.1 a.2 _) ?_
    rintro e w45 ⟨rfl, hx⟩
    have H46 := zH (H13.out.step hx)
    clear hx
    refine ⟨.bool true, by rw [VA.out], ?_⟩
    try simp only [Act.put, zA, zB, zC]
    refine zI3 H46.out (.bool false) (.bool false) _ ?_
    refine zc (rvalid_any b.1 b.2 _) ?_
    rintro e w50 ⟨rfl, hx⟩
    have H51 := zH (H46.out.step hx)
    clear hx
    refine ⟨.bool true, by rw [VB.out], ?_⟩
    try simp only [Act.put, zA, zB, zC]
    refine zI7 H51.out (.bool false) (.bool false) (.bool false) _ _ _ _ ?_
    refine zp (.bool false) (by exact ezq (e := (dec_f C1.out))) ?_
    refine zI8 H51.out (.bool false) (.bool false) (.int .i64 x) _ _ _ _ (.int .i64 (min a.1 b.1)) ?_
    refine zp (.bool true) (by exact ezl (e := (dec_t C2.out))) ?_
    refine zI8 (Hp.start _) (.bool true) (.bool true) _ _ _ _ _ _ ?_
    refine zI2 (Hp.start _) _ (.bool true) ?_
    go_upto_region 2 with fail
    refine wl ?_
    refine zq (.agg z4) ?_
    refine aS' 2 rz H51.out ?_
    intro w70 H71 _
    refine zq (.bool false) ?_
    go_wp2_with fail
    refine bodyPost_ret (v := .tuple #[.agg z4, .bool false]) ?_ rfl ⟨.inr ⟨fun h => by have h1 := h.2.2.2.1; have h2 := C2.out; omega, rfl⟩, H71.out.ext⟩
    exact results_c1t1 rfl rfl ((H71.out.blk (i := 2) rR).loadVar rfl rfl rR) rfl
   rcases emH (max a.1 b.1 < x) with C3 | C3
   ·go_upto_region 1 with fail
    refine wl ?_
    refine zI1 H13.out _ ?_
    refine zc (rvalid_any a.1 a.2 _) ?_
    rintro e w75 ⟨rfl, hx⟩
    have H76 := zH (H13.out.step hx)
    clear hx
    refine ⟨.bool true, by rw [VA.out], ?_⟩
    try simp only [Act.put, zA, zB, zC]
    refine zI3 H76.out (.bool false) (.bool false) _ ?_
    refine zc (rvalid_any b.1 b.2 _) ?_
    rintro e w80 ⟨rfl, hx⟩
    have H81 := zH (H76.out.step hx)
    clear hx
    refine ⟨.bool true, by rw [VB.out], ?_⟩
    try simp only [Act.put, zA, zB, zC]
    refine zI7 H81.out (.bool false) (.bool false) (.bool false) _ _ _ _ ?_
    refine zp (.bool false) (by exact ezq (e := (dec_f C1.out))) ?_
    refine zI8 H81.out (.bool false) (.bool false) (.int .i64 x) _ _ _ _ (.int .i64 (min a.1 b.1)) ?_
    refine zp (.bool false) (by exact ezl (e := (dec_f C2.out))) ?_
    refine zI8 H81.out (.bool false) (.bool false) (.int .i64 x) _ _ _ _ (.int .i64 (max a.1 b.1)) ?_
    refine zp (.bool true) (by exact ezg (e := (dec_t C3.out))) ?_
    refine zq (.bool true) ?_
    go_upto_region 2 with fail
    refine wl ?_
    refine zq (.agg z4) ?_
    refine aS' 2 rz H81.out ?_
    intro w105 H106 _
    refine zq (.bool false) ?_
    go_wp2_with fail
    refine bodyPost_ret (v := .tuple #[.agg z4, .bool false]) ?_ rfl ⟨.inr ⟨fun h => by have h1 := h.2.2.2.2; have h2 := C3.out; omega, rfl⟩, H106.out.ext⟩
    exact results_c1t1 rfl rfl ((H106.out.blk (i := 2) rR).loadVar rfl rfl rR) rfl
   go_upto_region 1 with fail
   refine wl ?_
   refine zI1 H13.out _ ?_
   refine zc (rvalid_any a.1 a.2 _) ?_
   rintro e w109 ⟨rfl, hx⟩
   have H110 := zH (H13.out.step hx)
   clear hx
   refine ⟨.bool true, by rw [VA.out], ?_⟩
   try simp only [Act.put, zA, zB, zC]
   refine zI3 H110.out (.bool false) (.bool false) _ ?_
   refine zc (rvalid_any b.1 b.2 _) ?_
   rintro e w114 ⟨rfl, hx⟩
   have H115 := zH (H110.out.step hx)
   clear hx
   refine ⟨.bool true, by rw [VB.out], ?_⟩
   try simp only [Act.put, zA, zB, zC]
   refine zI7 H115.out (.bool false) (.bool false) (.bool false) _ _ _ _ ?_
   refine zp (.bool false) (by exact ezq (e := (dec_f C1.out))) ?_
   refine zI8 H115.out (.bool false) (.bool false) (.int .i64 x) _ _ _ _ (.int .i64 (min a.1 b.1)) ?_
   refine zp (.bool false) (by exact ezl (e := (dec_f C2.out))) ?_
   refine zI8 H115.out (.bool false) (.bool false) (.int .i64 x) _ _ _ _ (.int .i64 (max a.1 b.1)) ?_
   refine zp (.bool false) (by exact ezg (e := (dec_f C3.out))) ?_
   refine zq (.bool false) ?_
   have hnz : b.1 - a.1 ≠ 0 := fun h => C1.out (by omega)
   have hxb : -1048576 <= x /\ x <= 1048576 := by have h2 := C2.out; have h3 := C3.out; omega
   have mb := mul_bd (a := b.2 - a.2) (b := x - a.1) (by omega) (by omega)
   go_upto_region 3 with fail
   refine wl ?_
   refine zI4 H115.out _ _ _ _ ?_
   refine zp (.int .i64 (b.2 - a.2)) (by exact ez2 (by omega)) ?_
   refine zI3 H115.out (.int .i64 x) _ _ ?_
   refine zp (.int .i64 (x - a.1)) (by exact ez2 (by omega)) ?_
   refine zp (.int .i64 ((b.2 - a.2) * (x - a.1))) (by exact ez3 (by omega)) ?_
   refine zI4 H115.out _ _ _ _ ?_
   refine zp (.int .i64 (b.1 - a.1)) (by exact ez2 (by omega)) ?_
   refine zc (q03FromInts ((b.2 - a.2) * (x - a.1)) (b.1 - a.1) _ (by omega) (by omega) (by omega) (by omega) (by omega)) ?_
   rintro e w148 ⟨c_, rfl, hc_, hx⟩
   have H150 := zH (H115.out.step hx)
   obtain ⟨r149, rfl, hr_⟩ := hc_
   have R149 := zH hr_
   have B149 := zH (rl_qq ((b.2 - a.2) * (x - a.1)) (b.1 - a.1) ⟨(by omega), (by omega)⟩ ⟨(by omega), (by omega)⟩)
   clear hr_ hx
   refine zn ?_
   refine zI3 (Hp.start _) _ _ _ ?_
   refine aA' 34 rz H150.out ?_
   intro X155 w156 H157 D157
   refine aS' 3 (rc r149) H157.out ?_
   intro w160 H161 D161
   refine zq (.int .i64 0) ?_
   go_upto_region 4 with fail
   refine wp_region_held_drew (S := fun x => Fr (fun kz => kz = X11) w160 x) kR (Fr.of_ext zb) (fun _ => ?_)
   have H164 := zH (H161.out.step (Ext.refl w160).drew)
   have D164 := zH (Dig.of_ext (w := w160) zb)
   refine zx 0 (bs 7 1) (.pointer (some ⟨X1, 1, none⟩)) (Fr.of_ext zb) ?_
   refine md_ld1 (g := X1) (o := 1) (v := .int .i64 a.2) (i := 1) (listed' := (bs 7 3)) rR kR kR kR (by intro _ _ _ h; exact h) rR (fun x hx => Fr.cell hx (show World.cell? w160 ⟨X1, 1, none⟩ = some (.int .i64 a.2) from cell_of_range (H161.out.range (i := 0) rR 1 1)) (H161.out.offBlk (i := 0) (j := 2) rR rR dC rR)) (by intro x hq; go_simp <;> with_reducible rfl) (Fr.of_ext zb) kR ?_
   refine zr 3 (bs 7 11) X155 (0) [.bool r149.n, .slice r149.p r149.l r149.c, .bool r149.m, .slice r149.p2 r149.l2 r149.c2] (fun x hx => Fr.range hx (show World.rangeAt w160 X155 (0) [.bool r149.n, .slice r149.p r149.l r149.c, .bool r149.m, .slice r149.p2 r149.l2 r149.c2] from (H161.out.range (i := 3) rR 0 4)) (H161.out.offBlk (i := 3) (j := 2) rR rR dC rR)) Tryz.underlying34 (Fr.of_ext zb) ?_
   refine mC 2 (bs 7 15) (q03From a.2 _ (by omega) (by omega)) ?_
   rintro e w167 ⟨c_, rfl, hc_, hx⟩
   have H169 := zH (H164.out.step hx)
   have D169 := zH (show Dig w160.drew w167 from Dig.of_ext hx)
   have S172 := zH (show Fr (fun kz => kz = X11) w160 w167 from (Fr.of_ext zb).trans (Fr.of_ext hx))
   obtain ⟨r168, rfl, hr_⟩ := hc_
   have R168 := zH hr_
   have B168 := zH (rl_i64 a.2 (by omega) (by omega))
   clear hr_ hx
   refine zm S172.out ?_
   have DD175 := tD (tD (tD D157 D161) D164) D169
   refine mC 4 (bs 7 31) (q03Add (L := 60000) (RV.Is.nin R168.out (Nat.le_trans B168.out (by omega))) (RV.Is.nin (R149.out.dig DD175.out) (Nat.le_trans B149.out (by omega))) (by omega)) ?_
   rintro e w173 ⟨c_, rfl, hc_, hx⟩
   have H176 := zH (H169.out.step hx)
   have S179 := zH (S172.out.trans (Fr.of_ext hx))
   obtain ⟨r174, rfl, hr_⟩ := hc_
   have R174 := zH hr_
   clear hr_ hx
   refine zm S179.out ?_
   refine md_st (i := 5) (listed' := (bs 7 63)) rR kR rR kR _ _ _ rR H176.out (ix := 2) rR 0 [.bool r174.n, .slice r174.p r174.l r174.c, .bool r174.m, .slice r174.p2 r174.l2 r174.c2] rR rR (by simp) kR (by simp [Value.oneCell']) (by simp [NoUL]) ?_
   intro w180 hh hd ho
   have H181 := hN hh
   have D181 := zH (hd)
   have S183 := zH (Fr.trans_new S179.out ho (fun j hj => .inl (by simpa using hj.symm)))
   clear hh hd ho
   refine ⟨S183.out, ?_⟩
   (try simp only [Act.put])
   refine zx 6 (bs 7 127) (.bool true) S183.out ?_
   refine wpAnyH_done kR ?_ _
   go_wp2_with fail
   refine bodyPost_ret (v := .tuple #[.agg #[.bool r174.n, .slice r174.p r174.l r174.c, .bool r174.m, .slice r174.p2 r174.l2 r174.c2], .bool true]) ?_ rfl ⟨.inl ⟨r174, ⟨VA.out, VB.out, C1.out, by have h2 := C2.out; omega, by have h3 := C3.out; omega⟩, rfl, by rw [<- yat_ref]; exact (R174.out.dig D181.out)⟩, H181.out.ext⟩
   exact results_c1t1 rfl rfl ((H181.out.blk (i := 2) rR).loadVar rfl rfl rR) rfl
  have Wb := zH (Bool.eq_false_iff.2 VB.out)
  go_upto_region 1 with fail
  refine wl ?_
  refine zI1 H13.out _ ?_
  refine zc (rvalid_any a.1 a.2 _) ?_
  rintro e w185 ⟨rfl, hx⟩
  have H186 := zH (H13.out.step hx)
  clear hx
  refine ⟨.bool true, by rw [VA.out], ?_⟩
  try simp only [Act.put, zA, zB, zC]
  refine zI3 H186.out (.bool false) (.bool false) _ ?_
  refine zc (rvalid_any b.1 b.2 _) ?_
  rintro e w190 ⟨rfl, hx⟩
  have H191 := zH (H186.out.step hx)
  clear hx
  refine ⟨.bool false, by rw [Wb.out], ?_⟩
  try simp only [Act.put, zA, zB, zC]
  refine zI8 (Hp.start _) (.bool true) (.bool true) (.bool true) _ _ _ _ _ ?_
  refine zI8 (Hp.start _) (.bool true) (.bool true) _ _ _ _ _ _ ?_
  refine zI8 (Hp.start _) _ (.bool true) (.bool true) _ _ _ _ _ ?_
  refine zI3 (Hp.start _) _ _ (.bool true) ?_
  go_upto_region 2 with fail
  refine wl ?_
  refine zq (.agg z4) ?_
  refine aS' 2 rz H191.out ?_
  intro w202 H203 _
  refine zq (.bool false) ?_
  go_wp2_with fail
  refine bodyPost_ret (v := .tuple #[.agg z4, .bool false]) ?_ rfl ⟨.inr ⟨fun h => VB.out h.2.1, rfl⟩, H203.out.ext⟩
  exact results_c1t1 rfl rfl ((H203.out.blk (i := 2) rR).loadVar rfl rfl rR) rfl
 have Wa := zH (Bool.eq_false_iff.2 VA.out)
 go_upto_region 1 with fail
 refine wl ?_
 refine zI1 H13.out _ ?_
 refine zc (rvalid_any a.1 a.2 _) ?_
 rintro e w206 ⟨rfl, hx⟩
 have H207 := zH (H13.out.step hx)
 clear hx
 refine ⟨.bool false, by rw [Wa.out], ?_⟩
 try simp only [Act.put, zA, zB, zC]
 refine zI8 (Hp.start _) (.bool true) (.bool true) _ _ _ (.bool true) (.bool true) _ ?_
 refine zI8 (Hp.start _) _ _ _ _ (.bool true) (.bool true) _ _ ?_
 refine zI8 (Hp.start _) _ _ _ _ _ (.bool true) (.bool true) _ ?_
 refine zI7 (Hp.start _) _ _ _ _ _ _ (.bool true) ?_
 go_upto_region 2 with fail
 refine wl ?_
 refine zq (.agg z4) ?_
 refine aS' 2 rz H207.out ?_
 intro w219 H220 _
 refine zq (.bool false) ?_
 go_wp2_with fail
 refine bodyPost_ret (v := .tuple #[.agg z4, .bool false]) ?_ rfl ⟨.inr ⟨fun h => VA.out h.1, rfl⟩, H220.out.ext⟩
 exact results_c1t1 rfl rfl ((H220.out.blk (i := 2) rR).loadVar rfl rfl rR) rfl
theorem SegRet.mix17 {a b c d : Int × Int} {w w' : World} {e : Ending} (h : SegRet a b c d w e w') : ∃ r s : RV, e = .returned (.tuple #[.agg #[.bool r.n, .slice r.p r.l r.c, .bool r.m, .slice r.p2 r.l2 r.c2], .agg #[.bool s.n, .slice s.p s.l s.c, .bool s.m, .slice s.p2 s.l2 s.c2], .int .i64 (segN a b c d)]) /\ (segN a b c d = 1 -> r.Is w' (segX a b c d) /\ s.Is w' (segY a b c d)) /\ Ext w w' := by
 obtain ⟨⟨r, s, h0, h1, h2, h3⟩ | ⟨h0, h1⟩, hx⟩ := h
 ·exact ⟨r, s, by rw [h1, h0], fun _ => ⟨h2, h3⟩, hx⟩
 exact ⟨⟨false, none, 0, 0, false, none, 0, 0⟩, ⟨false, none, 0, 0, false, none, 0, 0⟩, h1, fun h => absurd h h0, hx⟩
theorem AtRet.mix17 {C : Prop} {q : Rat} {w w' : World} {e : Ending} (h : AtRet C q w e w') : ∃ (r : RV) (y : Bool), e = .returned (.tuple #[.agg #[.bool r.n, .slice r.p r.l r.c, .bool r.m, .slice r.p2 r.l2 r.c2], .bool y]) /\ (y = true ↔ C) /\ (C -> r.Is w' q) /\ Ext w w' := by
  obtain ⟨⟨r, h0, h1, h2⟩ | ⟨h0, h1⟩, hx⟩ := h
  · exact ⟨r, true, h1, ⟨fun _ => h0, fun _ => rfl⟩, fun _ => h2, hx⟩
  exact ⟨⟨false, none, 0, 0, false, none, 0, 0⟩, false, h1, ⟨fun h => absurd h (by decide), fun h => absurd h h0⟩, fun h => absurd h h0, hx⟩
theorem RowN.formS {w : World} {b n c size : Nat} {T : TypeId} {A : Option Addr} {xs : List Value} (h : RowN w b T size (.slice A n c) n xs) : 0 < n -> ∃ g, A = some ⟨g, 0, none⟩ := by
  intro hn
  obtain ⟨_, ⟨h2, _⟩ | ⟨g, c', r, h2, _⟩⟩ := h
  · injection h2 with _ e _; omega
  injection h2 with e _ _; exact ⟨g, e⟩
theorem reventYs_any (u : Value) (rs : List Ring) (a b : Int × Int) (w : World) (hu : RingsV w u rs) (hn : rs.length <= 100000) (hr : ∀ r, r ∈ rs -> r.length <= 100000) :
  Calls Tryz.prog 7 #[u, .agg #[.int .i64 a.1, .int .i64 a.2], .agg #[.int .i64 b.1, .int .i64 b.2]] w fun e w' => ∃ (A : Option Addr) (n c : Nat) (es : List R1E), e = .returned (.slice A n c) /\ n = es.length /\ RowN w' w.heap.size 34 4 (.slice A n c) n (List.flatMap R1E.cells es) /\ es.map R1E.q = refL a b rs /\ (∀ e, e ∈ es -> e.Ok 24 w') /\ Ext w w' := by
 have HU := zH hu
 have HN := zH hn
 have HR := zH hr
 obtain ⟨A, cu, rfl, hA⟩ := hu
 have HA := zH hA
 clear hA hr
 go_enter Tryz.func7, Tryz.ntmps7
 have H0 := zH (Hp.start w)
 go_upto_region 0 with fail
 refine wl ?_
 refine aA' 24 [.int .i64 a.1, .int .i64 a.2] H0.out ?_
 intro X1 w2 H3 _
 refine aA' 24 [.int .i64 b.1, .int .i64 b.2] H3.out ?_
 intro X6 w7 H8 _
 refine zI1 (Hp.start _) _ ?_
 rcases emH (okR rs = true) with HV | HV
 ·rcases emH (okPt a.1 a.2 = true) with VA | VA
  ·rcases emH (okPt b.1 b.2 = true) with VB | VB
   ·rcases emH (b.2 <= a.2) with HLE | HLE
    ·go_upto_region 1 with fail
     refine wl ?_
     refine zI1 (Hp.start _) _ ?_
     refine zc (r16Valid_any _ rs _ (HU.out.ext H8.out.ext) HN.out HR.out) ?_
     rintro e w17 ⟨rfl, hx⟩
     have H18 := zH (H8.out.step hx)
     clear hx
     refine ⟨.bool true, by rw [HV.out], ?_⟩
     try simp only [Act.put, zA, zB, zC]
     refine zI3 H18.out (.bool false) (.bool false) _ ?_
     refine zc (rvalid_any a.1 a.2 _) ?_
     rintro e w22 ⟨rfl, hx⟩
     have H23 := zH (H18.out.step hx)
     clear hx
     refine ⟨.bool true, by rw [VA.out], ?_⟩
     try simp only [Act.put, zA, zB, zC]
     refine zI4 H23.out (.bool false) (.bool false) (.bool false) _ ?_
     refine zc (rvalid_any b.1 b.2 _) ?_
     rintro e w28 ⟨rfl, hx⟩
     have H29 := zH (H23.out.step hx)
     clear hx
     refine ⟨.bool true, by rw [VB.out], ?_⟩
     try simp only [Act.put, zA, zB, zC]
     refine zI7 H29.out (.bool false) (.bool false) (.bool false) _ _ _ _ ?_
     refine zp (.bool true) (by exact ezo (e := (dec_t HLE.out))) ?_
     refine zq (.bool true) ?_
     go_upto_region 2 with fail
     refine wl ?_
     refine zI1 (Hp.start _) _ ?_
     go_wp2_with fail
     go_ret
     exact ⟨none, 0, 0, [], rfl, rfl, RowN.nil _ _ _ _, (by rw [show refL a b rs = [] from if_neg (fun h => by have h1 := h.2.2.2; have h2 := HLE.out; omega)]; rfl), (fun _ h => by cases h), H29.out.ext⟩
    go_upto_region 1 with fail
    refine wl ?_
    refine zI1 (Hp.start _) _ ?_
    refine zc (r16Valid_any _ rs _ (HU.out.ext H8.out.ext) HN.out HR.out) ?_
    rintro e w40 ⟨rfl, hx⟩
    have H41 := zH (H8.out.step hx)
    clear hx
    refine ⟨.bool true, by rw [HV.out], ?_⟩
    try simp only [Act.put, zA, zB, zC]
    refine zI3 H41.out (.bool false) (.bool false) _ ?_
    refine zc (rvalid_any a.1 a.2 _) ?_
    rintro e w45 ⟨rfl, hx⟩
    have H46 := zH (H41.out.step hx)
    clear hx
    refine ⟨.bool true, by rw [VA.out], ?_⟩
    try simp only [Act.put, zA, zB, zC]
    refine zI4 H46.out (.bool false) (.bool false) (.bool false) _ ?_
    refine zc (rvalid_any b.1 b.2 _) ?_
    rintro e w51 ⟨rfl, hx⟩
    have H52 := zH (H46.out.step hx)
    clear hx
    refine ⟨.bool true, by rw [VB.out], ?_⟩
    try simp only [Act.put, zA, zB, zC]
    refine zI7 H52.out (.bool false) (.bool false) (.bool false) _ _ _ _ ?_
    refine zp (.bool false) (by exact ezo (e := (dec_f HLE.out))) ?_
    refine zq (.bool false) ?_
    have HEV := zH (show evOk a b rs from ⟨HV.out, VA.out, VB.out, by have h_ := HLE.out; omega⟩)
    have oa := okP_out (p := a) VA.out
    have ob := okP_out (p := b) VB.out
    go_upto_region 3 with fail
    refine wl ?_
    refine zI1 (Hp.start _) _ ?_
    have H62 := zH (show Hp w w51 [.blk X1 24 [.int .i64 a.1, .int .i64 a.2], .blk X6 24 [.int .i64 b.1, .int .i64 b.2], ro 34 4 none 0 0 R1E.cells ([])] from H52.out.addNil 34 4)
    go_upto_region 4 with fail
    refine wl ?_
    refine zq (.int .i64 0) ?_
    go_wp2_with fail
    go_loopg [7, 8] (rs.length) (fun cq v64 v65 wr => ∃ (i : Nat) (m : Nat) (es : List R1E) (A1 : Option Addr) (c1 : Nat), cq = rs.length - i /\ v64 = .slice A1 m c1 /\ v65 = .int .i64 (i : Int) /\ (i <= rs.length) /\ (m = es.length /\ m <= tot (rs.take i)) /\ (es.map R1E.q = refP (rs.take i)) /\ (∀ e, e ∈ es -> e.Ok 24 wr) /\ Hp w wr [.blk X1 24 [.int .i64 a.1, .int .i64 a.2], .blk X6 24 [.int .i64 b.1, .int .i64 b.2], .row 34 4 (.slice A1 m c1) (m) (List.flatMap R1E.cells es)] /\ Dig w51 wr)
    case atStart => exact ⟨0, 0, [], none, 0, rfl, rfl, rfl, Nat.zero_le _, ⟨rfl, by simp [tot]⟩, rfl, (fun _ h_ => by cases h_), H62.out, Dig.refl _⟩
    obtain ⟨i, m, es, A1, c1, rfl, rfl, rfl, q_HKI, q_HM, q_HES, q_HOE, hh_, hd_⟩ := hrel
    generalize wr = w66 at *
    have HKI := zH q_HKI
    clear q_HKI
    have HM := zH q_HM
    clear q_HM
    have HES := zH q_HES
    clear q_HES
    have HOE := zH q_HOE
    clear q_HOE
    have H68 := zH hh_
    have D68 := zH hd_
    clear hh_ hd_ H62
    rcases emH (i < rs.length) with HLT | HLT
    ·have hlt := HLT.out
     obtain ⟨r, hri_⟩ : ∃ r, rs[i]? = some r := ⟨_, List.getElem?_eq_getElem hlt⟩
     have HRI := zH hri_
     have hrl := HR.out r (List.mem_of_getElem? hri_)
     obtain ⟨g, off, rfl, hp_⟩ := HA.out (by omega)
     obtain ⟨B, cb, h1_, A2_, cb2_, hv_, h2_⟩ := hp_ i r hri_
     injection hv_ with e1_ e2_ e3_
     subst e1_
     subst e3_
     have HRC := zH h1_
     have HPT := zH h2_
     clear hri_ hp_ h1_ h2_ e2_
     go_upto_region 5 with fail
     refine wl ?_
     refine zI3 (Hp.start _) (.int .i64 (i : Int)) _ (.int .i64 ((rs.length : Nat) : Int)) ?_
     refine zp (.bool true) (by exact ezl (e := (dec_t (by omega)))) ?_
     go_upto_region 7 with fail
     refine wl ?_
     refine zq (.int .i64 0) ?_
     have HT2 := zH (show tot (rs.take i) + r.length <= 4096 from by have h_ := tot_succ HRI.out; have h2_ := tot_take rs (i + 1); have h3_ := okR_tot HV.out; omega)
     go_wp2_with fail
     go_loopg [7, 9] (r.length) (fun cq v75 v76 wr => ∃ (k : Nat) (m2 : Nat) (es2 : List R1E) (A2 : Option Addr) (c2 : Nat), cq = r.length - k /\ v75 = .slice A2 m2 c2 /\ v76 = .int .i64 (k : Int) /\ (k <= r.length) /\ (m2 = es2.length /\ m2 <= tot (rs.take i) + k) /\ (es2.map R1E.q = refP (rs.take i) ++ (r.take k).map (fun p => (p.2 : Rat))) /\ (∀ e, e ∈ es2 -> e.Ok 24 wr) /\ Hp w wr [.blk X1 24 [.int .i64 a.1, .int .i64 a.2], .blk X6 24 [.int .i64 b.1, .int .i64 b.2], .row 34 4 (.slice A2 m2 c2) (m2) (List.flatMap R1E.cells es2)] /\ Dig w66 wr)
     case atStart => exact ⟨0, m, es, A1, c1, rfl, rfl, rfl, Nat.zero_le _, ⟨HM.out.1, HM.out.2⟩, (by rw [HES.out]; simp), (fun g_ hg_ => (HOE.out g_ hg_)), H68.out, Dig.refl _⟩
     obtain ⟨k, m2, es2, A2, c2, rfl, rfl, rfl, q_HKU, q_HM2, q_HES2, q_HOE2, hh_, hd_⟩ := hrel
     generalize wr = w77 at *
     have HKU := zH q_HKU
     clear q_HKU
     have HM2 := zH q_HM2
     clear q_HM2
     have HES2 := zH q_HES2
     clear q_HES2
     have HOE2 := zH q_HOE2
     clear q_HOE2
     have H79 := zH hh_
     have D79 := zH hd_
     clear hh_ hd_ H68
     rcases emH (k < r.length) with HLU | HLU
     ·have hlu := HLU.out
      have hr0 : r ≠ [] := by intro h_; rw [h_] at hlu; simp at hlu
      obtain ⟨gr, ofr, rfl, hpa_⟩ := HPT.out hr0
      obtain ⟨p, hp_⟩ : ∃ p, r[k]? = some p := ⟨_, List.getElem?_eq_getElem hlu⟩
      have HPK := zH hp_
      have HPR := zH (ptAt_range hpa_ hp_)
      have op := okP_out (okR_ptk HV.out HRI.out hp_)
      have hm2 := HM2.out.2
      have ht2 := HT2.out
      clear hp_ hpa_
      go_upto_region 8 with fail
      refine wl ?_
      refine zI3 (Hp.start _) (.int .i64 (k : Int)) _ (.int .i64 (i : Int)) ?_
      refine zp (.pointer (some ⟨g, off + i, none⟩)) (by exact ezi (k := i) Tryz.underlying22 (l := hlt) (f := (show off + i = off + i * 1 by omega))) ?_
      refine ze g (off + i) (.slice (some ⟨gr, ofr, none⟩) r.length cb) (range_one (H79.out.ext.get HRC.out)) ?_
      refine zq (.int .i64 ((r.length : Nat) : Int)) ?_
      refine zp (.bool true) (by exact ezl (e := (dec_t (by omega)))) ?_
      go_upto_region 10 with fail
      refine wl ?_
      refine zI3 (Hp.start _) _ _ (.int .i64 (i : Int)) ?_
      refine zp (.pointer (some ⟨g, off + i, none⟩)) (by exact ezi (k := i) Tryz.underlying22 (l := hlt) (f := (show off + i = off + i * 1 by omega))) ?_
      refine ze g (off + i) (.slice (some ⟨gr, ofr, none⟩) r.length cb) (range_one (H79.out.ext.get HRC.out)) ?_
      refine zq (.int .i64 (k : Int)) ?_
      refine zp (.pointer (some ⟨gr, ofr + k * 2, none⟩)) (by exact ezi (k := k) Tryz.underlying36 (l := hlu) (f := rfl)) ?_
      refine zq (.pointer (some ⟨gr, ofr + k * 2 + 1, none⟩)) ?_
      refine ze gr (ofr + k * 2 + 1) (.int .i64 p.2) (range_part (range_ext HPR.out H79.out.ext) 1 1) ?_
      refine zc (q03From p.2 _ (by omega) (by omega)) ?_
      rintro e w94 ⟨c_, rfl, hc_, hx⟩
      have H96 := zH (H79.out.step hx)
      have D96 := zH (Dig.of_ext hx)
      obtain ⟨r95, rfl, hr_⟩ := hc_
      have R95 := zH hr_
      have B95 := zH (rl_i64 p.2 (by omega) (by omega))
      clear hr_ hx
      refine zn ?_
      refine zp (w' := (w94.alloc (.cells ([.bool r95.n, .slice r95.p r95.l r95.c, .bool r95.m, .slice r95.p2 r95.l2 r95.c2] : List Value).toArray 34))) (.slice (some ⟨w94.heap.size, 0, none⟩) 1 1) (by go_simp) ?_
      refine mv_app rR _ _ _ rR elRat rR H96.out (ix := 2) rR 1 1 [.bool r95.n, .slice r95.p r95.l r95.c, .bool r95.m, .slice r95.p2 r95.l2 r95.c2] rR rfl (by simp [Value.oneCell']) (by simp [NoUL]) dC (by unfold maxLen; exact (by omega)) (by omega) ?_
      intro g99 cp100 w98 hf hh hd hg
      have Fg99 := zH hf
      clear hf
      rw [show List.flatMap R1E.cells es2 ++ [.bool r95.n, .slice r95.p r95.l r95.c, .bool r95.m, .slice r95.p2 r95.l2 r95.c2] = _ from flat_snoc R1E.cells _ (⟨r95, (((p.2) : Int) : Rat)⟩ : R1E)] at hh
      have H101 := hN hh
      have D101 := zH (hd)
      clear hh hd hg
      try simp only [Act.put, zA, zB, zC]
      refine zq (.slice (some ⟨g99, 0, none⟩) (m2 + 1) cp100) ?_
      go_upto_region 9 with fail
      refine wl ?_
      refine zq (.int .i64 (k : Int)) ?_
      refine zp (.int .i64 ((k + 1 : Nat) : Int)) (by exact ez1 (by omega)) ?_
      refine zq (.int .i64 ((k + 1 : Nat) : Int)) ?_
      have DD107 := tD D96 D101
      have DD108 := tD (tD D79 D96) D101
      go_wp2_with fail
      go_roundg (r.length - (k + 1))
      case measure => exact (by omega)
      case rel => exact ⟨k + 1, m2 + 1, es2 ++ [(⟨r95, (((p.2) : Int) : Rat)⟩ : R1E)], some ⟨g99, 0, none⟩, cp100, rfl, rfl, (by go_num), hlu, ⟨by rw [List.length_append, <- HM2.out.1]; rfl, by omega⟩, (by rw [List.map_append, HES2.out, refR_take HPK.out, <- List.append_assoc]; rfl), (fun g_ hg_ => by rcases List.mem_append.1 hg_ with h_ | h_; exact ((HOE2.out g_ h_).dig DD107.out); rw [List.mem_singleton] at h_; rw [h_]; exact ⟨(R95.out.dig D101.out), Nat.le_trans B95.out (by decide)⟩), H101.out, DD108.out⟩
     have hlu := HLU.out
     have hku := HKU.out
     obtain rfl : k = r.length := by omega
     go_upto_region 8 with fail
     refine wl ?_
     refine zI3 (Hp.start _) (.int .i64 ((r.length : Nat) : Int)) _ (.int .i64 (i : Int)) ?_
     refine zp (.pointer (some ⟨g, off + i, none⟩)) (by exact ezi (k := i) Tryz.underlying22 (l := hlt) (f := (show off + i = off + i * 1 by omega))) ?_
     refine ze g (off + i) (.slice B r.length cb) (range_one (H79.out.ext.get HRC.out)) ?_
     refine zq (.int .i64 ((r.length : Nat) : Int)) ?_
     refine zp (.bool false) (by exact ezl (e := (dec_f (Int.lt_irrefl _)))) ?_
     go_upto_region 6 with fail
     refine wl ?_
     refine zq (.int .i64 (i : Int)) ?_
     refine zp (.int .i64 ((i + 1 : Nat) : Int)) (by exact ez1 (by omega)) ?_
     refine zq (.int .i64 ((i + 1 : Nat) : Int)) ?_
     have DD118 := tD D68 D79
     go_wp2_with fail
     go_roundg (rs.length - (i + 1))
     case measure => exact (by omega)
     case rel => exact ⟨i + 1, m2, es2, A2, c2, rfl, rfl, (by go_num), hlt, ⟨HM2.out.1, by have h_ := HM2.out.2; have h2_ := tot_succ HRI.out; omega⟩, (by rw [HES2.out, List.take_length, refP_take HRI.out]), (fun g_ hg_ => (HOE2.out g_ hg_)), H79.out, DD118.out⟩
    have hlt := HLT.out
    have hki := HKI.out
    obtain rfl : i = rs.length := by omega
    go_upto_region 5 with fail
    refine wl ?_
    refine zI3 (Hp.start _) (.int .i64 ((rs.length : Nat) : Int)) _ (.int .i64 ((rs.length : Nat) : Int)) ?_
    refine zp (.bool false) (by exact ezl (e := (dec_f (Int.lt_irrefl _)))) ?_
    have HEP := zH (show es.map R1E.q = refP rs from by rw [HES.out, List.take_length])
    have HMP := zH (show m = es.length /\ m <= 4096 from ⟨HM.out.1, by have h_ := HM.out.2; rw [List.take_length] at h_; exact Nat.le_trans h_ (okR_tot HV.out)⟩)
    go_upto_region 11 with fail
    refine wl ?_
    refine zI1 (Hp.start _) _ ?_
    refine zc (redges_any _ rs _ (HU.out.ext H68.out.ext) HN.out HR.out) ?_
    rintro e w124 ⟨Ae, nE_, ce, rfl, rfl, hrow_, hx⟩
    obtain ⟨Ae2_, ce2_, hv_, hA_⟩ := RowN.form hrow_
    obtain rfl : Ae = Ae2_ := by injection hv_
    have HAE := zH hA_
    clear hA_ hv_
    have H125 := zH (show Hp w w124 [.blk X1 24 [.int .i64 a.1, .int .i64 a.2], .blk X6 24 [.int .i64 b.1, .int .i64 b.2], ro 34 4 A1 m c1 R1E.cells es, ro 59 4 Ae ((edgesOf rs).length) ce edC (edgesOf rs)] from H68.out.addRow hx hrow_)
    have D125 := zH (Dig.of_ext hx)
    clear hrow_ hx
    refine zn ?_
    refine zI1 (Hp.start _) _ ?_
    go_upto_region 12 with fail
    refine wl ?_
    refine zq (.int .i64 0) ?_
    have HEL := zH (edgO_len rs)
    have HED := zH (edgesOf_t HV.out)
    go_wp2_with fail
    go_loopg [7, 11] ((edgesOf rs).length) (fun cq v129 v130 wr => ∃ (i : Nat) (m3 : Nat) (es3 : List R1E) (A3 : Option Addr) (c3 : Nat), cq = ((edgesOf rs).length) - i /\ v129 = .slice A3 m3 c3 /\ v130 = .int .i64 (i : Int) /\ (i <= (edgesOf rs).length) /\ (m3 = es3.length /\ m3 <= 4096 + 4100 * i) /\ (es3.map R1E.q = refP rs ++ refC a b [] ((edgesOf rs).take i)) /\ (∀ e, e ∈ es3 -> e.Ok 24 wr) /\ Hp w wr [.blk X1 24 [.int .i64 a.1, .int .i64 a.2], .blk X6 24 [.int .i64 b.1, .int .i64 b.2], .row 34 4 (.slice A3 m3 c3) (m3) (List.flatMap R1E.cells es3), .row 59 4 (.slice Ae ((edgesOf rs).length) ce) ((edgesOf rs).length) (List.flatMap edC (edgesOf rs))] /\ Dig w124 wr)
    case atStart => exact ⟨0, m, es, A1, c1, rfl, rfl, rfl, Nat.zero_le _, ⟨HMP.out.1, HMP.out.2⟩, (by rw [HEP.out]; simp [refC]), (fun g_ hg_ => (HOE.out g_ hg_).dig D125.out), H125.out, Dig.refl _⟩
    obtain ⟨i, m3, es3, A3, c3, rfl, rfl, rfl, q_HKI3, q_HM3, q_HES3, q_HOE3, hh_, hd_⟩ := hrel
    generalize wr = w131 at *
    have HKI3 := zH q_HKI3
    clear q_HKI3
    have HM3 := zH q_HM3
    clear q_HM3
    have HES3 := zH q_HES3
    clear q_HES3
    have HOE3 := zH q_HOE3
    clear q_HOE3
    have H133 := zH hh_
    have D133 := zH hd_
    clear hh_ hd_ H125
    rcases emH (i < (edgesOf rs).length) with HLT | HLT
    ·have hlt := HLT.out
     have hel := HEL.out
     obtain ⟨ge, rfl⟩ := HAE.out (by omega)
     obtain ⟨x, hx_⟩ : ∃ x, (edgesOf rs)[i]? = some x := ⟨_, List.getElem?_eq_getElem hlt⟩
     have HX := zH hx_
     have HOX := zH (edgO_ok rs x (List.mem_of_getElem? hx_))
     clear hx_
     have hm3 := HM3.out.2
     go_upto_region 13 with fail
     refine wl ?_
     refine zI3 (Hp.start _) (.int .i64 (i : Int)) _ (.int .i64 (((edgesOf rs).length : Nat) : Int)) ?_
     refine zp (.bool true) (by exact ezl (e := (dec_t (by omega)))) ?_
     go_upto_region 15 with fail
     refine wl ?_
     refine zq (.int .i64 0) ?_
     go_wp2_with fail
     go_loopg [7, 12] (i) (fun cq v140 v141 wr => ∃ (k : Nat) (m4 : Nat) (es4 : List R1E) (A4 : Option Addr) (c4 : Nat), cq = i - k /\ v140 = .slice A4 m4 c4 /\ v141 = .int .i64 (k : Int) /\ (k <= i) /\ (m4 = es4.length /\ m4 <= 4096 + 4100 * i + k) /\ (es4.map R1E.q = refP rs ++ refC a b [] ((edgesOf rs).take i) ++ ((edgesOf rs).take k).flatMap (fun o => segL x o)) /\ (∀ e, e ∈ es4 -> e.Ok 24 wr) /\ Hp w wr [.blk X1 24 [.int .i64 a.1, .int .i64 a.2], .blk X6 24 [.int .i64 b.1, .int .i64 b.2], .row 34 4 (.slice A4 m4 c4) (m4) (List.flatMap R1E.cells es4), .row 59 4 (.slice (some ⟨ge, 0, none⟩) ((edgesOf rs).length) ce) ((edgesOf rs).length) (List.flatMap edC (edgesOf rs))] /\ Dig w131 wr)
     case atStart => exact ⟨0, m3, es3, A3, c3, rfl, rfl, rfl, Nat.zero_le _, ⟨HM3.out.1, HM3.out.2⟩, (by rw [HES3.out]; simp), (fun g_ hg_ => (HOE3.out g_ hg_)), H133.out, Dig.refl _⟩
     obtain ⟨k, m4, es4, A4, c4, rfl, rfl, rfl, q_HKU, q_HM4, q_HES4, q_HOE4, hh_, hd_⟩ := hrel
     generalize wr = w142 at *
     have HKU := zH q_HKU
     clear q_HKU
     have HM4 := zH q_HM4
     clear q_HM4
     have HES4 := zH q_HES4
     clear q_HES4
     have HOE4 := zH q_HOE4
     clear q_HOE4
     have H144 := zH hh_
     have D144 := zH hd_
     clear hh_ hd_ H133
     rcases emH (k < i) with HLU | HLU
     ·have hlu0 := HLU.out
      go_upto_region 16 with fail
      refine wl ?_
      refine zI2 (Hp.start _) (.int .i64 (k : Int)) (.int .i64 (i : Int)) ?_
      refine zp (.bool true) (by exact ezl (e := (dec_t (by omega)))) ?_
      have hlu := HLU.out
      obtain ⟨o, ho_⟩ : ∃ o, (edgesOf rs)[k]? = some o := ⟨_, List.getElem?_eq_getElem (Nat.lt_trans hlu hlt)⟩
      have HO := zH ho_
      have HOO := zH (edgO_ok rs o (List.mem_of_getElem? ho_))
      clear ho_
      have hm4 := HM4.out.2
      have hlk : k < (edgesOf rs).length := Nat.lt_trans hlu hlt
      go_upto_region 18 with fail
      refine zy ?_
      have H149 := zH (H144.out.step (Ext.refl w142).drew)
      have D149 := zH (Dig.of_ext (w := w142) zb)
      refine zJ2 (Hp.start _) zb (bs 30 3) 0 1 _ (.int .i64 (i : Int)) ?_
      refine zu 2 (bs 30 7) (v := .pointer (some ⟨ge, i * 4, none⟩)) zb ?_ (hv := by intro w hSw; exact ezi (k := i) Tryz.underlying58 (l := hlt) (f := (Nat.zero_add _).symm))
      refine zJ1 (Hp.start _) zb (bs 30 15) 3 _ ?_
      refine zg 4 (bs 30 31) ge (i * 4) [.int .i64 x.1.1, .int .i64 x.1.2] (range_part (H144.out.elem (f := edC) (i := 3) rR edC_len HX.out) 0 2) Tryz.underlying24 zb ?_
      refine zJ2 (Hp.start _) zb (bs 30 127) 5 6 _ (.int .i64 (i : Int)) ?_
      refine zu 7 (bs 30 255) (v := .pointer (some ⟨ge, i * 4, none⟩)) zb ?_ (hv := by intro w hSw; exact ezi (k := i) Tryz.underlying58 (l := hlt) (f := (Nat.zero_add _).symm))
      refine mX 8 (bs 30 511) (.pointer (some ⟨ge, i * 4 + 2, none⟩)) zb ?_
      refine zg 9 (bs 30 1023) ge (i * 4 + 2) [.int .i64 x.2.1, .int .i64 x.2.2] (range_part (H144.out.elem (f := edC) (i := 3) rR edC_len HX.out) 2 2) Tryz.underlying24 zb ?_
      refine zJ2 (Hp.start _) zb (bs 30 4095) 10 11 _ (.int .i64 (k : Int)) ?_
      refine zu 12 (bs 30 8191) (v := .pointer (some ⟨ge, k * 4, none⟩)) zb ?_ (hv := by intro w hSw; exact ezi (k := k) Tryz.underlying58 (l := hlk) (f := (Nat.zero_add _).symm))
      refine zJ1 (Hp.start _) zb (bs 30 16383) 13 _ ?_
      refine zg 14 (bs 30 32767) ge (k * 4) [.int .i64 o.1.1, .int .i64 o.1.2] (range_part (H144.out.elem (f := edC) (i := 3) rR edC_len HO.out) 0 2) Tryz.underlying24 zb ?_
      refine zJ2 (Hp.start _) zb (bs 30 131071) 15 16 _ (.int .i64 (k : Int)) ?_
      refine zu 17 (bs 30 262143) (v := .pointer (some ⟨ge, k * 4, none⟩)) zb ?_ (hv := by intro w hSw; exact ezi (k := k) Tryz.underlying58 (l := hlk) (f := (Nat.zero_add _).symm))
      refine mX 18 (bs 30 524287) (.pointer (some ⟨ge, k * 4 + 2, none⟩)) zb ?_
      refine zg 19 (bs 30 1048575) ge (k * 4 + 2) [.int .i64 o.2.1, .int .i64 o.2.2] (range_part (H144.out.elem (f := edC) (i := 3) rR edC_len HO.out) 2 2) Tryz.underlying24 zb ?_
      refine FN.go2 (j1 := ⟨25, some 13, 34, [.bool false, .slice none 0 0, .bool false, .slice none 0 0]⟩) (j2 := ⟨26, some 14, 34, [.bool false, .slice none 0 0, .bool false, .slice none 0 0]⟩) (b := w142) ?_ zb
      refine gN 20 (bs 30 2097151) (fk (fk trivial)) zb.size (fun xq hxq => ((rsegments_any x.1 x.2 o.1 o.2 _ HOX.out.1 HOX.out.2 HOO.out.1 HOO.out.2).mono (fun _ _ h_ => SegRet.mix17 h_))) (by rintro x_ e x2_ ⟨r168, s168, rfl, hi_, hx⟩; exact hx) ?_
      rintro xq e w167 hxq ⟨r168, s168, rfl, hi_, hx⟩
      replace hx := hxq.trans hx
      clear hxq
      have H169 := zH (H149.out.step hx)
      have D169 := zH (show Dig w142.drew w167 from Dig.of_ext hx)
      have S171 := zH (zb.trans hx)
      have I168 := zH hi_
      clear hi_ hx
      refine ⟨_, rfl, ?_⟩
      try simp only [Act.put, zA, zB, zC]
      refine gT 21 (bs 30 4194303) _ ?_
      refine gT 22 (bs 30 8388607) _ ?_
      refine gT 23 (bs 30 16777215) _ ?_
      refine gT 24 (bs 30 33554431) (.int .i64 (segN x.1 x.2 o.1 o.2)) ?_
      refine gE2 (bs 30 134217727) (fk (fk trivial)) S171.out.size H144.out H169.out ?_
      intro X176 X177 w178 hx hh hg0 hg1 hs
      have H179 := hN hh
      have D179 := zH (Dig.of_ext hx)
      have S181 := zH (show Ext w142 w178 from hs)
      have G182 := zH (show w142.heap.size <= X176 from hg0)
      have G183 := zH (show w142.heap.size <= X177 from hg1)
      clear hh hx hs hg0 hg1
      try simp only [Act.put, zA, zB, zC]
      refine bS 4 27 (bs 30 268435455) (rc r168) H179.out S181.out G182.out ?_
      intro w184 H185 D185 S187
      refine bS 5 28 (bs 30 536870911) (rc s168) H185.out S187.out G183.out ?_
      intro w188 H189 D189 S191
      refine zx 29 (bs 30 1073741823) (.int .i64 (segN x.1 x.2 o.1 o.2)) S191.out ?_
      refine wpAnyH_done kR ?_ _
      rcases emH (segN x.1 x.2 o.1 o.2 = 1) with HSG | HSG
      ·have S168 := zH (I168.out HSG.out).2
       have C168 := zH (rl_segXY HOX.out.1 HOX.out.2 HOO.out.1 HOO.out.2).2
       go_upto_region 19 with fail
       refine wl ?_
       refine zq (.int .i64 (segN x.1 x.2 o.1 o.2)) ?_
       refine zp (.bool true) (by exact ezq (e := (dec_t HSG.out))) ?_
       go_upto_region 20 with fail
       refine wl ?_
       refine zI2 H189.out _ _ ?_
       refine zp (w' := (w188.alloc (.cells ([.bool s168.n, .slice s168.p s168.l s168.c, .bool s168.m, .slice s168.p2 s168.l2 s168.c2] : List Value).toArray 34))) (.slice (some ⟨w188.heap.size, 0, none⟩) 1 1) (by go_simp) ?_
       refine mv_app rR _ _ _ rR elRat rR H189.out (ix := 2) rR 1 1 [.bool s168.n, .slice s168.p s168.l s168.c, .bool s168.m, .slice s168.p2 s168.l2 s168.c2] rR rfl (by simp [Value.oneCell']) (by simp [NoUL]) dC (by unfold maxLen; exact (by omega)) (by omega) ?_
       intro g198 cp199 w197 hf hh hd hg
       have Fg198 := zH hf
       clear hf
       rw [show List.flatMap R1E.cells es4 ++ [.bool s168.n, .slice s168.p s168.l s168.c, .bool s168.m, .slice s168.p2 s168.l2 s168.c2] = _ from flat_snoc R1E.cells _ (⟨s168, (segY x.1 x.2 o.1 o.2)⟩ : R1E)] at hh
       have H200 := hN hh
       have D200 := zH (hd)
       clear hh hd hg
       try simp only [Act.put, zA, zB, zC]
       refine zq (.slice (some ⟨g198, 0, none⟩) (m4 + 1) cp199) ?_
       go_upto_region 17 with fail
       refine wl ?_
       refine zq (.int .i64 (k : Int)) ?_
       refine zp (.int .i64 ((k + 1 : Nat) : Int)) (by exact ez1 (by omega)) ?_
       refine zq (.int .i64 ((k + 1 : Nat) : Int)) ?_
       have DD206 := tD (tD (tD (tD (tD D149 D169) D179) D185) D189) D200
       have DD207 := tD (tD (tD D179 D185) D189) D200
       have DD208 := tD (tD (tD (tD (tD (tD D144 D149) D169) D179) D185) D189) D200
       go_wp2_with fail
       go_roundg (i - (k + 1))
       case measure => exact (by omega)
       case rel => exact ⟨k + 1, m4 + 1, es4 ++ [(⟨s168, (segY x.1 x.2 o.1 o.2)⟩ : R1E)], some ⟨g198, 0, none⟩, cp199, rfl, rfl, (by go_num), hlu, ⟨by rw [List.length_append, <- HM4.out.1]; rfl, by omega⟩, (by rw [List.map_append, HES4.out, segR_take HO.out, segL_t HSG.out, <- List.append_assoc]; rfl), (fun g_ hg_ => by rcases List.mem_append.1 hg_ with h_ | h_; exact ((HOE4.out g_ h_).dig DD206.out); rw [List.mem_singleton] at h_; rw [h_]; exact ⟨(S168.out.dig DD207.out), Nat.le_trans C168.out (by decide)⟩), H200.out.take 4, DD208.out⟩
      go_upto_region 19 with fail
      refine wl ?_
      refine zq (.int .i64 (segN x.1 x.2 o.1 o.2)) ?_
      refine zp (.bool false) (by exact ezq (e := (dec_f HSG.out))) ?_
      go_upto_region 17 with fail
      refine wl ?_
      refine zq (.int .i64 (k : Int)) ?_
      refine zp (.int .i64 ((k + 1 : Nat) : Int)) (by exact ez1 (by omega)) ?_
      refine zq (.int .i64 ((k + 1 : Nat) : Int)) ?_
      have DD214 := tD (tD (tD (tD D149 D169) D179) D185) D189
      have DD215 := tD (tD (tD (tD (tD D144 D149) D169) D179) D185) D189
      go_wp2_with fail
      go_roundg (i - (k + 1))
      case measure => exact (by omega)
      case rel => exact ⟨k + 1, m4, es4, A4, c4, rfl, rfl, (by go_num), hlu, ⟨HM4.out.1, by omega⟩, (by rw [HES4.out, segR_take HO.out, segL_f HSG.out, List.append_nil]), (fun g_ hg_ => ((HOE4.out g_ hg_).dig DD214.out)), H189.out.take 4, DD215.out⟩
     have hlu := HLU.out
     have hku := HKU.out
     obtain rfl : i = k := by omega
     have hm4 := HM4.out.2
     go_upto_region 16 with fail
     refine wl ?_
     refine zI2 (Hp.start _) (.int .i64 (i : Int)) (.int .i64 (i : Int)) ?_
     refine zp (.bool false) (by exact ezl (e := (dec_f (Int.lt_irrefl _)))) ?_
     have HE5 := zH (show es4.map R1E.q = refP rs ++ refC a b [] ((edgesOf rs).take i) ++ ((edgesOf rs).take i).flatMap (fun o => segL x o) from HES4.out)
     go_upto_region 21 with fail
     refine zy ?_
     have H219 := zH (H144.out.step (Ext.refl w142).drew)
     have D219 := zH (Dig.of_ext (w := w142) zb)
     refine zJ2 (Hp.start _) zb (bs 19 3) 0 1 _ (.int .i64 (i : Int)) ?_
     refine zu 2 (bs 19 7) (v := .pointer (some ⟨ge, i * 4, none⟩)) zb ?_ (hv := by intro w hSw; exact ezi (k := i) Tryz.underlying58 (l := hlt) (f := (Nat.zero_add _).symm))
     refine zJ1 (Hp.start _) zb (bs 19 15) 3 _ ?_
     refine zg 4 (bs 19 31) ge (i * 4) [.int .i64 x.1.1, .int .i64 x.1.2] (range_part (H144.out.elem (f := edC) (i := 3) rR edC_len HX.out) 0 2) Tryz.underlying24 zb ?_
     refine zJ2 (Hp.start _) zb (bs 19 127) 5 6 _ (.int .i64 (i : Int)) ?_
     refine zu 7 (bs 19 255) (v := .pointer (some ⟨ge, i * 4, none⟩)) zb ?_ (hv := by intro w hSw; exact ezi (k := i) Tryz.underlying58 (l := hlt) (f := (Nat.zero_add _).symm))
     refine mX 8 (bs 19 511) (.pointer (some ⟨ge, i * 4 + 2, none⟩)) zb ?_
     refine zg 9 (bs 19 1023) ge (i * 4 + 2) [.int .i64 x.2.1, .int .i64 x.2.2] (range_part (H144.out.elem (f := edC) (i := 3) rR edC_len HX.out) 2 2) Tryz.underlying24 zb ?_
     refine zJ2 H144.out zb (bs 19 4095) 10 11 _ _ ?_
     refine gG 16 (some 16) 34 rz w142 H219.out ?_
     refine gL 12 (bs 19 69631) (bs 19 8191) zb.size H219.out zb (fun xq hxq => ((ryat_any x.1 x.2 a.1 _ ⟨(by omega), (by omega)⟩).mono (fun _ _ h_ => AtRet.mix17 h_))) (by rintro x_ e x2_ ⟨r231, y231, rfl, hy_, hi_, hx⟩; exact hx) ?_
     rintro xq e w230 hxq ⟨r231, y231, rfl, hy_, hi_, hx⟩
     replace hx := hxq.trans hx
     clear hxq
     have H232 := zH (H219.out.step hx)
     have D232 := zH (show Dig w142.drew w230 from Dig.of_ext hx)
     have S234 := zH (zb.trans hx)
     have Y231 := zH hy_
     have I231 := zH hi_
     have B231 := zH (show Nm.rl (yatQ x.1 x.2 a.1) <= 20 from rl_yat HOX.out.1 HOX.out.2 ⟨(by omega), (by omega)⟩)
     clear hi_ hy_ hx
     refine ⟨_, rfl, ?_⟩
     try simp only [Act.put, zA, zB, zC]
     refine gK 13 (bs 19 73727) (bs 19 16383) _ S234.out ?_
     refine gK 14 (bs 19 81919) (bs 19 32767) _ S234.out ?_
     refine gK 15 (bs 19 98303) (bs 19 65535) (.bool y231) S234.out ?_
     refine gE (bs 19 131071) S234.out.size H232.out S234.out ?_
     intro X238 w239 hx hh hs hge
     have H240 := hN hh
     have D240 := zH (Dig.of_ext hx)
     have S242 := zH (show Ext w142 w239 from hs)
     have G243 := zH (show w142.heap.size <= X238 from hge)
     clear hh hx hge hs
     try simp only [Act.put, zA, zB, zC]
     refine bS 4 17 (bs 19 262143) (rc r231) H240.out S242.out G243.out ?_
     intro w244 H245 D245 S247
     refine zx 18 (bs 19 524287) (.bool y231) S247.out ?_
     refine wpAnyH_done kR ?_ _
     go_upto_region 22 with fail
     refine wl ?_
     refine zq (.bool y231) ?_
     go_upto_if 129 with fail
     go_cut [7] (fun v250 wx => ∃ (m6 : Nat) (es6 : List R1E) (A6 : Option Addr) (c6 : Nat), v250 = .slice A6 m6 c6 /\ (m6 = es6.length /\ m6 <= 4096 + 4100 * i + i + 1) /\ (es6.map R1E.q = refP rs ++ refC a b [] ((edgesOf rs).take i) ++ ((edgesOf rs).take i).flatMap (fun o => segL x o) ++ yatL x a.1) /\ (∀ e, e ∈ es6 -> e.Ok 24 wx) /\ Hp w wx [.blk X1 24 [.int .i64 a.1, .int .i64 a.2], .blk X6 24 [.int .i64 b.1, .int .i64 b.2], .row 34 4 (.slice A6 m6 c6) (m6) (List.flatMap R1E.cells es6), .row 59 4 (.slice (some ⟨ge, 0, none⟩) ((edgesOf rs).length) ce) ((edgesOf rs).length) (List.flatMap edC (edgesOf rs)), .blk X238 34 [.bool r231.n, .slice r231.p r231.l r231.c, .bool r231.m, .slice r231.p2 r231.l2 r231.c2]] /\ Dig w244 wx)
     case first =>
      rcases emH (yatC x.1 x.2 a.1) with HCA | HCA
      ·obtain rfl : y231 = true := Y231.out.2 HCA.out
       have R231 := zH (I231.out HCA.out)
       go_upto_region 23 with fail
       refine wl ?_
       refine zI2 H245.out _ _ ?_
       refine zp (w' := (w244.alloc (.cells ([.bool r231.n, .slice r231.p r231.l r231.c, .bool r231.m, .slice r231.p2 r231.l2 r231.c2] : List Value).toArray 34))) (.slice (some ⟨w244.heap.size, 0, none⟩) 1 1) (by go_simp) ?_
       refine mv_app rR _ _ _ rR elRat rR H245.out (ix := 2) rR 1 1 [.bool r231.n, .slice r231.p r231.l r231.c, .bool r231.m, .slice r231.p2 r231.l2 r231.c2] rR rfl (by simp [Value.oneCell']) (by simp [NoUL]) dC (by unfold maxLen; exact (by omega)) (by omega) ?_
       intro g254 cp255 w253 hf hh hd hg
       have Fg254 := zH hf
       clear hf
       rw [show List.flatMap R1E.cells es4 ++ [.bool r231.n, .slice r231.p r231.l r231.c, .bool r231.m, .slice r231.p2 r231.l2 r231.c2] = _ from flat_snoc R1E.cells _ (⟨r231, (yatQ x.1 x.2 a.1)⟩ : R1E)] at hh
       have H256 := hN hh
       have D256 := zH (hd)
       clear hh hd hg
       try simp only [Act.put, zA, zB, zC]
       refine zq (.slice (some ⟨g254, 0, none⟩) (m4 + 1) cp255) ?_
       have DD259 := tD (tD (tD (tD D219 D232) D240) D245) D256
       have DD260 := tD (tD D240 D245) D256
       go_wp2_with fail
       go_meet
       exact ⟨m4 + 1, es4 ++ [(⟨r231, (yatQ x.1 x.2 a.1)⟩ : R1E)], some ⟨g254, 0, none⟩, cp255, rfl, ⟨by rw [List.length_append, <- HM4.out.1]; rfl, by omega⟩, (by rw [List.map_append, HE5.out, yatL_t HCA.out]; rfl), (fun g_ hg_ => by rcases List.mem_append.1 hg_ with h_ | h_; exact ((HOE4.out g_ h_).dig DD259.out); rw [List.mem_singleton] at h_; rw [h_]; exact ⟨(R231.out.dig DD260.out), Nat.le_trans B231.out (by decide)⟩), H256.out, D256.out⟩
      obtain rfl : y231 = false := Bool.eq_false_iff.2 (fun h_ => HCA.out (Y231.out.1 h_))
      have DD261 := tD (tD (tD D219 D232) D240) D245
      go_wp2_with fail
      go_meet
      exact ⟨m4, es4, A4, c4, rfl, ⟨HM4.out.1, by omega⟩, (by rw [HE5.out, yatL_f HCA.out, List.append_nil]), (fun g_ hg_ => ((HOE4.out g_ hg_).dig DD261.out)), H245.out, (Dig.refl _)⟩
     obtain ⟨m6, es6, A6, c6, rfl, q_HM6, q_HE6, q_HO6, hh_, hd_⟩ := hcut
     generalize wc = w262 at *
     have HM6 := zH q_HM6
     clear q_HM6
     have HE6 := zH q_HE6
     clear q_HE6
     have HO6 := zH q_HO6
     clear q_HO6
     have H264 := zH hh_
     have D264 := zH hd_
     clear hh_ hd_
     have hm6 := HM6.out.2
     go_upto_region 24 with fail
     refine zy ?_
     have H265 := zH (H264.out.step (Ext.refl w262).drew)
     have D265 := zH (Dig.of_ext (w := w262) zb)
     refine zJ2 (Hp.start _) zb (bs 19 3) 0 1 _ (.int .i64 (i : Int)) ?_
     refine zu 2 (bs 19 7) (v := .pointer (some ⟨ge, i * 4, none⟩)) zb ?_ (hv := by intro w hSw; exact ezi (k := i) Tryz.underlying58 (l := hlt) (f := (Nat.zero_add _).symm))
     refine zJ1 (Hp.start _) zb (bs 19 15) 3 _ ?_
     refine zg 4 (bs 19 31) ge (i * 4) [.int .i64 x.1.1, .int .i64 x.1.2] (range_part (H264.out.elem (f := edC) (i := 3) rR edC_len HX.out) 0 2) Tryz.underlying24 zb ?_
     refine zJ2 (Hp.start _) zb (bs 19 127) 5 6 _ (.int .i64 (i : Int)) ?_
     refine zu 7 (bs 19 255) (v := .pointer (some ⟨ge, i * 4, none⟩)) zb ?_ (hv := by intro w hSw; exact ezi (k := i) Tryz.underlying58 (l := hlt) (f := (Nat.zero_add _).symm))
     refine mX 8 (bs 19 511) (.pointer (some ⟨ge, i * 4 + 2, none⟩)) zb ?_
     refine zg 9 (bs 19 1023) ge (i * 4 + 2) [.int .i64 x.2.1, .int .i64 x.2.2] (range_part (H264.out.elem (f := edC) (i := 3) rR edC_len HX.out) 2 2) Tryz.underlying24 zb ?_
     refine zJ2 H264.out zb (bs 19 4095) 10 11 _ _ ?_
     refine gG 16 (some 18) 34 rz w262 H265.out ?_
     refine gL 12 (bs 19 69631) (bs 19 8191) zb.size H265.out zb (fun xq hxq => ((ryat_any x.1 x.2 b.1 _ ⟨(by omega), (by omega)⟩).mono (fun _ _ h_ => AtRet.mix17 h_))) (by rintro x_ e x2_ ⟨r277, y277, rfl, hy_, hi_, hx⟩; exact hx) ?_
     rintro xq e w276 hxq ⟨r277, y277, rfl, hy_, hi_, hx⟩
     replace hx := hxq.trans hx
     clear hxq
     have H278 := zH (H265.out.step hx)
     have D278 := zH (show Dig w262.drew w276 from Dig.of_ext hx)
     have S280 := zH (zb.trans hx)
     have Y277 := zH hy_
     have I277 := zH hi_
     have B277 := zH (show Nm.rl (yatQ x.1 x.2 b.1) <= 20 from rl_yat HOX.out.1 HOX.out.2 ⟨(by omega), (by omega)⟩)
     clear hi_ hy_ hx
     refine ⟨_, rfl, ?_⟩
     try simp only [Act.put, zA, zB, zC]
     refine gK 13 (bs 19 73727) (bs 19 16383) _ S280.out ?_
     refine gK 14 (bs 19 81919) (bs 19 32767) _ S280.out ?_
     refine gK 15 (bs 19 98303) (bs 19 65535) (.bool y277) S280.out ?_
     refine gE (bs 19 131071) S280.out.size H278.out S280.out ?_
     intro X284 w285 hx hh hs hge
     have H286 := hN hh
     have D286 := zH (Dig.of_ext hx)
     have S288 := zH (show Ext w262 w285 from hs)
     have G289 := zH (show w262.heap.size <= X284 from hge)
     clear hh hx hge hs
     try simp only [Act.put, zA, zB, zC]
     refine bS 5 17 (bs 19 262143) (rc r277) H286.out S288.out G289.out ?_
     intro w290 H291 D291 S293
     refine zx 18 (bs 19 524287) (.bool y277) S293.out ?_
     refine wpAnyH_done kR ?_ _
     go_upto_region 25 with fail
     refine wl ?_
     refine zq (.bool y277) ?_
     rcases emH (yatC x.1 x.2 b.1) with HCB | HCB
     ·obtain rfl : y277 = true := Y277.out.2 HCB.out
      have R277 := zH (I277.out HCB.out)
      go_upto_region 26 with fail
      refine wl ?_
      refine zI2 H291.out _ _ ?_
      refine zp (w' := (w290.alloc (.cells ([.bool r277.n, .slice r277.p r277.l r277.c, .bool r277.m, .slice r277.p2 r277.l2 r277.c2] : List Value).toArray 34))) (.slice (some ⟨w290.heap.size, 0, none⟩) 1 1) (by go_simp) ?_
      refine mv_app rR _ _ _ rR elRat rR H291.out (ix := 2) rR 1 1 [.bool r277.n, .slice r277.p r277.l r277.c, .bool r277.m, .slice r277.p2 r277.l2 r277.c2] rR rfl (by simp [Value.oneCell']) (by simp [NoUL]) dC (by unfold maxLen; exact (by omega)) (by omega) ?_
      intro g299 cp300 w298 hf hh hd hg
      have Fg299 := zH hf
      clear hf
      rw [show List.flatMap R1E.cells es6 ++ [.bool r277.n, .slice r277.p r277.l r277.c, .bool r277.m, .slice r277.p2 r277.l2 r277.c2] = _ from flat_snoc R1E.cells _ (⟨r277, (yatQ x.1 x.2 b.1)⟩ : R1E)] at hh
      have H301 := hN hh
      have D301 := zH (hd)
      clear hh hd hg
      try simp only [Act.put, zA, zB, zC]
      refine zq (.slice (some ⟨g299, 0, none⟩) (m6 + 1) cp300) ?_
      go_upto_region 14 with fail
      refine wl ?_
      refine zq (.int .i64 (i : Int)) ?_
      refine zp (.int .i64 ((i + 1 : Nat) : Int)) (by exact ez1 (by omega)) ?_
      refine zq (.int .i64 ((i + 1 : Nat) : Int)) ?_
      have DD307 := tD (tD (tD (tD D265 D278) D286) D291) D301
      have DD308 := tD (tD D286 D291) D301
      have DD309 := tD (tD (tD (tD (tD (tD (tD (tD (tD (tD (tD D133 D144) D219) D232) D240) D245) D264) D265) D278) D286) D291) D301
      go_wp2_with fail
      go_roundg ((edgesOf rs).length - (i + 1))
      case measure => exact (by omega)
      case rel => exact ⟨i + 1, m6 + 1, es6 ++ [(⟨r277, (yatQ x.1 x.2 b.1)⟩ : R1E)], some ⟨g299, 0, none⟩, cp300, rfl, rfl, (by go_num), hlt, ⟨by rw [List.length_append, <- HM6.out.1]; rfl, by omega⟩, (by rw [List.map_append, HE6.out, refC_take HX.out]; unfold refStep; rw [yatL_t HCB.out]; simp only [List.append_assoc, List.append_nil]; rfl), (fun g_ hg_ => by rcases List.mem_append.1 hg_ with h_ | h_; exact ((HO6.out g_ h_).dig DD307.out); rw [List.mem_singleton] at h_; rw [h_]; exact ⟨(R277.out.dig DD308.out), Nat.le_trans B277.out (by decide)⟩), H301.out.take 4, DD309.out⟩
     obtain rfl : y277 = false := Bool.eq_false_iff.2 (fun h_ => HCB.out (Y277.out.1 h_))
     go_upto_region 14 with fail
     refine wl ?_
     refine zq (.int .i64 (i : Int)) ?_
     refine zp (.int .i64 ((i + 1 : Nat) : Int)) (by exact ez1 (by omega)) ?_
     refine zq (.int .i64 ((i + 1 : Nat) : Int)) ?_
     have DD313 := tD (tD (tD D265 D278) D286) D291
     have DD314 := tD (tD (tD (tD (tD (tD (tD (tD (tD (tD D133 D144) D219) D232) D240) D245) D264) D265) D278) D286) D291
     go_wp2_with fail
     go_roundg ((edgesOf rs).length - (i + 1))
     case measure => exact (by omega)
     case rel => exact ⟨i + 1, m6, es6, A6, c6, rfl, rfl, (by go_num), hlt, ⟨HM6.out.1, by omega⟩, (by rw [HE6.out, refC_take HX.out]; unfold refStep; rw [yatL_f HCB.out]; simp only [List.append_assoc, List.append_nil]), (fun g_ hg_ => ((HO6.out g_ hg_).dig DD313.out)), H291.out.take 4, DD314.out⟩
    have hlt := HLT.out
    have hki := HKI3.out
    obtain rfl : i = (edgesOf rs).length := by omega
    have hel := HEL.out
    have hm3 := HM3.out.2
    go_upto_region 13 with fail
    refine wl ?_
    refine zI3 (Hp.start _) (.int .i64 (((edgesOf rs).length : Nat) : Int)) _ (.int .i64 (((edgesOf rs).length : Nat) : Int)) ?_
    refine zp (.bool false) (by exact ezl (e := (dec_f (Int.lt_irrefl _)))) ?_
    have HALL := zH (show es3.map R1E.q = refAll a b rs from by rw [HES3.out, List.take_length, HED.out]; rfl)
    go_upto_region 27 with fail
    refine zy ?_
    have H319 := zH (H133.out.step (Ext.refl w131).drew)
    have D319 := zH (Dig.of_ext (w := w131) zb)
    refine zJ4 H133.out zb (bs 8 27) 0 1 3 4 _ _ _ _ ?_
    refine mC 2 (bs 8 31) (q03From a.2 _ (by omega) (by omega)) ?_
    rintro e w323 ⟨c_, rfl, hc_, hx⟩
    have H325 := zH (H319.out.step hx)
    have D325 := zH (show Dig w131.drew w323 from Dig.of_ext hx)
    have S327 := zH (zb.trans hx)
    obtain ⟨r324, rfl, hr_⟩ := hc_
    have R324 := zH hr_
    have B324 := zH (rl_i64 a.2 (by omega) (by omega))
    clear hr_ hx
    refine zm S327.out ?_
    refine mC 5 (bs 8 63) (q03From b.2 _ (by omega) (by omega)) ?_
    rintro e w328 ⟨c_, rfl, hc_, hx⟩
    have H330 := zH (H325.out.step hx)
    have D330 := zH (Dig.of_ext hx)
    have S332 := zH (S327.out.trans hx)
    obtain ⟨r329, rfl, hr_⟩ := hc_
    have R329 := zH hr_
    have B329 := zH (rl_i64 b.2 (by omega) (by omega))
    clear hr_ hx
    refine zm S332.out ?_
    refine md_lit (T := 34) (zs := [.bool r324.n, .slice r324.p r324.l r324.c, .bool r324.m, .slice r324.p2 r324.l2 r324.c2, .bool r329.n, .slice r329.p r329.l r329.c, .bool r329.m, .slice r329.p2 r329.l2 r329.c2]) (n := 2) (i := 6) (listed' := (bs 8 127)) rR kR rR (by go_simp) kR H330.out (by simp [NoUL]) ?_
    intro X333 w334 hh hx hge
    have H335 := hN hh
    have D335 := zH (Dig.of_ext hx)
    have S337 := zH (S332.out.trans hx)
    clear hh hx hge
    refine ⟨S337.out, ?_⟩
    try simp only [Act.put, zA, zB, zC]
    refine zJ1 (Hp.start _) S337.out (bs 8 255) 7 _ ?_
    refine wpAnyH_done kR ?_ _
    have H340 := zH (show Hp w w334 [.blk X1 24 [.int .i64 a.1, .int .i64 a.2], .blk X6 24 [.int .i64 b.1, .int .i64 b.2], ro 34 4 A3 m3 c3 R1E.cells es3, ro 59 4 Ae ((edgesOf rs).length) ce edC (edgesOf rs), ro 34 4 (some ⟨X333, 0, none⟩) 2 2 R1E.cells ([(⟨r324, (((a.2) : Int) : Rat)⟩ : R1E), (⟨r329, (((b.2) : Int) : Rat)⟩ : R1E)])] from H335.out.turn (r := none) (i := 4) (e := .blk X333 34 [.bool r324.n, .slice r324.p r324.l r324.c, .bool r324.m, .slice r324.p2 r324.l2 r324.c2, .bool r329.n, .slice r329.p r329.l r329.c, .bool r329.m, .slice r329.p2 r329.l2 r329.c2]) (e' := .row 34 4 (.slice (some ⟨X333, 0, none⟩) 2 2) (2) (List.flatMap R1E.cells ([(⟨r324, (((a.2) : Int) : Rat)⟩ : R1E), (⟨r329, (((b.2) : Int) : Rat)⟩ : R1E)]))) (by rfl) (fun k h => by cases h) (World.grownBy.refl _ _) (H335.out.litRow17 (i := 4) (n := 2) (by rfl) (by rfl) (by decide)) (fun k hk => .inl hk))
    have DD341 := tD D330 D335
    have HOO0 := zH (show ∀ e, e ∈ [(⟨r324, (((a.2) : Int) : Rat)⟩ : R1E), (⟨r329, (((b.2) : Int) : Rat)⟩ : R1E)] -> e.Ok 24 w334 from (by simp only [List.forall_mem_cons, List.not_mem_nil, false_imp_iff, implies_true, and_true]; exact ⟨⟨(R324.out.dig DD341.out), Nat.le_trans B324.out (by decide)⟩, ⟨(R329.out.dig D335.out), Nat.le_trans B329.out (by decide)⟩⟩))
    have HLH := zH (show (((a.2) : Int) : Rat) < (((b.2) : Int) : Rat) from by have h_ := HEV.out.2.2.2; exact_mod_cast h_)
    have DD342 := tD (tD (tD D319 D325) D330) D335
    have HOA := zH (show ∀ e, e ∈ es3 -> e.Ok 24 w334 from fun g_ hg_ => (HOE3.out g_ hg_).dig DD342.out)
    have HFA := zH (H340.out.row (i := 2) (by rfl)).formS
    go_upto_region 28 with fail
    refine wl ?_
    refine zq (.int .i64 0) ?_
    go_wp2_with fail
    go_loopg [20, 21] (m3) (fun cq v344 v345 wr => ∃ (i : Nat) (p : Nat) (es5 : List R1E) (A5 : Option Addr) (c5 : Nat), cq = m3 - i /\ v344 = .slice A5 (p + 2) c5 /\ v345 = .int .i64 (i : Int) /\ (i <= m3) /\ (p + 2 = es5.length /\ p <= i) /\ (es5.map R1E.q = outQ (((a.2) : Int) : Rat) (((b.2) : Int) : Rat) [(((a.2) : Int) : Rat), (((b.2) : Int) : Rat)] ((es3.map R1E.q).take i)) /\ (∀ e, e ∈ es5 -> e.Ok 24 wr) /\ Hp w wr [.blk X1 24 [.int .i64 a.1, .int .i64 a.2], .blk X6 24 [.int .i64 b.1, .int .i64 b.2], .row 34 4 (.slice A3 m3 c3) (m3) (List.flatMap R1E.cells es3), .row 59 4 (.slice Ae ((edgesOf rs).length) ce) ((edgesOf rs).length) (List.flatMap edC (edgesOf rs)), .row 34 4 (.slice A5 (p + 2) c5) (p + 2) (List.flatMap R1E.cells es5)] /\ Dig w334 wr)
    case atStart => exact ⟨0, 0, [(⟨r324, (((a.2) : Int) : Rat)⟩ : R1E), (⟨r329, (((b.2) : Int) : Rat)⟩ : R1E)], some ⟨X333, 0, none⟩, 2, rfl, rfl, rfl, Nat.zero_le _, ⟨rfl, Nat.le_refl _⟩, rfl, HOO0.out, H340.out, Dig.refl _⟩
    obtain ⟨i, p, es5, A5, c5, rfl, rfl, rfl, q_HKI5, q_HM5, q_HES5, q_HOE5, hh_, hd_⟩ := hrel
    generalize wr = w346 at *
    have HKI5 := zH q_HKI5
    clear q_HKI5
    have HM5 := zH q_HM5
    clear q_HM5
    have HES5 := zH q_HES5
    clear q_HES5
    have HOE5 := zH q_HOE5
    clear q_HOE5
    have H348 := zH hh_
    have D348 := zH hd_
    clear hh_ hd_ H340
    rcases emH (i < m3) with HLT | HLT
    ·have hlt := HLT.out
     obtain ⟨ga, rfl⟩ := HFA.out (by omega)
     obtain ⟨go, rfl⟩ := (H348.out.row (i := 4) (by rfl)).formS (by omega)
     obtain ⟨x, hx_⟩ : ∃ x, es3[i]? = some x := ⟨_, List.getElem?_eq_getElem (HM3.out.1 ▸ hlt)⟩
     have HX := zH hx_
     have HXO := zH (HOA.out x (List.mem_of_getElem? hx_))
     have HXI := zH HXO.out.1
     have HXB := zH HXO.out.2
     have HXQ := zH (show (es3.map R1E.q)[i]? = some x.q from by rw [List.getElem?_map, hx_]; rfl)
     clear hx_
     obtain ⟨⟨e0, he0_, hq0_⟩, e1, he1_, hq1_⟩ := out_ends HLH.out HES5.out HM5.out.1.symm
     have HE0 := zH he0_
     have HE1 := zH he1_
     have HI0 := zH (show e0.a.Is _ (((a.2) : Int) : Rat) from hq0_ ▸ (HOE5.out e0 (List.mem_of_getElem? he0_)).1)
     have HI1 := zH (show e1.a.Is _ (((b.2) : Int) : Rat) from hq1_ ▸ (HOE5.out e1 (List.mem_of_getElem? he1_)).1)
     have HB0 := zH (show Nm.rl (((a.2) : Int) : Rat) <= 24 from hq0_ ▸ (HOE5.out e0 (List.mem_of_getElem? he0_)).2)
     have HB1 := zH (show Nm.rl (((b.2) : Int) : Rat) <= 24 from hq1_ ▸ (HOE5.out e1 (List.mem_of_getElem? he1_)).2)
     clear he0_ he1_ hq0_ hq1_
     have hm5 := HM5.out.2
     have hlt9 := HLT.out
     go_upto_region 29 with fail
     refine wl ?_
     refine zI3 (Hp.start _) (.int .i64 (i : Int)) _ (.int .i64 (m3 : Int)) ?_
     refine zp (.bool true) (by exact ezl (e := (dec_t (by omega)))) ?_
     rcases emH ((((a.2) : Int) : Rat) < x.q) with CL1 | CL1
     ·rcases emH (x.q < (((b.2) : Int) : Rat)) with CL2 | CL2
      ·go_upto_region 31 with fail
       refine zy ?_
       have H356 := zH (H348.out.step (Ext.refl w346).drew)
       have D356 := zH (Dig.of_ext (w := w346) zb)
       refine zJ2 (Hp.start _) zb (bs 23 3) 0 1 _ (.int .i64 (i : Int)) ?_
       refine zo 2 (bs 23 7) (v := .pointer (some ⟨ga, i * 4, none⟩)) zb ?_ (hv := by intro w hSw; exact ezi (k := i) Tryz.underlying27 (l := hlt) (f := (Nat.zero_add _).symm))
       refine zg 3 (bs 23 15) ga (i * 4) (rc x.a) (H348.out.elem (f := R1E.cells) (i := 2) rR R1E.len HX.out) Tryz.underlying34 zb ?_
       refine zx 4 (bs 23 31) (.slice (some ⟨go, 0, none⟩) (p + 2) c5) zb ?_
       refine zo 5 (bs 23 63) (v := .pointer (some ⟨go, 0 * 4, none⟩)) zb ?_ (hv := by intro w hSw; exact ezi (k := 0) Tryz.underlying27 (l := (Nat.succ_pos _)) (f := (Nat.zero_add _).symm))
       refine zg 6 (bs 23 127) go (0 * 4) (rc e0.a) (H348.out.elem (f := R1E.cells) (i := 4) rR R1E.len HE0.out) Tryz.underlying34 zb ?_
       have DD364 := tD D348 D356
       refine mC 7 (bs 23 255) (q03Cmp (L := 60000) (RV.Is.nin (HXI.out.dig DD364.out) (Nat.le_trans HXB.out (by omega))) (RV.Is.nin (HI0.out.dig D356.out) (Nat.le_trans HB0.out (by omega))) (by omega)) ?_
       rintro e w363 ⟨rfl, hx⟩
       have H365 := zH (H356.out.step hx)
       have D365 := zH (show Dig w346.drew w363 from Dig.of_ext hx)
       have S367 := zH (zb.trans hx)
       clear hx
       refine zm S367.out ?_
       refine zu 8 (bs 23 511) (v := .bool true) S367.out ?_ (hv := by intro w hSw; exact ezg (e := (dec_t (rcmp_gt.2 CL1.out))))
       refine zJ3 (Hp.start _) S367.out (bs 23 4095) 9 10 11 (.bool true) _ (.int .i64 (i : Int)) ?_
       refine zo 12 (bs 23 8191) (v := .pointer (some ⟨ga, i * 4, none⟩)) S367.out ?_ (hv := by intro w hSw; exact ezi (k := i) Tryz.underlying27 (l := hlt) (f := (Nat.zero_add _).symm))
       refine zg 13 (bs 23 16383) ga (i * 4) (rc x.a) (H348.out.elem (f := R1E.cells) (i := 2) rR R1E.len HX.out) Tryz.underlying34 S367.out ?_
       refine zJ3 (Hp.start _) S367.out (bs 23 131071) 14 15 16 (.slice (some ⟨go, 0, none⟩) (p + 2) c5) (.slice (some ⟨go, 0, none⟩) (p + 2) c5) (.int .i64 ((p + 2 : Nat) : Int)) ?_
       refine zu 17 (bs 23 262143) (v := .int .i64 ((p + 1 : Nat) : Int)) S367.out ?_ (hv := by intro w hSw; exact ez2 (by omega))
       refine zo 18 (bs 23 524287) (v := .pointer (some ⟨go, (p + 1) * 4, none⟩)) S367.out ?_ (hv := by intro w hSw; exact ezi (k := p + 1) Tryz.underlying27 (l := (Nat.lt_succ_self _)) (f := (Nat.zero_add _).symm))
       refine zg 19 (bs 23 1048575) go ((p + 1) * 4) (rc e1.a) (H348.out.elem (f := R1E.cells) (i := 4) rR R1E.len HE1.out) Tryz.underlying34 S367.out ?_
       have DD379 := tD DD364 D365
       have DD380 := tD D356 D365
       refine mC 20 (bs 23 2097151) (q03Cmp (L := 60000) (RV.Is.nin (HXI.out.dig DD379.out) (Nat.le_trans HXB.out (by omega))) (RV.Is.nin (HI1.out.dig DD380.out) (Nat.le_trans HB1.out (by omega))) (by omega)) ?_
       rintro e w378 ⟨rfl, hx⟩
       have H381 := zH (H365.out.step hx)
       have D381 := zH (Dig.of_ext hx)
       have S383 := zH (S367.out.trans hx)
       clear hx
       refine zm S383.out ?_
       refine zu 21 (bs 23 4194303) (v := .bool true) S383.out ?_ (hv := by intro w hSw; exact ezl (e := (dec_t (rcmp_lt.2 CL2.out))))
       refine zx 22 (bs 23 8388607) (.bool true) S383.out ?_
       refine wpAnyH_done kR ?_ _
       go_upto_region 32 with fail
       refine wl ?_
       refine zI3 (Hp.start _) (.slice (some ⟨go, 0, none⟩) (p + 2) c5) _ (.int .i64 (i : Int)) ?_
       refine zp (.pointer (some ⟨ga, i * 4, none⟩)) (by exact ezi (k := i) Tryz.underlying27 (l := hlt) (f := (Nat.zero_add _).symm)) ?_
       refine zd ga (i * 4) (rc x.a) (H381.out.elem (f := R1E.cells) (i := 2) rR R1E.len HX.out) Tryz.underlying34 ?_
       have DD392 := tD DD380 D381
       have DD393 := tD DD379 D381
       refine zc (rput17_any 24 dC x.a x.q go (p + 2) c5 _ es5 _ (H381.out.row (i := 4) rR) HM5.out.1 (by omega) (fun g_ hg_ => ((HOE5.out g_ hg_).dig DD392.out)) (HXI.out.dig DD393.out) HXB.out) ?_
       rintro e w390 ⟨A391, n391, c391, es391, rfl, hn_, hor_, hq_, hok_, hx⟩
       have hl_ := putQ_len (y := x.q) (l := es5.map R1E.q)
       rw [<- hq_, List.length_map, List.length_map, <- HM5.out.1, <- hn_] at hl_
       obtain ⟨p391, rfl⟩ : ∃ p', n391 = p' + 2 := ⟨n391 - 2, by omega⟩
       have HL391 := zH hl_
       have HN391 := zH hn_
       have HQ391 := zH hq_
       have HK391 := zH hok_
       clear hl_ hn_ hq_ hok_
       have H394 := zH (show Hp w w390 [.blk X1 24 [.int .i64 a.1, .int .i64 a.2], .blk X6 24 [.int .i64 b.1, .int .i64 b.2], ro 34 4 (some ⟨ga, 0, none⟩) m3 c3 R1E.cells es3, ro 59 4 Ae ((edgesOf rs).length) ce edC (edgesOf rs), ro 34 4 A391 (p391 + 2) c391 R1E.cells es391] from H381.out.orRow (i := 4) (by rfl) hx hor_)
       have D394 := zH (Dig.of_ext hx)
       clear hor_ hx
       refine zn ?_
       refine zq (.slice A391 (p391 + 2) c391) ?_
       go_upto_region 30 with fail
       refine wl ?_
       refine zq (.int .i64 (i : Int)) ?_
       refine zp (.int .i64 ((i + 1 : Nat) : Int)) (by exact ez1 (by omega)) ?_
       refine zq (.int .i64 ((i + 1 : Nat) : Int)) ?_
       have DD400 := tD DD393 D394
       go_wp2_with fail
       go_roundg (m3 - (i + 1))
       case measure => exact (by omega)
       case rel => exact ⟨i + 1, p391, es391, A391, c391, rfl, rfl, (by go_num), hlt, ⟨HN391.out, by have h_ := HL391.out; omega⟩, (by rw [HQ391.out, HES5.out, List.take_add_one, HXQ.out, show (some x.q).toList = [x.q] from rfl, outQ_snoc, if_pos ⟨CL1.out, CL2.out⟩]), (fun g_ hg_ => (HK391.out g_ hg_)), H394.out, DD400.out⟩
      go_upto_region 31 with fail
      refine zy ?_
      have H401 := zH (H348.out.step (Ext.refl w346).drew)
      have D401 := zH (Dig.of_ext (w := w346) zb)
      refine zJ2 (Hp.start _) zb (bs 23 3) 0 1 _ (.int .i64 (i : Int)) ?_
      refine zo 2 (bs 23 7) (v := .pointer (some ⟨ga, i * 4, none⟩)) zb ?_ (hv := by intro w hSw; exact ezi (k := i) Tryz.underlying27 (l := hlt) (f := (Nat.zero_add _).symm))
      refine zg 3 (bs 23 15) ga (i * 4) (rc x.a) (H348.out.elem (f := R1E.cells) (i := 2) rR R1E.len HX.out) Tryz.underlying34 zb ?_
      refine zx 4 (bs 23 31) (.slice (some ⟨go, 0, none⟩) (p + 2) c5) zb ?_
      refine zo 5 (bs 23 63) (v := .pointer (some ⟨go, 0 * 4, none⟩)) zb ?_ (hv := by intro w hSw; exact ezi (k := 0) Tryz.underlying27 (l := (Nat.succ_pos _)) (f := (Nat.zero_add _).symm))
      refine zg 6 (bs 23 127) go (0 * 4) (rc e0.a) (H348.out.elem (f := R1E.cells) (i := 4) rR R1E.len HE0.out) Tryz.underlying34 zb ?_
      have DD409 := tD D348 D401
      refine mC 7 (bs 23 255) (q03Cmp (L := 60000) (RV.Is.nin (HXI.out.dig DD409.out) (Nat.le_trans HXB.out (by omega))) (RV.Is.nin (HI0.out.dig D401.out) (Nat.le_trans HB0.out (by omega))) (by omega)) ?_
      rintro e w408 ⟨rfl, hx⟩
      have H410 := zH (H401.out.step hx)
      have D410 := zH (show Dig w346.drew w408 from Dig.of_ext hx)
      have S412 := zH (zb.trans hx)
      clear hx
      refine zm S412.out ?_
      refine zu 8 (bs 23 511) (v := .bool true) S412.out ?_ (hv := by intro w hSw; exact ezg (e := (dec_t (rcmp_gt.2 CL1.out))))
      refine zJ3 (Hp.start _) S412.out (bs 23 4095) 9 10 11 (.bool true) _ (.int .i64 (i : Int)) ?_
      refine zo 12 (bs 23 8191) (v := .pointer (some ⟨ga, i * 4, none⟩)) S412.out ?_ (hv := by intro w hSw; exact ezi (k := i) Tryz.underlying27 (l := hlt) (f := (Nat.zero_add _).symm))
      refine zg 13 (bs 23 16383) ga (i * 4) (rc x.a) (H348.out.elem (f := R1E.cells) (i := 2) rR R1E.len HX.out) Tryz.underlying34 S412.out ?_
      refine zJ3 (Hp.start _) S412.out (bs 23 131071) 14 15 16 (.slice (some ⟨go, 0, none⟩) (p + 2) c5) (.slice (some ⟨go, 0, none⟩) (p + 2) c5) (.int .i64 ((p + 2 : Nat) : Int)) ?_
      refine zu 17 (bs 23 262143) (v := .int .i64 ((p + 1 : Nat) : Int)) S412.out ?_ (hv := by intro w hSw; exact ez2 (by omega))
      refine zo 18 (bs 23 524287) (v := .pointer (some ⟨go, (p + 1) * 4, none⟩)) S412.out ?_ (hv := by intro w hSw; exact ezi (k := p + 1) Tryz.underlying27 (l := (Nat.lt_succ_self _)) (f := (Nat.zero_add _).symm))
      refine zg 19 (bs 23 1048575) go ((p + 1) * 4) (rc e1.a) (H348.out.elem (f := R1E.cells) (i := 4) rR R1E.len HE1.out) Tryz.underlying34 S412.out ?_
      have DD424 := tD DD409 D410
      have DD425 := tD D401 D410
      refine mC 20 (bs 23 2097151) (q03Cmp (L := 60000) (RV.Is.nin (HXI.out.dig DD424.out) (Nat.le_trans HXB.out (by omega))) (RV.Is.nin (HI1.out.dig DD425.out) (Nat.le_trans HB1.out (by omega))) (by omega)) ?_
      rintro e w423 ⟨rfl, hx⟩
      have H426 := zH (H410.out.step hx)
      have D426 := zH (Dig.of_ext hx)
      have S428 := zH (S412.out.trans hx)
      clear hx
      refine zm S428.out ?_
      refine zu 21 (bs 23 4194303) (v := .bool false) S428.out ?_ (hv := by intro w hSw; exact ezl (e := (dec_f (fun hh => CL2.out (rcmp_lt.1 hh)))))
      refine zx 22 (bs 23 8388607) (.bool false) S428.out ?_
      refine wpAnyH_done kR ?_ _
      go_upto_region 30 with fail
      refine wl ?_
      refine zq (.int .i64 (i : Int)) ?_
      refine zp (.int .i64 ((i + 1 : Nat) : Int)) (by exact ez1 (by omega)) ?_
      refine zq (.int .i64 ((i + 1 : Nat) : Int)) ?_
      have DD434 := tD DD425 D426
      have DD435 := tD DD424 D426
      go_wp2_with fail
      go_roundg (m3 - (i + 1))
      case measure => exact (by omega)
      case rel => exact ⟨i + 1, p, es5, some ⟨go, 0, none⟩, c5, rfl, rfl, (by go_num), hlt, ⟨HM5.out.1, by omega⟩, (by rw [List.take_add_one, HXQ.out, show (some x.q).toList = [x.q] from rfl, outQ_snoc, if_neg (fun h_ => CL2.out h_.2), HES5.out]), (fun g_ hg_ => ((HOE5.out g_ hg_).dig DD434.out)), H426.out, DD435.out⟩
     go_upto_region 31 with fail
     refine zy ?_
     have H436 := zH (H348.out.step (Ext.refl w346).drew)
     have D436 := zH (Dig.of_ext (w := w346) zb)
     refine zJ2 (Hp.start _) zb (bs 23 3) 0 1 _ (.int .i64 (i : Int)) ?_
     refine zo 2 (bs 23 7) (v := .pointer (some ⟨ga, i * 4, none⟩)) zb ?_ (hv := by intro w hSw; exact ezi (k := i) Tryz.underlying27 (l := hlt) (f := (Nat.zero_add _).symm))
     refine zg 3 (bs 23 15) ga (i * 4) (rc x.a) (H348.out.elem (f := R1E.cells) (i := 2) rR R1E.len HX.out) Tryz.underlying34 zb ?_
     refine zx 4 (bs 23 31) (.slice (some ⟨go, 0, none⟩) (p + 2) c5) zb ?_
     refine zo 5 (bs 23 63) (v := .pointer (some ⟨go, 0 * 4, none⟩)) zb ?_ (hv := by intro w hSw; exact ezi (k := 0) Tryz.underlying27 (l := (Nat.succ_pos _)) (f := (Nat.zero_add _).symm))
     refine zg 6 (bs 23 127) go (0 * 4) (rc e0.a) (H348.out.elem (f := R1E.cells) (i := 4) rR R1E.len HE0.out) Tryz.underlying34 zb ?_
     have DD444 := tD D348 D436
     refine mC 7 (bs 23 255) (q03Cmp (L := 60000) (RV.Is.nin (HXI.out.dig DD444.out) (Nat.le_trans HXB.out (by omega))) (RV.Is.nin (HI0.out.dig D436.out) (Nat.le_trans HB0.out (by omega))) (by omega)) ?_
     rintro e w443 ⟨rfl, hx⟩
     have H445 := zH (H436.out.step hx)
     have D445 := zH (show Dig w346.drew w443 from Dig.of_ext hx)
     have S447 := zH (zb.trans hx)
     clear hx
     refine zm S447.out ?_
     refine zu 8 (bs 23 511) (v := .bool false) S447.out ?_ (hv := by intro w hSw; exact ezg (e := (dec_f (fun hh => CL1.out (rcmp_gt.1 hh)))))
     refine zJ8 (Hp.start _) S447.out (bs 23 131071) 9 10 11 12 13 14 15 16 (.bool false) _ _ _ _ _ _ _ ?_
     refine zJ6 (Hp.start _) S447.out (bs 23 8388607) 17 18 19 20 21 22 _ _ _ _ _ (.bool false) ?_
     refine wpAnyH_done kR ?_ _
     go_upto_region 30 with fail
     refine wl ?_
     refine zq (.int .i64 (i : Int)) ?_
     refine zp (.int .i64 ((i + 1 : Nat) : Int)) (by exact ez1 (by omega)) ?_
     refine zq (.int .i64 ((i + 1 : Nat) : Int)) ?_
     have DD454 := tD D436 D445
     have DD455 := tD DD444 D445
     go_wp2_with fail
     go_roundg (m3 - (i + 1))
     case measure => exact (by omega)
     case rel => exact ⟨i + 1, p, es5, some ⟨go, 0, none⟩, c5, rfl, rfl, (by go_num), hlt, ⟨HM5.out.1, by omega⟩, (by rw [List.take_add_one, HXQ.out, show (some x.q).toList = [x.q] from rfl, outQ_snoc, if_neg (fun h_ => CL1.out h_.1), HES5.out]), (fun g_ hg_ => ((HOE5.out g_ hg_).dig DD454.out)), H445.out, DD455.out⟩
    have hlt := HLT.out
    have hki := HKI5.out
    obtain rfl : m3 = i := by omega
    go_upto_region 29 with fail
    refine wl ?_
    refine zI3 (Hp.start _) (.int .i64 (m3 : Int)) _ (.int .i64 (m3 : Int)) ?_
    refine zp (.bool false) (by exact ezl (e := (dec_f (Int.lt_irrefl _)))) ?_
    go_upto_region 33 with fail
    refine wl ?_
    refine zI2 (Hp.start _) (.slice A5 (p + 2) c5) (.slice A5 (p + 2) c5) ?_
    go_wp2_with fail
    go_ret
    exact ⟨A5, p + 2, c5, es5, rfl, HM5.out.1, H348.out.row (i := 4) (by rfl), (by rw [HES5.out, List.take_of_length_le (by rw [List.length_map, <- HM3.out.1]; exact Nat.le_refl _), HALL.out]; exact (if_pos HEV.out).symm), (fun g_ hg_ => (HOE5.out g_ hg_)), H348.out.ext⟩
   have Wb := zH (Bool.eq_false_iff.2 VB.out)
   go_upto_region 1 with fail
   refine wl ?_
   refine zI1 (Hp.start _) _ ?_
   refine zc (r16Valid_any _ rs _ (HU.out.ext H8.out.ext) HN.out HR.out) ?_
   rintro e w463 ⟨rfl, hx⟩
   have H464 := zH (H8.out.step hx)
   clear hx
   refine ⟨.bool true, by rw [HV.out], ?_⟩
   try simp only [Act.put, zA, zB, zC]
   refine zI3 H464.out (.bool false) (.bool false) _ ?_
   refine zc (rvalid_any a.1 a.2 _) ?_
   rintro e w468 ⟨rfl, hx⟩
   have H469 := zH (H464.out.step hx)
   clear hx
   refine ⟨.bool true, by rw [VA.out], ?_⟩
   try simp only [Act.put, zA, zB, zC]
   refine zI4 H469.out (.bool false) (.bool false) (.bool false) _ ?_
   refine zc (rvalid_any b.1 b.2 _) ?_
   rintro e w474 ⟨rfl, hx⟩
   have H475 := zH (H469.out.step hx)
   clear hx
   refine ⟨.bool false, by rw [Wb.out], ?_⟩
   try simp only [Act.put, zA, zB, zC]
   refine zI8 (Hp.start _) (.bool true) (.bool true) (.bool true) _ _ _ _ _ ?_
   refine zq (.bool true) ?_
   go_upto_region 2 with fail
   refine wl ?_
   refine zI1 (Hp.start _) _ ?_
   go_wp2_with fail
   go_ret
   exact ⟨none, 0, 0, [], rfl, rfl, RowN.nil _ _ _ _, (by rw [show refL a b rs = [] from if_neg (fun h => VB.out h.2.2.1)]; rfl), (fun _ h => by cases h), H475.out.ext⟩
  have Wa := zH (Bool.eq_false_iff.2 VA.out)
  go_upto_region 1 with fail
  refine wl ?_
  refine zI1 (Hp.start _) _ ?_
  refine zc (r16Valid_any _ rs _ (HU.out.ext H8.out.ext) HN.out HR.out) ?_
  rintro e w483 ⟨rfl, hx⟩
  have H484 := zH (H8.out.step hx)
  clear hx
  refine ⟨.bool true, by rw [HV.out], ?_⟩
  try simp only [Act.put, zA, zB, zC]
  refine zI3 H484.out (.bool false) (.bool false) _ ?_
  refine zc (rvalid_any a.1 a.2 _) ?_
  rintro e w488 ⟨rfl, hx⟩
  have H489 := zH (H484.out.step hx)
  clear hx
  refine ⟨.bool false, by rw [Wa.out], ?_⟩
  try simp only [Act.put, zA, zB, zC]
  refine zI8 (Hp.start _) (.bool true) (.bool true) (.bool true) _ _ _ (.bool true) (.bool true) ?_
  refine zI6 (Hp.start _) _ _ _ _ _ (.bool true) ?_
  go_upto_region 2 with fail
  refine wl ?_
  refine zI1 (Hp.start _) _ ?_
  go_wp2_with fail
  go_ret
  exact ⟨none, 0, 0, [], rfl, rfl, RowN.nil _ _ _ _, (by rw [show refL a b rs = [] from if_neg (fun h => VA.out h.2.1)]; rfl), (fun _ h => by cases h), H489.out.ext⟩
 go_upto_region 1 with fail
 refine wl ?_
 refine zI1 (Hp.start _) _ ?_
 refine zc (r16Valid_any _ rs _ (HU.out.ext H8.out.ext) HN.out HR.out) ?_
 rintro e w499 ⟨rfl, hx⟩
 have H500 := zH (H8.out.step hx)
 clear hx
 refine ⟨.bool false, by rw [Bool.eq_false_iff.2 HV.out], ?_⟩
 try simp only [Act.put, zA, zB, zC]
 refine zI8 (Hp.start _) (.bool true) (.bool true) _ _ _ (.bool true) (.bool true) _ ?_
 refine zI8 (Hp.start _) _ _ (.bool true) (.bool true) _ _ _ _ ?_
 refine zk ?_
 refine zq (.bool true) ?_
 go_upto_region 2 with fail
 refine wl ?_
 refine zI1 (Hp.start _) _ ?_
 go_wp2_with fail
 go_ret
 exact ⟨none, 0, 0, [], rfl, rfl, RowN.nil _ _ _ _, (by rw [show refL a b rs = [] from if_neg (fun h => HV.out h.1)]; rfl), (fun _ h => by cases h), H500.out.ext⟩
def fewN (rs : List Ring) (m k : Nat) : Nat := ((rs.take k).map (fun r => min r.length (m + 1))).sum
def fewB (rs : List Ring) (m : Nat) : Bool := decide (rs.length <= m /\ fewN rs m (m + 1) <= m)
theorem fewN_succ {rs : List Ring} {m k : Nat} {r : Ring} (h : rs[k]? = some r) : fewN rs m (k + 1) = fewN rs m k + min r.length (m + 1) := by
  unfold fewN
  rw [List.take_add_one, h, List.map_append, List.sum_append]
  simp
theorem fewN_all {rs : List Ring} {m k : Nat} (h : rs.length <= k) (h2 : k <= m + 1) : fewN rs m k = fewN rs m (m + 1) := by
  unfold fewN
  rw [List.take_of_length_le h, List.take_of_length_le (Nat.le_trans h h2)]
theorem fewN_le (rs : List Ring) (m : Nat) : ∀ k, fewN rs m k <= k * (m + 1)
  | 0 => by simp [fewN]
  | k + 1 => by
    have ih := fewN_le rs m k
    cases h : rs[k]? with
    | none =>
      have e : fewN rs m (k + 1) = fewN rs m k := by unfold fewN; rw [List.take_add_one, h]; simp
      rw [e, Nat.add_mul]; omega
    | some r => rw [fewN_succ h, Nat.add_mul]; omega
theorem le_sum17 : ∀ {l : List Nat} {x : Nat}, x ∈ l -> x <= l.sum
  | y :: l, x, h => by
    rw [List.sum_cons]
    rcases List.mem_cons.1 h with e | e
    · omega
    have := le_sum17 e; omega
theorem few_rings {rs : List Ring} {m : Nat} (h : fewB rs m = true) : rs.length <= m /\ ∀ r, r ∈ rs -> r.length <= m := by
  unfold fewB at h
  have h := of_decide_eq_true h
  refine ⟨h.1, fun r hr => ?_⟩
  have h2 := h.2
  unfold fewN at h2
  rw [List.take_of_length_le (by omega)] at h2
  have h3 : min r.length (m + 1) <= (rs.map (fun r => min r.length (m + 1))).sum := le_sum17 (List.mem_map.2 ⟨r, hr, rfl⟩)
  omega
theorem few17_any (u : Value) (rs : List Ring) (m : Nat) (w : World) (hu : RingsV w u rs) (hn : rs.length <= maxLen) (hr : ∀ r, r ∈ rs -> r.length <= maxLen) (hm : m <= 1000) :
  Calls Tryz.prog 4 #[u, .int .i64 (m : Int)] w fun e w' => e = .returned (.bool (fewB rs m)) /\ Ext w w' := by
 have HU := zH hu
 have HR := zH hr
 obtain ⟨A, cu, rfl, hA⟩ := hu
 have HA := zH hA
 have hmx : rs.length <= 9223372036854775807 := by unfold maxLen at hn; omega
 clear hA hr hn
 go_enter Tryz.func4, Tryz.ntmps4
 have H0 := zH (Hp.start w)
 go_upto_region 0 with fail
 refine wl ?_
 refine zq (.bool false) ?_
 go_upto_region 1 with fail
 refine wl ?_
 refine zq (.int .i64 0) ?_
 go_upto_region 2 with fail
 refine wl ?_
 refine zq (.int .i64 0) ?_
 go_wp2_with fail
 go_loopg [6, 5] (rs.length) (fun cq v4 v5 wr => ∃ (i : Nat) (n : Nat), cq = rs.length - i /\ v4 = .int .i64 (i : Int) /\ v5 = .int .i64 (n : Int) /\ (i <= rs.length /\ i <= m + 1) /\ (n = fewN rs m i) /\ Hp w wr [] /\ Dig w wr)
 case atStart => exact ⟨0, 0, rfl, rfl, rfl, ⟨Nat.zero_le _, Nat.zero_le _⟩, rfl, H0.out, Dig.refl _⟩
 obtain ⟨i, n, rfl, rfl, rfl, q_HKI, q_HNV, hh_, hd_⟩ := hrel
 generalize wr = w6 at *
 have HKI := zH q_HKI
 clear q_HKI
 have HNV := zH q_HNV
 clear q_HNV
 have H8 := zH hh_
 have D8 := zH hd_
 clear hh_ hd_
 have hki := HKI.out
 have hnb : n <= 1002001 := by rw [HNV.out]; exact Nat.le_trans (fewN_le rs m i) (Nat.mul_le_mul (show i <= 1001 by omega) (show m + 1 <= 1001 by omega))
 rcases emH (i < rs.length) with HLT | HLT
 ·have hlt := HLT.out
  obtain ⟨r, hri_⟩ : ∃ r, rs[i]? = some r := ⟨_, List.getElem?_eq_getElem hlt⟩
  have HRI := zH hri_
  have hrl := HR.out r (List.mem_of_getElem? hri_)
  obtain ⟨g, off, rfl, hp_⟩ := HA.out (by omega)
  obtain ⟨B, cb, h1_, A2_, cb2_, hv_, h2_⟩ := hp_ i r hri_
  injection hv_ with e1_ e2_ e3_
  subst e1_
  subst e3_
  have HRC := zH h1_
  have HPT := zH h2_
  clear hri_ hp_ h1_ h2_ e2_
  have hrx : r.length <= 9223372036854775807 := by unfold maxLen at hrl; omega
  rcases emH (i <= m) with HLE | HLE
  ·have hle := HLE.out
   go_upto_region 3 with fail
   refine wl ?_
   refine zI3 (Hp.start _) (.int .i64 (i : Int)) _ (.int .i64 ((rs.length : Nat) : Int)) ?_
   refine zp (.bool true) (by exact ezl (e := (dec_t (by omega)))) ?_
   refine zI3 (Hp.start _) (.bool true) (.int .i64 (i : Int)) (.int .i64 (m : Int)) ?_
   refine zp (.bool true) (by exact eze (e := (dec_t (by omega)))) ?_
   refine zq (.bool true) ?_
   go_upto_region 5 with fail
   refine wl ?_
   refine zI3 (Hp.start _) (.int .i64 (n : Int)) _ (.int .i64 (i : Int)) ?_
   refine zp (.pointer (some ⟨g, off + i, none⟩)) (by exact ezi (k := i) Tryz.underlying22 (l := hlt) (f := (show off + i = off + i * 1 by omega))) ?_
   refine ze g (off + i) (.slice B r.length cb) (range_one (H8.out.ext.get HRC.out)) ?_
   refine zI2 (Hp.start _) (.int .i64 ((r.length : Nat) : Int)) (.int .i64 (m : Int)) ?_
   refine zp (.int .i64 ((m + 1 : Nat) : Int)) (by exact ez1 (by omega)) ?_
   refine zq (.int .i64 (min ((r.length : Nat) : Int) ((m + 1 : Nat) : Int))) ?_
   refine zp (.int .i64 ((n : Int) + (min ((r.length : Nat) : Int) ((m + 1 : Nat) : Int)))) (by exact ez1 (by omega)) ?_
   refine zq (.int .i64 ((n : Int) + (min ((r.length : Nat) : Int) ((m + 1 : Nat) : Int)))) ?_
   go_upto_region 4 with fail
   refine wl ?_
   refine zq (.int .i64 (i : Int)) ?_
   refine zp (.int .i64 ((i + 1 : Nat) : Int)) (by exact ez1 (by omega)) ?_
   refine zq (.int .i64 ((i + 1 : Nat) : Int)) ?_
   go_wp2_with fail
   go_roundg (rs.length - (i + 1))
   case measure => exact (by omega)
   case rel => exact ⟨i + 1, n + min r.length (m + 1), rfl, (by go_num), (by congr 1; omega), ⟨by omega, by omega⟩, (by rw [fewN_succ HRI.out, <- HNV.out]), H8.out, H8.out.dig0⟩
  have hle := HLE.out
  have HNE := zH (show n = fewN rs m (m + 1) from by rw [HNV.out, show i = m + 1 by omega])
  go_upto_region 3 with fail
  refine wl ?_
  refine zI3 (Hp.start _) (.int .i64 (i : Int)) _ (.int .i64 ((rs.length : Nat) : Int)) ?_
  refine zp (.bool true) (by exact ezl (e := (dec_t (by omega)))) ?_
  refine zI3 (Hp.start _) (.bool true) (.int .i64 (i : Int)) (.int .i64 (m : Int)) ?_
  refine zp (.bool false) (by exact eze (e := (dec_f (by omega)))) ?_
  refine zq (.bool false) ?_
  rcases emH (rs.length <= m) with CL | CL
  ·rcases emH (n <= m) with CN | CN
   ·go_upto_region 6 with fail
    refine wl ?_
    refine zI3 (Hp.start _) _ (.int .i64 ((rs.length : Nat) : Int)) (.int .i64 (m : Int)) ?_
    refine zp (.bool true) (by exact eze (e := (dec_t (by have h_ := CL.out; omega)))) ?_
    refine zI3 (Hp.start _) (.bool true) (.int .i64 (n : Int)) (.int .i64 (m : Int)) ?_
    refine zp (.bool true) (by exact eze (e := (dec_t (by have h_ := CN.out; omega)))) ?_
    refine zI2 (Hp.start _) (.bool true) (.bool true) ?_
    go_wp2_with fail
    go_ret
    exact ⟨by rw [show fewB rs m = true from by unfold fewB; exact decide_eq_true ⟨CL.out, HNE.out ▸ CN.out⟩]; rfl, H8.out.ext⟩
   go_upto_region 6 with fail
   refine wl ?_
   refine zI3 (Hp.start _) _ (.int .i64 ((rs.length : Nat) : Int)) (.int .i64 (m : Int)) ?_
   refine zp (.bool true) (by exact eze (e := (dec_t (by have h_ := CL.out; omega)))) ?_
   refine zI3 (Hp.start _) (.bool true) (.int .i64 (n : Int)) (.int .i64 (m : Int)) ?_
   refine zp (.bool false) (by exact eze (e := (dec_f (by have h_ := CN.out; omega)))) ?_
   refine zI2 (Hp.start _) (.bool false) (.bool false) ?_
   go_wp2_with fail
   go_ret
   exact ⟨by rw [show fewB rs m = false from by unfold fewB; exact decide_eq_false (fun h_ => CN.out (HNE.out ▸ h_.2))]; rfl, H8.out.ext⟩
  go_upto_region 6 with fail
  refine wl ?_
  refine zI3 (Hp.start _) _ (.int .i64 ((rs.length : Nat) : Int)) (.int .i64 (m : Int)) ?_
  refine zp (.bool false) (by exact eze (e := (dec_f (by have h_ := CL.out; omega)))) ?_
  refine zI6 (Hp.start _) (.bool false) _ _ _ (.bool false) (.bool false) ?_
  go_wp2_with fail
  go_ret
  exact ⟨by rw [show fewB rs m = false from by unfold fewB; exact decide_eq_false (fun h_ => CL.out h_.1)]; rfl, H8.out.ext⟩
 have hlt := HLT.out
 have HNE := zH (show n = fewN rs m (m + 1) from by rw [HNV.out]; exact fewN_all (by omega) hki.2)
 go_upto_region 3 with fail
 refine wl ?_
 refine zI3 (Hp.start _) (.int .i64 (i : Int)) _ (.int .i64 ((rs.length : Nat) : Int)) ?_
 refine zp (.bool false) (by exact ezl (e := (dec_f (by omega)))) ?_
 refine zI5 (Hp.start _) (.bool false) _ _ _ (.bool false) ?_
 rcases emH (rs.length <= m) with CL | CL
 ·rcases emH (n <= m) with CN | CN
  ·go_upto_region 6 with fail
   refine wl ?_
   refine zI3 (Hp.start _) _ (.int .i64 ((rs.length : Nat) : Int)) (.int .i64 (m : Int)) ?_
   refine zp (.bool true) (by exact eze (e := (dec_t (by have h_ := CL.out; omega)))) ?_
   refine zI3 (Hp.start _) (.bool true) (.int .i64 (n : Int)) (.int .i64 (m : Int)) ?_
   refine zp (.bool true) (by exact eze (e := (dec_t (by have h_ := CN.out; omega)))) ?_
   refine zI2 (Hp.start _) (.bool true) (.bool true) ?_
   go_wp2_with fail
   go_ret
   exact ⟨by rw [show fewB rs m = true from by unfold fewB; exact decide_eq_true ⟨CL.out, HNE.out ▸ CN.out⟩]; rfl, H8.out.ext⟩
  go_upto_region 6 with fail
  refine wl ?_
  refine zI3 (Hp.start _) _ (.int .i64 ((rs.length : Nat) : Int)) (.int .i64 (m : Int)) ?_
  refine zp (.bool true) (by exact eze (e := (dec_t (by have h_ := CL.out; omega)))) ?_
  refine zI3 (Hp.start _) (.bool true) (.int .i64 (n : Int)) (.int .i64 (m : Int)) ?_
  refine zp (.bool false) (by exact eze (e := (dec_f (by have h_ := CN.out; omega)))) ?_
  refine zI2 (Hp.start _) (.bool false) (.bool false) ?_
  go_wp2_with fail
  go_ret
  exact ⟨by rw [show fewB rs m = false from by unfold fewB; exact decide_eq_false (fun h_ => CN.out (HNE.out ▸ h_.2))]; rfl, H8.out.ext⟩
 go_upto_region 6 with fail
 refine wl ?_
 refine zI3 (Hp.start _) _ (.int .i64 ((rs.length : Nat) : Int)) (.int .i64 (m : Int)) ?_
 refine zp (.bool false) (by exact eze (e := (dec_f (by have h_ := CL.out; omega)))) ?_
 refine zI6 (Hp.start _) (.bool false) _ _ _ (.bool false) (.bool false) ?_
 go_wp2_with fail
 go_ret
 exact ⟨by rw [show fewB rs m = false from by unfold fewB; exact decide_eq_false (fun h_ => CL.out h_.1)]; rfl, H8.out.ext⟩
end Go.Proofs.YthdapkpmikeehacGreat
namespace Go.Proofs.YthdapkpmikeehacGreat
open Go.ChangeShapes Go.WideShapes Go.ChangeAt Go.RowKit
theorem own : ownKnob Tryz.prog.godebug = none := by kernel_rfl
theorem laidOut : laidOutB Tryz.prog = true := by kernel_rfl
theorem cells_int : Tryz.prog.cellsOf 3 = 1 := by kernel_rfl
theorem cells_pt : Tryz.prog.cellsOf 24 = 2 := by kernel_rfl
section
variable {H : Type} {enc : TypeId × Value -> H} {w : World} {base : Nat} {spare : Nat -> Bool} {held : Bool}
theorem pt_open {fuel : Nat} {cs : List Value} {x : DataW H × List MemPlace} (h : DataW.trod enc Tryz.prog w base spare held fuel 24 cs = some x) : ∃ a : Int × Int, cs = [.int .i64 a.1, .int .i64 a.2] := by
  obtain ⟨y0, y1, n, _, hl, h0, h1⟩ := trod_struct2 Tryz.underlying24 h
  rw [cells_pt] at hl
  rw [cells_int] at h0 h1
  obtain ⟨a, e0, _, _⟩ := DataW.trod_int Tryz.underlying3 h0
  obtain ⟨b, e1, _, _⟩ := DataW.trod_int Tryz.underlying3 h1
  match cs, hl with
  | [u, v], _ =>
    simp at e0 e1
    exact ⟨(a, b), by rw [e0, e1]⟩
end
end Go.Proofs.YthdapkpmikeehacGreat
namespace Go.Proofs.YthdapkpmikeehacGreat
open Go.ChangeShapes Go.WideShapes Go.ChangeAt Go.RowKit
section
variable {H : Type} {enc : TypeId × Value -> H} {P : Program} {w : World} {base : Nat} {spare : Nat -> Bool} {held : Bool}
theorem slice_open {t e : TypeId} {fuel : Nat} {cs : List Value} {x : DataW H × List MemPlace} (ht : P.underlying t = some (.slice e)) (hs : 0 < P.cellsOf e) (h : DataW.trod enc P w base spare held fuel t cs = some x) :
    ∃ A len cap, cs = [.slice A len cap] /\ len <= cap /\ cap <= maxLen /\ (0 < len -> ∃ g off, A = some ⟨g, off, none⟩ /\ ∀ i, i < len -> ∃ (cs' : List Value) (n : Nat) (y : DataW H × List MemPlace), cs'.length = P.cellsOf e /\
      (∀ j u, cs'[j]? = some u -> w.cell? ⟨g, off + i * P.cellsOf e + j, none⟩ = some u) /\ DataW.trod enc P w base spare held n e cs' = some y) := by
  rcases Deep.open_slice ht h with ⟨rfl, _⟩ | ⟨a, len, cap, m, n, D, Pl, rfl, hb, hl, hm, hmm, _, hx⟩
  · exact ⟨none, 0, 0, rfl, Nat.le_refl _, Nat.zero_le _, fun h0 => absurd h0 (by omega)⟩
  refine ⟨some a, len, cap, rfl, hl, hm, fun h0 => ?_⟩
  have hle : len <= m := by rw [hmm]; split <;> omega
  have hsp : a.spot = none := by
    obtain ⟨cs', h1, h2⟩ := hx 0 (by omega)
    obtain ⟨_, hlen, hcell⟩ := World.cells?_some h1
    have g0 := hcell 0 hs
    cases hq : a.spot with
    | none => rfl
    | some s =>
      exfalso
      obtain ⟨c0, hc0⟩ : ∃ c0, cs'[0]? = some c0 := by
        cases cs' with
        | nil => simp at hlen; omega
        | cons c _ => exact ⟨c, rfl⟩
      rw [hc0] at g0
      have e : ((a.add (0 * P.cellsOf e)).add 0).spot = some s := by simp [Addr.add, hq]
      unfold World.cell? at g0
      rw [e] at g0
      revert g0
      split <;> simp
  obtain ⟨g, off, sp⟩ := a
  obtain rfl : sp = none := hsp
  refine ⟨g, off, rfl, fun i hi => ?_⟩
  obtain ⟨cs', h1, h2⟩ := hx i (by omega)
  obtain ⟨_, hlen, hcell⟩ := World.cells?_some h1
  refine ⟨cs', n, _, hlen, fun j u hj => ?_, h2⟩
  have hjl : j < P.cellsOf e := by
    have := (List.getElem?_eq_some_iff.1 hj).1
    omega
  have g1 := hcell j hjl
  rw [hj] at g1
  have e : ((⟨g, off, none⟩ : Addr).add (i * P.cellsOf e)).add j = ⟨g, off + i * P.cellsOf e + j, none⟩ := by
    rw [Deep.add_add]
    unfold Addr.add
    by_cases hz : i * P.cellsOf e + j = 0
    · rw [if_pos hz]
      congr 1
      omega
    rw [if_neg hz]
    congr 1
    show off + (i * P.cellsOf e + j) = off + i * P.cellsOf e + j
    omega
  rw [e] at g1
  exact g1
end
theorem list_of {α : Type} [Inhabited α] (n : Nat) (p : Nat -> α -> Prop) (h : ∀ i, i < n -> ∃ x, p i x) : ∃ l : List α, l.length = n /\ ∀ i (d : α), i < n -> p i (l.getD i d) := by
  obtain ⟨f, hf⟩ := Deep.choose_lt (p := p) h
  refine ⟨(List.range n).map f, by simp, fun i d hi => ?_⟩
  have e : ((List.range n).map f).getD i d = f i := by simp [List.getD, hi]
  rw [e]
  exact hf i hi
end Go.Proofs.YthdapkpmikeehacGreat
namespace Go.Proofs.YthdapkpmikeehacGreat
open Go.ChangeShapes Go.WideShapes Go.ChangeAt Go.RowKit
section
variable {H : Type} {enc : TypeId × Value -> H} {w : World} {base : Nat} {held : Bool}
end
end Go.Proofs.YthdapkpmikeehacGreat
namespace Go.Proofs.YthdapkpmikeehacGreat
open Go.ChangeShapes Go.WideShapes Go.ChangeAt Go.RowKit
theorem okWide_structQ {P : Program} {w : World} {r : Reach} {base : Nat} {t : TypeId} {fs : Array Field} {v : Value} (ht : P.underlying t = some (.struct fs)) (h : Value.okWide P w r base t v) : ∃ cs, v = .agg cs /\ cs.size = P.cellsOf t := by
  simp only [Value.okWide, ht] at h
  obtain ⟨cs, h1, h2, _⟩ := h
  exact ⟨cs, h1, h2⟩
theorem cells_ringQ : Tryz.prog.cellsOf 36 = 1 := by kernel_rfl
instance : Inhabited RV := ⟨⟨false, none, 0, 0, false, none, 0, 0⟩⟩
section
variable {H : Type} {enc : TypeId × Value -> H} {w : World} {base : Nat} {held : Bool}
theorem ring_openQ {fuel : Nat} {cs : List Value} {x : DataW H × List MemPlace} (h : DataW.trod enc Tryz.prog w base (fun _ => true) held fuel 36 cs = some x) :
  ∃ (A : Option Addr) (l : Ring) (cap : Nat), cs = [.slice A l.length cap] /\ l.length <= maxLen /\ PtsV w (.slice A l.length cap) l := by
 obtain ⟨A, len, cap, rfl, hl, hm, hx⟩ := slice_open Tryz.underlying36 (by rw [cells_pt]; decide) h
 by_cases h0 : 0 < len
 ·obtain ⟨g, off, rfl, hx'⟩ := hx h0
  rw [cells_pt] at hx'
  obtain ⟨l, rfl, hl2⟩ := list_of (α := Int × Int) len (fun i s => ∀ j u, [Value.int .i64 s.1, .int .i64 s.2][j]? = some u -> w.cell? ⟨g, off + i * 2 + j, none⟩ = some u) (fun i hi => by
   obtain ⟨cs', n, y, _, h2, h3⟩ := hx' i hi
   obtain ⟨s, rfl⟩ := pt_open h3
   exact ⟨s, h2⟩)
  refine ⟨_, l, cap, rfl, by omega, _, cap, rfl, fun _ => ⟨g, off, rfl, fun i hi => ?_⟩⟩
  have h := hl2 i (0, 0) hi
  exact ⟨h 0 _ rfl, h 1 _ rfl⟩
 obtain rfl : len = 0 := by omega
 exact ⟨A, [], cap, rfl, Nat.zero_le _, A, cap, rfl, fun hn => absurd rfl hn⟩
theorem rings_openQ {fuel : Nat} {cs : List Value} {x : DataW H × List MemPlace} (h : DataW.trod enc Tryz.prog w base (fun _ => true) held fuel 22 cs = some x) :
  ∃ (A : Option Addr) (l : List Ring) (cap : Nat), cs = [.slice A l.length cap] /\ l.length <= maxLen /\ RingsV w (.slice A l.length cap) l /\ ∀ r, r ∈ l -> r.length <= maxLen := by
 obtain ⟨A, len, cap, rfl, hl, hm, hx⟩ := slice_open Tryz.underlying22 (by rw [cells_ringQ]; decide) h
 by_cases h0 : 0 < len
 ·obtain ⟨g, off, rfl, hx'⟩ := hx h0
  rw [cells_ringQ] at hx'
  obtain ⟨l, rfl, hl2⟩ := list_of (α := Ring) len (fun i r => (∃ B cb, w.cell? ⟨g, off + i, none⟩ = some (.slice B r.length cb) /\ PtsV w (.slice B r.length cb) r) /\ r.length <= maxLen) (fun i hi => by
   obtain ⟨cs', n, y, _, h2, h3⟩ := hx' i hi
   obtain ⟨B, r, cb, rfl, hr, hp⟩ := ring_openQ h3
   have := h2 0 _ rfl
   simp only [Nat.mul_one, Nat.add_zero] at this
   exact ⟨r, ⟨B, cb, this, hp⟩, hr⟩)
  refine ⟨_, l, cap, rfl, by omega, ⟨_, cap, rfl, fun _ => ⟨g, off, rfl, fun i x hx => ?_⟩⟩, fun x hx => ?_⟩
  ·have h := (hl2 i [] (List.getElem?_eq_some_iff.1 hx).1).1
   rw [List.getD_eq_getElem?_getD, hx] at h
   exact h
  obtain ⟨i, hi⟩ := List.mem_iff_getElem?.1 hx
  have h := (hl2 i [] (List.getElem?_eq_some_iff.1 hi).1).2
  rw [List.getD_eq_getElem?_getD, hi] at h
  exact h
 obtain rfl : len = 0 := by omega
 exact ⟨A, [], cap, rfl, Nat.zero_le _, ⟨A, cap, rfl, fun hn => absurd hn (by simp)⟩, fun x hx => by simp at hx⟩
end
end Go.Proofs.YthdapkpmikeehacGreat
