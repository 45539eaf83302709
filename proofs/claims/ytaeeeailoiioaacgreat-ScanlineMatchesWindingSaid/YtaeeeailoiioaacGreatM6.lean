/- Contracts that the claim stands on: XEdg3 to XWindL. -/
import Derived.Maps.Own
import Derived.Maps.OwnOps
import Derived.Test.YtaeeeailoiioaacGreatM5
namespace Go.Proofs.YtaeeeailoiioaacGreat
open Go.RowKit Go.Shelf
attribute [local go_sem] Oper.semAt_some

abbrev Edge := (Int × Int) × (Int × Int)
def okE (e : Edge) : Prop := okPt e.1.1 e.1.2 = true ∧ okPt e.2.1 e.2.2 = true
abbrev OkE := { e : Edge // okE e }
def encE (x : OkE) : Array Value := #[ptVal2 x.1.1, ptVal2 x.1.2]
theorem edges_ok {rs : List Ring} (h : okR rs = true) : ∀ e, e ∈ edgesV rs → okE e := by
 intro e he
 obtain ⟨r, hr, h2⟩ := List.mem_flatMap.1 he
 obtain ⟨i, _, h3⟩ := List.mem_filterMap.1 h2
 unfold okR at h
 rw [Bool.and_eq_true] at h
 have h4 := List.all_eq_true.1 h.2 r hr
 unfold okAll at h4
 have hp : ∀ (j : Nat) (p : Int × Int), r[j]? = some p → okPt p.1 p.2 = true := fun j p hj => List.all_eq_true.1 h4 p (List.mem_of_getElem? hj)
 unfold edgeAt at h3
 split at h3
 ·rename_i a b ha hb
  split at h3
  ·cases h3
  injection h3 with h3
  subst h3
  exact ⟨hp _ _ ha, hp _ _ hb⟩
 cases h3
theorem Fr.putObj {G : Nat → Prop} (W : World) (l : Nat) (o' : Obj) (h : G l ∨ W.heap.size ≤ l) : Fr G W (W.putObj l o') :=
  Fr.trans_new (Fr.of_ext (Ext.refl W)) (grownBy_putObj' W l o') (fun j hj => by injection hj with hj; subst hj; exact h)
theorem edges_loop {n p0 p1 : Nat} {g : Operand} {assign body : Code} {Q : Exit → Act → World → Prop} {a : Act} {W1 : World} (hn : 2 ≤ n) (G : Nat → Prop) (Bx : Nat) (u : Value) (rs : List Ring)
  (hg : a.eval g = .func (.func 74) #[] #[.pointer (some ⟨Bx, 0, none⟩)]) (hcb : W1.cell? ⟨Bx, 0, none⟩ = some u) (hGb : ¬ G Bx) (hR : RingsO (fun k => ¬ G k) W1 u rs) (hrs : rs.length ≤ 100000) (hok : okR rs = true)
  (hG : ∀ k, W1.heap.size ≤ k → G k)
  (I : List OkE → World → Prop) (hI : OwnFrom W1.heap.size I) (h0 : I [] W1) (Ax : OkE → Act → World → Prop) (hAx : ∀ x a', OwnFrom W1.heap.size (fun (_ : Unit) W => Ax x a' W))
  (hassign : ∀ (l : Nat) (pre : List OkE) (x : OkE) (W : World) (K : Act → World → Prop), I pre W → (∀ a' W', KeepsFrom W1.heap.size W W' → Fr G W W' → I pre W' → Ax x a' W' → K a' W') →
   assign.wpIn (Fence.wide.inRound l) (n - 1 - 1) Tryz.prog (Exit.then K (fun _ _ _ => False)) { tmps := (a.tmps.setIfInBounds p0 (ptVal2 x.1.1)).setIfInBounds p1 (ptVal2 x.1.2), defers := [] } W)
  (hbody : ∀ (l : Nat) (pre : List OkE) (x : OkE) (a' : Act) (W : World), I pre W → Ax x a' W → pre.length < 4096 →
   body.wpIn (Fence.wide.inRound l) (n - 1 - 1) Tryz.prog (ownPostG W1.heap.size (Fr G) I (fun _ _ _ => False) (pre ++ [x]) W) a' W)
  (hdone : ∀ (D : Nat) (xs : List OkE) (W : World), W1.heap.size ≤ D → xs.map Subtype.val = edgesV rs → I xs W → W.heap[D]? = some (.deferred (some [])) → Q .normal { a with defers := { target := .collected D, args := #[] } :: a.defers } W) :
  (Code.rangeFunc g #[p0, p1] assign body).wpIn Fence.wide n Tryz.prog Q a W1 := by
 have hseq : SeqStopsK Fence.wide (n - 1) Tryz.prog 74 #[.pointer (some ⟨Bx, 0, none⟩)] encE (Fr G) (fun xs => xs.map Subtype.val = edgesV rs) (fun pre => pre.map Subtype.val <+: edgesV rs) 4096 W1 := by
  intro l J Jx W hW hJa hJxa hY hJ0
  have hx : Ext W1 W := hW
  have hRW := hR.ext hx
  have hrl : ∀ r, r ∈ rs → r.length ≤ 4096 := fun r hr => by
   obtain ⟨k, hk⟩ := List.mem_iff_getElem?.1 hr
   have h1 := tot_succ hk
   have h2 := tot_take rs (k + 1)
   have h3 := okR_tot hok
   omega
  have hN : (edgesV rs).length ≤ 4096 := Nat.le_trans (edgesV_len rs) (okR_tot hok)
  have hEx : ∀ (s : List OkE) (A B : World), J s A → Ext A B → J s B := fun s A B h x => hJa s A B none h (grown_of_ext _ x) (fun r e => by cases e)
  refine (edges1_in (n - 1) (by omega) l Bx 4096 G u rs (fun s W => ∃ xs : List OkE, xs.map Subtype.val = s ∧ J xs W) (fun s W => ∃ xs : List OkE, xs.map Subtype.val = s ∧ Jx xs W) W (hx.get hcb) hGb hRW hrl hrs
   (fun s A B h x => by obtain ⟨xs, h1, h2⟩ := h; exact ⟨xs, h1, hEx _ _ _ h2 x⟩) ?_ hN ⟨[], rfl, hJ0⟩).mono ?_
  ·rintro pre x W2 ⟨xs, rfl, h2⟩ hlen hmem
   refine (hY xs ⟨x, edges_ok hok x hmem⟩ W2 h2 (by simpa using hlen)).mono ?_
   rintro e W3 (⟨rfl, h3, h4⟩ | ⟨rfl, h3⟩)
   ·exact .inl ⟨rfl, ⟨_, by simp, h3⟩, h4⟩
   exact .inr ⟨rfl, ⟨_, by simp, h3⟩⟩
  rintro e W2 ⟨h1, ⟨ys, rfl, xs, h2, h3⟩ | ⟨pre, h2, xs, h3, h4⟩⟩
  ·exact ⟨h1, .inl ⟨xs, h2, h3⟩⟩
  exact ⟨h1, .inr ⟨xs, by show xs.map Subtype.val <+: edgesV rs; rw [h3]; exact h2, h4⟩⟩
 refine wpIn_rangeFunc_ownH rfl (by omega) (gf := 74) (lb := #[.pointer (some ⟨Bx, 0, none⟩)]) hg trivial (enters_of Tryz.func74 (by kernel_rfl) rfl)
  hseq (fun h k => Fr.trans h k) (fun W l o o' hl _ _ _ => Fr.putObj W l o' (.inl (hG l hl))) (Below.refl _ _) (fun _ => rfl) I (fun _ _ _ => False) hI (fun _ _ _ _ _ hs _ _ => hs) h0 Ax hAx ?assign ?body ?done ?stop
 case assign =>
  intro l pre x W K hi hK
  have e : ((#[p0, p1] : Array Tmp).zip (encE x)).foldl (fun t (p, v) => t.setIfInBounds p v) a.tmps = (a.tmps.setIfInBounds p0 (ptVal2 x.1.1)).setIfInBounds p1 (ptVal2 x.1.2) := by simp [encE]
  rw [e]
  exact hassign l pre x W K hi hK
 case body => exact fun l pre x a' W _ _ hi ha hlt => hbody l pre x a' W hi ha hlt
 case done => exact fun D xs W hD hs hi hK => hdone D xs W hD hs hi hK
 case stop => exact fun D c pre W _ _ h _ => h.elim
theorem KeepsFrom.of_fr {B : Nat} {G : Nat → Prop} {W W' : World} (h : Fr G W W') (hG : ∀ k, G k → ∀ o : Obj, W.heap[k]? = some o → o.isCells = true) : KeepsFrom B W W' :=
  ⟨h.size, fun k o _ hk ho => by
    have hlt : k < W.heap.size := (Array.getElem?_eq_some_iff.1 hk).1
    rw [h.block k hlt (fun g => by rw [hG k g o hk] at ho; cases ho)]
    exact hk⟩
theorem Fr.imp {G G' : Nat → Prop} {W W' : World} (h : Fr G W W') (hG : ∀ k, G k → G' k) : Fr G' W W' := ⟨h.os, h.tape, h.output, h.size, fun k hk hn => h.block k hk (fun g => hn (hG k g))⟩
theorem Hp.cells {w0 w : World} {m : List Ent} {i k : Nat} {e : Ent} (h : Hp w0 w m) (hi : m[i]? = some e) (hk : e.own = some k) : ∀ o : Obj, w.heap[k]? = some o → o.isCells = true := by
 intro o ho
 cases e with
 | blk g t cs =>
  injection hk with hk
  subst hk
  have := h.blk hi
  unfold Blk at this
  rw [this] at ho
  injection ho with ho
  rw [← ho]
  rfl
 | row t size v n xs =>
  obtain ⟨h4, ⟨rfl, _⟩ | ⟨g, cap, rest, rfl, a, hb, c⟩⟩ := h.row hi
  ·simp [Ent.own, Value.ownBlock] at hk
  have hk : g = k := by simpa [Ent.own, Value.ownBlock] using hk
  subst hk
  unfold Blk at hb
  rw [hb] at ho
  injection ho with ho
  rw [← ho]
  rfl
def Ent.typ : Ent → TypeId
  | .blk _ t _ => t
  | .row t _ _ _ _ => t
theorem Hp.typ {w0 w : World} {m : List Ent} {i g : Nat} {e : Ent} {T : TypeId} {cs : Array Value} (h : Hp w0 w m) (hi : m[i]? = some e) (hb : Blk w g T cs) (hk : e.own = some g) : e.typ = T := by
 unfold Blk at hb
 cases e with
 | blk g' t cs' =>
  injection hk with hk
  subst hk
  have := h.blk hi
  unfold Blk at this
  rw [this] at hb
  injection hb with hb
  injection hb with _ hb _
 | row t size v n xs =>
  obtain ⟨h4, ⟨rfl, _⟩ | ⟨g', cap, rest, rfl, a, hb2, c⟩⟩ := h.row hi
  ·simp [Ent.own, Value.ownBlock] at hk
  have hk : g' = g := by simpa [Ent.own, Value.ownBlock] using hk
  subst hk
  unfold Blk at hb2
  rw [hb2] at hb
  injection hb with hb
  injection hb with _ hb _
theorem Hp.addTyp2 {w0 w : World} {m : List Ent} {X Y : Nat} {T : TypeId} {zs us : List Value} (h : Hp w0 w m) (B1 : Blk w X T zs.toArray) (B2 : Blk w Y T us.toArray) (hne : X ≠ Y) (z1 : w0.heap.size ≤ X) (z2 : w0.heap.size ≤ Y) (n1 : NoUL zs) (n2 : NoUL us)
  (ht : ∀ e, e ∈ m → e.typ ≠ T) : Hp w0 w (m ++ [.blk X T zs] ++ [.blk Y T us]) := by
 have h1 : Hp w0 w (m ++ [.blk X T zs]) := h.add ⟨z1, B1, n1⟩ (fun i f hf k hk e => by
  injection e with e
  subst e
  exact ht f (List.mem_of_getElem? hf) (h.typ hf B1 hk))
 refine h1.add ⟨z2, B2, n2⟩ (fun i f hf k hk e => ?_)
 injection e with e
 subst e
 rcases List.mem_append.1 (List.mem_of_getElem? hf) with hm | hm
 ·obtain ⟨j, hj⟩ := List.mem_iff_getElem?.1 hm
  exact ht f hm (h.typ hj B2 hk)
 simp at hm
 subst hm
 injection hk with hk
 exact hne hk
theorem Blk.kept {w w' : World} {g : Nat} {t : TypeId} {cs : Array Value} {r : Option Nat} (h : Blk w g t cs) (hg : w.grownBy w' r) (hr : ∀ k, r = some k → ∃ o : Obj, w.heap[k]? = some o ∧ o.isCells = false) : Blk w' g t cs :=
  h.grown hg (fun e => by
    obtain ⟨o, h2, h3⟩ := hr g e
    unfold Blk at h
    rw [h] at h2
    injection h2 with h2
    rw [← h2] at h3
    cases h3)
end Go.Proofs.YtaeeeailoiioaacGreat

namespace Go.Proofs.YtaeeeailoiioaacGreat
open Go.RowKit
attribute [local go_sem ↓] Go.wp_at_zero Go.wp_at_succ run_max_ii run_min_ii
set_option maxRecDepth 20000 in
set_option maxHeartbeats 4000000 in
theorem marksCmp_any (L : Nat) (hL : L ≤ 60000) (w : World) (e f : MkE) (he : e.Ok L w) (hf : f.Ok L w) :
  Calls Tryz.prog 51 #[.agg e.cells.toArray, .agg f.cells.toArray] w fun x w' => ∃ z : Int, x = .returned (.int .i64 z) ∧ (z < 0 ↔ ltK e f = true) ∧ Ext w w' := by
 have RA := zH he.1
 have RB := zH hf.1
 have BA := zH he.2.1
 have BB := zH hf.2.1
 clear he hf
 unfold MkE.cells
 go_enter Tryz.func51, Tryz.ntmps51
 have H0 := zH (Hp.start w)
 go_upto_region 0 with fail
 refine wp_region_lit ?_
 refine mv_alloc (T := 59) (zs := [.bool e.a.n, .slice e.a.p e.a.l e.a.c, .bool e.a.m, .slice e.a.p2 e.a.l2 e.a.c2, .int .i64 e.up]) (by rfl) (by go_simp) H0.out (by simp [NoUL]) ?_
 intro X1 w2 hh hx hge
 have H3 := zH (show Hp w w2 [.blk X1 59 [.bool e.a.n, .slice e.a.p e.a.l e.a.c, .bool e.a.m, .slice e.a.p2 e.a.l2 e.a.c2, .int .i64 e.up]] from hh)
 clear hh hx hge
 try simp only [Act.put, zA, zB, zC]
 refine mv_alloc (T := 59) (zs := [.bool f.a.n, .slice f.a.p f.a.l f.a.c, .bool f.a.m, .slice f.a.p2 f.a.l2 f.a.c2, .int .i64 f.up]) (by rfl) (by go_simp) H3.out (by simp [NoUL]) ?_
 intro X6 w7 hh hx hge
 have H8 := zH (show Hp w w7 [.blk X1 59 [.bool e.a.n, .slice e.a.p e.a.l e.a.c, .bool e.a.m, .slice e.a.p2 e.a.l2 e.a.c2, .int .i64 e.up], .blk X6 59 [.bool f.a.n, .slice f.a.p f.a.l f.a.c, .bool f.a.m, .slice f.a.p2 f.a.l2 f.a.c2, .int .i64 f.up]] from hh)
 clear hh hx hge
 try simp only [Act.put, zA, zB, zC]
 refine zq (.int .i64 0) ?_
 go_upto_region 1 with fail
 refine zy ?_
 have H12 := zH (H8.out.step (Ext.refl w7).drew)
 refine mX 0 (bs 13 1) (.pointer (some ⟨X1, 0, none⟩)) zb ?_
 refine zg 1 (bs 13 3) X1 (0) (rc e.a) (H8.out.range (i := 0) (by rfl) 0 4) Tryz.underlying27 zb ?_
 refine mX 2 (bs 13 7) (.pointer (some ⟨X6, 0, none⟩)) zb ?_
 refine zg 3 (bs 13 15) X6 (0) (rc f.a) (H8.out.range (i := 1) (by rfl) 0 4) Tryz.underlying27 zb ?_
 refine zx 5 (bs 13 47) (.pointer (some ⟨X6, 4, none⟩)) zb ?_
 refine zf 6 (bs 13 111) X6 4 (.int .i64 f.up) (H8.out.range (i := 1) (by rfl) 4 1) zb ?_
 refine zx 7 (bs 13 239) (.pointer (some ⟨X1, 4, none⟩)) zb ?_
 refine zf 8 (bs 13 495) X1 4 (.int .i64 e.up) (H8.out.range (i := 0) (by rfl) 4 1) zb ?_
 refine mC 4 (bs 13 511) (pCmp (L := 60000) (RV.Is.nin (RA.out.dig H12.out.dig0) (Nat.le_trans BA.out (by omega))) (RV.Is.nin (RB.out.dig H12.out.dig0) (Nat.le_trans BB.out (by omega))) (by omega)) ?_
 rintro e w18 ⟨rfl, hx⟩
 have H19 := zH (H12.out.step hx)
 have S21 := zH (show Ext w7 w18 from zb.trans hx)
 clear hx
 refine zm S21.out ?_
 refine mC 9 (bs 13 1023) (compare_any f.up e.up _) ?_
 rintro e w22 ⟨rfl, hx⟩
 have H23 := zH (H19.out.step hx)
 have S25 := zH (S21.out.trans hx)
 clear hx
 refine zm S25.out ?_
 refine md_lit (T := 3) (zs := [.int .i64 (rcmp e.q f.q), .int .i64 (cmpI f.up e.up)]) (n := 2) (i := 10) (listed' := (bs 13 2047)) (by rfl) (by kernel_rfl) (by rfl) (by go_simp) (by kernel_rfl) H23.out (by simp [NoUL]) ?_
 intro X26 w27 hh hx hge
 have H28 := zH (show Hp w w27 [.blk X1 59 [.bool e.a.n, .slice e.a.p e.a.l e.a.c, .bool e.a.m, .slice e.a.p2 e.a.l2 e.a.c2, .int .i64 e.up], .blk X6 59 [.bool f.a.n, .slice f.a.p f.a.l f.a.c, .bool f.a.m, .slice f.a.p2 f.a.l2 f.a.c2, .int .i64 f.up], .blk X26 3 [.int .i64 (rcmp e.q f.q), .int .i64 (cmpI f.up e.up)]] from hh)
 have S30 := zH (S25.out.trans hx)
 clear hh hx hge
 refine ⟨S30.out, ?_⟩
 try simp only [Act.put, zA, zB, zC]
 refine mC 11 (bs 13 4095) (or_any X26 0 2 (rcmp e.q f.q) (cmpI f.up e.up) _ (H28.out.cell (i := 2) (by rfl) 0 (by rfl)) (H28.out.cell (i := 2) (by rfl) 1 (by rfl))) ?_
 rintro e w32 ⟨rfl, hx⟩
 have H33 := zH (H28.out.step hx)
 have S35 := zH (S30.out.trans hx)
 clear hx
 refine zm S35.out ?_
 refine zx 12 (bs 13 8191) (.int .i64 (orI (rcmp e.q f.q) (cmpI f.up e.up))) S35.out ?_
 refine wpAnyH_done (by kernel_rfl) ?_ _
 go_wp2_with fail
 go_ret
 exact ⟨_, rfl, by show _ ↔ beforeV e.q e.up f.q f.up = true; rw [← ord_lt, decide_eq_true_iff], H33.out.ext⟩
end Go.Proofs.YtaeeeailoiioaacGreat

namespace Go.Proofs.YtaeeeailoiioaacGreat

theorem cross_up {y : Rat} {a b : Int × Int} (h : (a.2 : Rat) < y ∧ y < (b.2 : Rat)) : crossV y (a, b) = some (xatV a.1 a.2 b.1 b.2 y, 1) := if_pos h
theorem cross_down {y : Rat} {a b : Int × Int} (h : (b.2 : Rat) < y ∧ y < (a.2 : Rat)) : crossV y (a, b) = some (xatV a.1 a.2 b.1 b.2 y, -1) := by
  unfold crossV
  rw [if_neg (fun k => by have h1 := h.1; have h2 := h.2; have k1 := k.1; have k2 := k.2; grind), if_pos h]
theorem cross_no {y : Rat} {a b : Int × Int} (h1 : ¬ ((a.2 : Rat) < y ∧ y < (b.2 : Rat))) (h2 : ¬ ((b.2 : Rat) < y ∧ y < (a.2 : Rat))) : crossV y (a, b) = none := by
  unfold crossV
  rw [if_neg h1, if_neg h2]
theorem rat_tri (a b : Rat) : a < b ∨ a = b ∨ b < a := by grind
theorem rcmp_m1 {p q : Rat} (h : p < q) : rcmp p q = -1 := by
  have h1 := rcmp_lt.2 h
  unfold rcmp at h1 ⊢
  have := Int.sign_trichotomy (p.num * q.den - q.num * p.den)
  omega
theorem rcmp_p1 {p q : Rat} (h : q < p) : rcmp p q = 1 := by
  have h1 := rcmp_gt.2 h
  unfold rcmp at h1 ⊢
  have := Int.sign_trichotomy (p.num * q.den - q.num * p.den)
  omega
theorem cross_prod {p q y : Rat} (h1 : ¬ (p < y ∧ y < q)) (h2 : ¬ (q < y ∧ y < p)) : 0 ≤ rcmp p y * rcmp q y ∧ rcmp p y * rcmp q y ≤ 1 := by
  rcases rat_tri p y with a | a | a
  · rw [rcmp_m1 a]
    rcases rat_tri q y with b | b | b
    · rw [rcmp_m1 b]; decide
    · rw [rcmp_eq.2 b]; decide
    exact absurd ⟨a, b⟩ h1
  · rw [rcmp_eq.2 a]; simp
  rw [rcmp_p1 a]
  rcases rat_tri q y with b | b | b
  · exact absurd ⟨b, a⟩ h2
  · rw [rcmp_eq.2 b]; decide
  rw [rcmp_p1 b]; decide
theorem xat_pre {y : Rat} {a b : Int} (h : ((a : Rat) < y ∧ y < (b : Rat)) ∨ ((b : Rat) < y ∧ y < (a : Rat))) : a ≠ b ∧ ((min a b : Int) : Rat) ≤ y ∧ y ≤ ((max a b : Int) : Rat) := by
  rcases h with ⟨h1, h2⟩ | ⟨h1, h2⟩
  · have hab : a < b := by have h3 : (a : Rat) < (b : Rat) := by grind
                           exact_mod_cast h3
    rw [Int.min_eq_left (by omega), Int.max_eq_right (by omega)]
    exact ⟨by omega, by grind, by grind⟩
  have hab : b < a := by have h3 : (b : Rat) < (a : Rat) := by grind
                         exact_mod_cast h3
  rw [Int.min_eq_right (by omega), Int.max_eq_left (by omega)]
  exact ⟨by omega, by grind, by grind⟩
end Go.Proofs.YtaeeeailoiioaacGreat

namespace Go.Proofs.YtaeeeailoiioaacGreat
open Go.RowKit Go.Shelf
attribute [local go_sem] Oper.semAt_some
attribute [local go_sem ↓] Go.wp_at_zero Go.wp_at_succ run_eql_point run_neq_point run_max_ii run_min_ii

def MkI (L X3 Bo : Nat) (ry : RV) (y : Rat) (w W1 : World) (pre : List OkE) (W : World) : Prop :=
  ∃ (A : Option Addr) (n c : Nat) (es : List MkE), Hp w W [.blk X3 27 [.bool ry.n, .slice ry.p ry.l ry.c, .bool ry.m, .slice ry.p2 ry.l2 ry.c2], .blk Bo 56 [.slice A n c], .row 59 5 (.slice A n c) n (List.flatMap MkE.cells es)] ∧ Dig W1 W ∧ (∀ k, Value.ownBlock (.slice A n c) = some k → W1.heap.size ≤ k) ∧ (∀ e, e ∈ es → e.Ok (L + 8) W) ∧ es.map MkE.vl = (pre.map Subtype.val).filterMap (crossV y) ∧ n = es.length ∧ n ≤ pre.length ∧ W1.heap.size ≤ W.heap.size
def MkA (u : Value) (X3 Bo Bx : Nat) (ry : RV) (W1 : World) (x : OkE) (a' : Act) (W : World) : Prop :=
  ∃ Xa Xb, Blk W Xa 44 ([.int .i64 x.1.1.1, .int .i64 x.1.1.2] : List Value).toArray ∧ Blk W Xb 44 ([.int .i64 x.1.2.1, .int .i64 x.1.2.2] : List Value).toArray ∧ Xa ≠ Xb ∧ W1.heap.size ≤ Xa ∧ W1.heap.size ≤ Xb ∧
    a' = { tmps := #[u, .agg #[.bool ry.n, .slice ry.p ry.l ry.c, .bool ry.m, .slice ry.p2 ry.l2 ry.c2], undef, .pointer (some ⟨X3, 0, none⟩), .slice none 0 0, .pointer (some ⟨Bo, 0, none⟩), .pointer (some ⟨Xa, 0, none⟩), .pointer (some ⟨Xb, 0, none⟩), undef, undef, undef, undef, u, .func (.func 74) #[] #[.pointer (some ⟨Bx, 0, none⟩)], .agg #[.int .i64 x.1.1.1, .int .i64 x.1.1.2], .agg #[.int .i64 x.1.2.1, .int .i64 x.1.2.2], undef, undef, undef, undef, undef, undef, undef, undef, undef, undef, undef, undef, undef, undef, undef, undef, undef, undef, undef, undef, undef, undef, undef, undef, undef, undef, undef, undef, undef, undef, undef], defers := [] }
theorem mkI_own (L X3 Bo : Nat) (ry : RV) (y : Rat) (w W1 : World) (hw : w.heap.size ≤ W1.heap.size) : OwnFrom W1.heap.size (MkI L X3 Bo ry y w W1) := by
  rintro s W W' row ⟨A, n, c, es, h1, h2, h3, h4, h5, h6, h7, h8⟩ hg hr
  have d : Dig W W' := Dig.kept hg (fun k hk => (hr k hk).2)
  exact ⟨A, n, c, es, h1.kept hg (fun k hk => ⟨Nat.le_trans hw (hr k hk).1, (hr k hk).2⟩), h2.trans d, h3, fun e he => (h4 e he).dig d, h5, h6, h7, Nat.le_trans h8 hg.size⟩
theorem mkA_own (u : Value) (X3 Bo Bx : Nat) (ry : RV) (W1 : World) (x : OkE) (a' : Act) : OwnFrom W1.heap.size (fun (_ : Unit) W => MkA u X3 Bo Bx ry W1 x a' W) := by
  rintro _ W W' row ⟨Xa, Xb, h1, h2, h3⟩ hg hr
  exact ⟨Xa, Xb, h1.kept hg (fun k hk => (hr k hk).2), h2.kept hg (fun k hk => (hr k hk).2), h3⟩
theorem hy_dig {L : Nat} {w w' : World} {a : RV} {q : Rat} (h : a.In L w q) (x : Ext w w') : a.In L w' q := h.ext x
set_option maxRecDepth 100000 in
set_option maxHeartbeats 4000000 in
theorem marks_any (L : Nat) (u : Value) (rs : List Ring) (ry : RV) (y : Rat) (w : World) (hu : RingsV w u rs) (hy : ry.In L w y) (h1L : 1 ≤ L) (hL : L ≤ 2000) (hn : rs.length ≤ 100000) (hr : ∀ r, r ∈ rs → r.length ≤ 100000) :
  Calls Tryz.prog 25 #[u, .agg #[.bool ry.n, .slice ry.p ry.l ry.c, .bool ry.m, .slice ry.p2 ry.l2 ry.c2]] w fun e w' => ∃ A n c es, e = .returned (.slice A n c) ∧ n = List.length es ∧ RowN w' w.heap.size 59 5 (.slice A n c) n (List.flatMap MkE.cells es) ∧
   (∀ e, e ∈ es → e.Ok (L + 8) w') ∧ es.map MkE.vl = marksV y rs ∧ Ext w w' := by
 obtain ⟨qs, hqs⟩ : ∃ qs, qs = if okR rs = true then rs else [] := ⟨_, rfl⟩
 have hq1 : okR qs = true := by
  rw [hqs]
  split
  ·assumption
  rfl
 have hq2 : qs.length ≤ 100000 := by
  rw [hqs]
  split
  ·exact hn
  simp
 have HMV := zH (show marksV y rs = Stb.stab ltM (crossesV y qs) by rw [hqs]; rfl)
 have hp0 := (((Hp.start w).alloc 27 [.bool ry.n, .slice ry.p ry.l ry.c, .bool ry.m, .slice ry.p2 ry.l2 ry.c2] (by simp [NoUL])).alloc 56 [.slice none 0 0] (by simp [NoUL])).addNil 59 5
 have hE0 : Ext w ((w.alloc (.cells #[.bool ry.n, .slice ry.p ry.l ry.c, .bool ry.m, .slice ry.p2 ry.l2 ry.c2] 27)).alloc (.cells #[.slice none 0 0] 56)) := ((Ext.refl w).alloc _).alloc _
 have HC := zH (edges_any u rs _ (hu.ext hE0) hn hr)
 have HY := zH (hy.ext hE0)
 clear hu hy
 have HP0 := zH hp0
 clear hp0
 have HE0 := zH hE0
 clear hE0
 refine (callsIn_wide (n := 4)).1 ?_
 refine callsIn_of_wp_marks Tryz.func25 rfl trivial ?_ rfl
 simp only [Tryz.ntmps25, List.size_toArray, List.length_cons, List.length_nil, Nat.reduceAdd, Nat.reduceSub, Array.replicate_succ, Array.replicate_zero, List.push_toArray, List.append_toArray, List.nil_append, List.cons_append]
 gi_wp2_with (refine ⟨trivial, ?_⟩; gi_at_call 47; refine (callsIn_wide.2 HC.out).mono ?_; rintro e W1 ⟨Bx, v, rfl, hB1, hB2, hcell, hR, hx⟩)
 rw [← hqs] at hR
 have HP1 := zH (HP0.out.step hx)
 have HR := zH hR
 have HY1 := zH (hy_dig HY.out hx)
 have hb1 : w.heap.size + 1 < Bx := by simp at hB1; omega
 obtain ⟨X3, hX3⟩ : ∃ X3, X3 = w.heap.size := ⟨_, rfl⟩
 obtain ⟨Bo, hBo⟩ : ∃ Bo, Bo = w.heap.size + 1 := ⟨_, rfl⟩
 have HP2 := zH (show Hp w W1 [.blk X3 27 [.bool ry.n, .slice ry.p ry.l ry.c, .bool ry.m, .slice ry.p2 ry.l2 ry.c2], .blk Bo 56 [.slice none 0 0], .row 59 5 (.slice none 0 0) 0 (List.flatMap MkE.cells [])] from by rw [hX3, hBo]; have h := HP1.out; simpa using h)
 have hX3B : X3 < W1.heap.size := HP2.out.lt (i := 0) (by rfl) rfl
 have hBoB : Bo < W1.heap.size := HP2.out.lt (i := 1) (by rfl) rfl
 have HRF := zH (show RingsO (fun k => ¬ (k = Bo ∨ W1.heap.size ≤ k)) W1 v qs from HR.out.imp (fun k h => by have h1 := h.1; simp at h1; omega))
 rw [← hBo, ← hX3]
 clear HP1 HR HP0 HY hqs hx hR hB1
 have hbne : Bx ≠ Bo := by omega
 clear hX3 hBo hb1
 have HWS := zH (show w.heap.size ≤ W1.heap.size from by have := HP2.out.ext.size; exact this)
 have HYL := zH (show Nm.rl y ≤ L from by have h := HY1.out.rl; omega)
 refine edges_loop (by omega) (fun k => k = Bo ∨ W1.heap.size ≤ k) Bx v qs (by rfl) hcell (fun hk => hk.elim hbne (fun h => by omega)) HRF.out hq2 hq1 (fun k h => .inr h) (MkI L X3 Bo ry y w W1) (mkI_own L X3 Bo ry y w W1 HWS.out) ⟨none, 0, 0, [], HP2.out, Dig.refl _, by simp [Value.ownBlock], by simp, rfl, rfl, Nat.le_refl _, Nat.le_refl _⟩ (MkA u X3 Bo Bx ry W1) (mkA_own u X3 Bo Bx ry W1) ?assign ?body ?done
 case assign =>
  intro l pre x W K hi hK
  obtain ⟨A, n, c, es, hh, hd, hfar, hok, hvl, hnl, hnp, hsz⟩ := hi
  have HSZ := zH hsz
  clear hsz
  have H0 := zH hh
  have HK := zH hK
  have HF := zH (And.intro hfar (And.intro hvl (And.intro hnl hnp)))
  have HOKS := zH hok
  have HD := zH hd
  clear hh hK hfar hok hvl hnl hnp hd
  unfold ptVal2
  simp only [zA, zB, zC]
  refine wpIn_seq ?_
  refine wpIn_region_plain (by kernel_rfl) (fun ⟨_, _, h⟩ => h) ?_
  refine mv_alloc (T := 44) (zs := [.int .i64 0, .int .i64 0]) (by rfl) (by go_simp) H0.out (by simp [NoUL]) ?_
  intro X37 w38 hh hx hge
  have Q39 := zH (show W.heap.size ≤ X37 from Nat.le_trans (Fr.of_ext (G := fun kz => False) (Ext.refl W)).size hge)
  have H40 := zH (show Hp w w38 [.blk X3 27 (rc ry), .blk Bo 56 [.slice A n c], ro 59 5 A n c MkE.cells es, .blk X37 44 [.int .i64 0, .int .i64 0]] from hh)
  have D40 := zH (Dig.of_ext hx)
  have K42 := zH (show Fr (fun kz => False) W w38 from (Fr.of_ext (G := fun kz => False) (Ext.refl W)).trans (Fr.of_ext hx))
  clear hh hx hge
  try simp only [Act.put, zA, zB, zC]
  refine mv_st (by rfl) _ _ _ (by rfl) H40.out (ix := 3) (by rfl) 0 [.int .i64 x.1.1.1, .int .i64 x.1.1.2] (by rfl) (by rfl) (by simp) (by kernel_rfl) (by simp [Value.oneCell']) (by simp [NoUL]) ?_
  intro w44 hh hd ho
  have H45 := zH (show Hp w w44 [.blk X3 27 (rc ry), .blk Bo 56 [.slice A n c], ro 59 5 A n c MkE.cells es, .blk X37 44 [.int .i64 x.1.1.1, .int .i64 x.1.1.2]] from hh)
  have D45 := zH (hd)
  have K47 := zH (show Fr (fun kz => False) W w44 from K42.out.trans_new ho (fun j hj => .inr (by injection hj with hj; rw [← hj]; exact Q39.out)))
  clear hh hd ho
  (try simp only [Act.put])
  refine wpIn_region_plain (by kernel_rfl) (fun ⟨_, _, h⟩ => h) ?_
  refine mv_alloc (T := 44) (zs := [.int .i64 0, .int .i64 0]) (by rfl) (by go_simp) H45.out (by simp [NoUL]) ?_
  intro X48 w49 hh hx hge
  have Q50 := zH (show W.heap.size ≤ X48 from Nat.le_trans K47.out.size hge)
  have H51 := zH (show Hp w w49 [.blk X3 27 (rc ry), .blk Bo 56 [.slice A n c], ro 59 5 A n c MkE.cells es, .blk X37 44 [.int .i64 x.1.1.1, .int .i64 x.1.1.2], .blk X48 44 [.int .i64 0, .int .i64 0]] from hh)
  have D51 := zH (Dig.of_ext hx)
  have K53 := zH (show Fr (fun kz => False) W w49 from K47.out.trans (Fr.of_ext hx))
  clear hh hx hge
  try simp only [Act.put, zA, zB, zC]
  refine mv_st (by rfl) _ _ _ (by rfl) H51.out (ix := 4) (by rfl) 0 [.int .i64 x.1.2.1, .int .i64 x.1.2.2] (by rfl) (by rfl) (by simp) (by kernel_rfl) (by simp [Value.oneCell']) (by simp [NoUL]) ?_
  intro w55 hh hd ho
  have H56 := zH (show Hp w w55 [.blk X3 27 (rc ry), .blk Bo 56 [.slice A n c], ro 59 5 A n c MkE.cells es, .blk X37 44 [.int .i64 x.1.1.1, .int .i64 x.1.1.2], .blk X48 44 [.int .i64 x.1.2.1, .int .i64 x.1.2.2]] from hh)
  have D56 := zH (hd)
  have K58 := zH (show Fr (fun kz => False) W w55 from K53.out.trans_new ho (fun j hj => .inr (by injection hj with hj; rw [← hj]; exact Q50.out)))
  clear hh hd ho
  (try simp only [Act.put])
  have DD59 := zH ((((D40.out.trans D45.out).trans D51.out).trans D56.out))
  refine HK.out _ _ (KeepsFrom.of_fr K58.out (fun _ h => h.elim)) (K58.out.imp (fun _ h => h.elim)) ⟨A, n, c, es, H56.out.take 3, HD.out.trans DD59.out, HF.out.1, fun e he => (HOKS.out e he).dig DD59.out, HF.out.2.1, HF.out.2.2.1, HF.out.2.2.2, Nat.le_trans HSZ.out K58.out.size⟩ ⟨X37, X48, H56.out.blk (i := 3) (by rfl), H56.out.blk (i := 4) (by rfl), ?_, Nat.le_trans HSZ.out Q39.out, Nat.le_trans HSZ.out Q50.out, rfl⟩
  exact fun e => H56.out.apart 3 4 _ _ (by rfl) (by rfl) (by decide) X37 (by rfl) (by rw [e]; rfl)
 case body =>
  intro l pre x a' W hi hax hlen
  obtain ⟨A, n, c, es, hh, hd, hfar, hok, hvl, hnl, hnp, hsz⟩ := hi
  have HSZ := zH hsz
  clear hsz
  obtain ⟨Xa, Xb, hba, hbb, hne, hga, hgb, rfl⟩ := hax
  obtain ⟨⟨⟨ax, ay⟩, ⟨bx, bY⟩⟩, hoke⟩ := x
  dsimp only at hba hbb ⊢
  have HOKE := zH hoke
  have HD := zH hd
  have HFAR := zH hfar
  have HOKS := zH hok
  have HVL := zH hvl
  have HNL := zH hnl
  have hnp4 : n < 4096 := by omega
  have HNP := zH hnp
  have H0 := zH (show Hp w W [.blk X3 27 (rc ry), .blk Bo 56 [.slice A n c], ro 59 5 A n c MkE.cells es, .blk Xa 44 [.int .i64 ax, .int .i64 ay], .blk Xb 44 [.int .i64 bx, .int .i64 bY]] from hh.addTyp2 hba hbb hne (Nat.le_trans HWS.out hga) (Nat.le_trans HWS.out hgb) (by simp [NoUL]) (by simp [NoUL]) (by simp [Ent.typ]))
  have HYW := zH (HY1.out.dig hd)
  have hok4 : -1048576 ≤ ay ∧ ay ≤ 1048576 ∧ -1048576 ≤ bY ∧ bY ≤ 1048576 := by have h1 := hoke.1; have h2 := hoke.2; simp only [okPt, Bool.and_eq_true, decide_eq_true_eq] at h1 h2; omega
  have HB4 := zH hok4
  clear hh hd hfar hok hvl hnl hba hbb hne hok4 hnp hga hgb
  refine wpIn_block ?_
  refine wpIn_seq ?_
  refine wpIn_region_held_drew (S := fun x => Ext W x) (by kernel_rfl) (by kernel_rfl) (fun ⟨_, _, h⟩ => h) zb (fun _ => ?_)
  have H60 := zH (H0.out.step (Ext.refl W).drew)
  have D60 := zH (Dig.of_ext (w := W) zb)
  have K62 := zH (show Fr (fun kz => kz = Bo ∨ Value.ownBlock (.slice A n c) = some kz) W W.drew from (Fr.of_ext (G := fun kz => kz = Bo ∨ Value.ownBlock (.slice A n c) = some kz) (Ext.refl W)).trans (Fr.of_ext (Ext.refl W).drew))
  refine zx 0 (bs 12 1) (.pointer (some ⟨Xa, 1, none⟩)) zb ?_
  refine md_ld1 (g := Xa) (o := 1) (v := .int .i64 ay) (i := 1) (listed' := (bs 12 3)) (by rfl) (by kernel_rfl) (by kernel_rfl) (by kernel_rfl) (by intro _ _ _ h; exact h) (by rfl) (fun x hx => Ext.get hx (show World.cell? W ⟨Xa, 1, none⟩ = some (.int .i64 ay) from cell_of_range (H0.out.range (i := 3) (by rfl) 1 1))) (by intro x hq; go_simp <;> with_reducible rfl) zb (by kernel_rfl) ?_
  refine zg 3 (bs 12 11) X3 (0) (rc ry) (H0.out.range (i := 0) (by rfl) 0 4) Tryz.underlying27 zb ?_
  refine zx 5 (bs 12 43) (.pointer (some ⟨Xb, 1, none⟩)) zb ?_
  refine md_ld1 (g := Xb) (o := 1) (v := .int .i64 bY) (i := 6) (listed' := (bs 12 107)) (by rfl) (by kernel_rfl) (by kernel_rfl) (by kernel_rfl) (by intro _ _ _ h; exact h) (by rfl) (fun x hx => Ext.get hx (show World.cell? W ⟨Xb, 1, none⟩ = some (.int .i64 bY) from cell_of_range (H0.out.range (i := 4) (by rfl) 1 1))) (by intro x hq; go_simp <;> with_reducible rfl) zb (by kernel_rfl) ?_
  refine zg 8 (bs 12 363) X3 (0) (rc ry) (H0.out.range (i := 0) (by rfl) 0 4) Tryz.underlying27 zb ?_
  refine mC 2 (bs 12 367) (pFrom ay _ (by have ob0 := HB4.out.1; have ob1 := HB4.out.2.1; have ob2 := HB4.out.2.2.1; have ob3 := HB4.out.2.2.2; omega) (by have ob0 := HB4.out.1; have ob1 := HB4.out.2.1; have ob2 := HB4.out.2.2.1; have ob3 := HB4.out.2.2.2; omega)) ?_
  rintro e w65 ⟨c_, rfl, hc_, hx⟩
  have H67 := zH (H60.out.step hx)
  have D67 := zH (show Dig W.drew w65 from Dig.of_ext hx)
  have K69 := zH (show Fr (fun kz => kz = Bo ∨ Value.ownBlock (.slice A n c) = some kz) W w65 from K62.out.trans (Fr.of_ext hx))
  have S70 := zH (show Ext W w65 from zb.trans hx)
  obtain ⟨r66, rfl, hr_⟩ := hc_
  have R66 := zH hr_
  have B66 := zH (rl_i64 ay (by have ob0 := HB4.out.1; have ob1 := HB4.out.2.1; have ob2 := HB4.out.2.2.1; have ob3 := HB4.out.2.2.2; omega) (by have ob0 := HB4.out.1; have ob1 := HB4.out.2.1; have ob2 := HB4.out.2.2.1; have ob3 := HB4.out.2.2.2; omega))
  clear hr_
  clear hx
  refine zm S70.out ?_
  have DD72 := zH ((D60.out.trans D67.out))
  refine mC 4 (bs 12 383) (pCmp (L := 60000) (RV.Is.nin R66.out (Nat.le_trans B66.out (by omega))) (RV.In.nin (RV.In.mono (HYW.out.dig DD72.out) (by omega))) (by omega)) ?_
  rintro e w71 ⟨rfl, hx⟩
  have H73 := zH (H67.out.step hx)
  have D73 := zH (Dig.of_ext hx)
  have K75 := zH (show Fr (fun kz => kz = Bo ∨ Value.ownBlock (.slice A n c) = some kz) W w71 from K69.out.trans (Fr.of_ext hx))
  have S76 := zH (S70.out.trans hx)
  clear hx
  refine zm S76.out ?_
  refine mC 7 (bs 12 511) (pFrom bY _ (by have ob0 := HB4.out.1; have ob1 := HB4.out.2.1; have ob2 := HB4.out.2.2.1; have ob3 := HB4.out.2.2.2; omega) (by have ob0 := HB4.out.1; have ob1 := HB4.out.2.1; have ob2 := HB4.out.2.2.1; have ob3 := HB4.out.2.2.2; omega)) ?_
  rintro e w77 ⟨c_, rfl, hc_, hx⟩
  have H79 := zH (H73.out.step hx)
  have D79 := zH (Dig.of_ext hx)
  have K81 := zH (show Fr (fun kz => kz = Bo ∨ Value.ownBlock (.slice A n c) = some kz) W w77 from K75.out.trans (Fr.of_ext hx))
  have S82 := zH (S76.out.trans hx)
  obtain ⟨r78, rfl, hr_⟩ := hc_
  have R78 := zH hr_
  have B78 := zH (rl_i64 bY (by have ob0 := HB4.out.1; have ob1 := HB4.out.2.1; have ob2 := HB4.out.2.2.1; have ob3 := HB4.out.2.2.2; omega) (by have ob0 := HB4.out.1; have ob1 := HB4.out.2.1; have ob2 := HB4.out.2.2.1; have ob3 := HB4.out.2.2.2; omega))
  clear hr_
  clear hx
  refine zm S82.out ?_
  have DD84 := zH ((((D60.out.trans D67.out).trans D73.out).trans D79.out))
  refine mC 9 (bs 12 1023) (pCmp (L := 60000) (RV.Is.nin R78.out (Nat.le_trans B78.out (by omega))) (RV.In.nin (RV.In.mono (HYW.out.dig DD84.out) (by omega))) (by omega)) ?_
  rintro e w83 ⟨rfl, hx⟩
  have H85 := zH (H79.out.step hx)
  have D85 := zH (Dig.of_ext hx)
  have K87 := zH (show Fr (fun kz => kz = Bo ∨ Value.ownBlock (.slice A n c) = some kz) W w83 from K81.out.trans (Fr.of_ext hx))
  have S88 := zH (S82.out.trans hx)
  clear hx
  refine zm S88.out ?_
  refine zx 10 (bs 12 2047) (.int .i64 (rcmp (((ay) : Int) : Rat) y)) S88.out ?_
  refine zx 11 (bs 12 4095) (.int .i64 (rcmp (((bY) : Int) : Rat) y)) S88.out ?_
  refine wpAnyH_done (by kernel_rfl) ?_ _
  by_cases c91 : (((ay) : Int) : Rat) < y ∧ y < (((bY) : Int) : Rat)
  ·have CU := zH c91
   clear c91
   have HCR := zH (cross_up (a := (ax, ay)) (b := (bx, bY)) CU.out)
   have HPRE := zH (xat_pre (a := ay) (b := bY) (.inl CU.out))
   have hz1 : rcmp (((ay) : Int) : Rat) y = -1 := rcmp_m1 CU.out.1
   have hz2 : rcmp (((bY) : Int) : Rat) y = 1 := rcmp_p1 CU.out.2
   rw [hz1, hz2]
   clear hz1 hz2
   change Code.wpIn _ _ _ _ _ _ _
   refine wpIn_seq ?_
   refine wpIn_seq ?_
   refine wpIn_region_plain (by kernel_rfl) (fun ⟨_, _, h⟩ => h) ?_
   refine qV (.int .i64 (-1)) ?_
   refine zq (.int .i64 1) ?_
   refine zp (w' := w83) (.int .i64 (-1)) (by exact ez3 (by have ob0 := HB4.out.1; have ob1 := HB4.out.2.1; have ob2 := HB4.out.2.2.1; have ob3 := HB4.out.2.2.2; omega)) ?_
   refine zp (w' := w83) (.bool false) (by exact ezo (e := (dec_f (by have ob0 := HB4.out.1; have ob1 := HB4.out.2.1; have ob2 := HB4.out.2.2.1; have ob3 := HB4.out.2.2.2; omega)))) ?_
   change Code.wpIn _ _ _ _ _ _ _
   refine wpIn_cond_false (by rfl) ?_
   refine wpIn_skip ?_
   change Code.wpIn _ _ _ _ _ _ _
   refine wpIn_seq ?_
   refine wpIn_region_plain (by kernel_rfl) (fun ⟨_, _, h⟩ => h) ?_
   refine zd Xa (0) [.int .i64 ax, .int .i64 ay] (H85.out.range (i := 3) (by rfl) 0 2) Tryz.underlying44 ?_
   refine zd Xb (0) [.int .i64 bx, .int .i64 bY] (H85.out.range (i := 4) (by rfl) 0 2) Tryz.underlying44 ?_
   refine zd X3 (0) (rc ry) (H85.out.range (i := 0) (by rfl) 0 4) Tryz.underlying27 ?_
   have DD98 := zH (((((D60.out.trans D67.out).trans D73.out).trans D79.out).trans D85.out))
   refine zc (xat_any L ax ay bx bY _ y _ (RV.In.nin (HYW.out.dig DD98.out)) h1L (by omega) HOKE.out.1 HOKE.out.2 HPRE.out.1 HPRE.out.2.1 HPRE.out.2.2) ?_
   rintro e w96 ⟨c_, rfl, hc_, hx⟩
   have H99 := zH (H85.out.step hx)
   have D99 := zH (Dig.of_ext hx)
   have K101 := zH (show Fr (fun kz => kz = Bo ∨ Value.ownBlock (.slice A n c) = some kz) W w96 from K87.out.trans (Fr.of_ext hx))
   obtain ⟨r97, rfl, hr_⟩ := hc_
   have R97 := zH hr_
   have B97 := zH (rl_xat HOKE.out.1 HOKE.out.2 HYL.out)
   clear hr_
   clear hx
   refine zn ?_
   refine qV (.tuple #[.agg #[.bool r97.n, .slice r97.p r97.l r97.c, .bool r97.m, .slice r97.p2 r97.l2 r97.c2], .bool true]) ?_
   refine zq (.agg #[.bool r97.n, .slice r97.p r97.l r97.c, .bool r97.m, .slice r97.p2 r97.l2 r97.c2]) ?_
   refine zq (.bool true) ?_
   refine mv_alloc (T := 27) (zs := [.bool false, .slice none 0 0, .bool false, .slice none 0 0]) (by rfl) (by go_simp) H99.out (by simp [NoUL]) ?_
   intro X105 w106 hh hx hge
   have Q107 := zH (show W.heap.size ≤ X105 from Nat.le_trans K101.out.size hge)
   have H108 := zH (show Hp w w106 [.blk X3 27 (rc ry), .blk Bo 56 [.slice A n c], ro 59 5 A n c MkE.cells es, .blk Xa 44 [.int .i64 ax, .int .i64 ay], .blk Xb 44 [.int .i64 bx, .int .i64 bY], .blk X105 27 rz] from hh)
   have D108 := zH (Dig.of_ext hx)
   have K110 := zH (show Fr (fun kz => kz = Bo ∨ Value.ownBlock (.slice A n c) = some kz) W w106 from K101.out.trans (Fr.of_ext hx))
   clear hh hx hge
   try simp only [Act.put, zA, zB, zC]
   refine mv_st (by rfl) _ _ _ (by rfl) H108.out (ix := 5) (by rfl) 0 [.bool r97.n, .slice r97.p r97.l r97.c, .bool r97.m, .slice r97.p2 r97.l2 r97.c2] (by rfl) (by rfl) (by simp) (by kernel_rfl) (by simp [Value.oneCell']) (by simp [NoUL]) ?_
   intro w112 hh hd ho
   have H113 := zH (show Hp w w112 [.blk X3 27 (rc ry), .blk Bo 56 [.slice A n c], ro 59 5 A n c MkE.cells es, .blk Xa 44 [.int .i64 ax, .int .i64 ay], .blk Xb 44 [.int .i64 bx, .int .i64 bY], .blk X105 27 (rc r97)] from hh)
   have D113 := zH (hd)
   have K115 := zH (show Fr (fun kz => kz = Bo ∨ Value.ownBlock (.slice A n c) = some kz) W w112 from K110.out.trans_new ho (fun j hj => .inr (by injection hj with hj; rw [← hj]; exact Q107.out)))
   clear hh hd ho
   (try simp only [Act.put])
   refine zq (.bool true) ?_
   change Code.wpIn _ _ _ _ _ _ _
   refine wpIn_seq ?_
   refine wpIn_region_plain (by kernel_rfl) (fun ⟨_, _, h⟩ => h) ?_
   refine zq (.bool true) ?_
   change Code.wpIn _ _ _ _ _ _ _
   refine wpIn_cond_true (by rfl) ?_
   have HNB := zH hnp4
   refine wpIn_region_plain (by kernel_rfl) (fun ⟨_, _, h⟩ => h) ?_
   refine ze Bo 0 (.slice A n c) (H113.out.range (i := 1) (by rfl) 0 1) ?_
   refine zd X105 (0) (rc r97) (H113.out.range (i := 5) (by rfl) 0 4) Tryz.underlying27 ?_
   refine qV (.int .i64 1) ?_
   refine zq (.agg #[.bool r97.n, .slice r97.p r97.l r97.c, .bool r97.m, .slice r97.p2 r97.l2 r97.c2, .int .i64 1]) ?_
   refine zp (w' := (w112.alloc (.cells ([.bool r97.n, .slice r97.p r97.l r97.c, .bool r97.m, .slice r97.p2 r97.l2 r97.c2, .int .i64 1] : List Value).toArray 59))) (.slice (some ⟨w112.heap.size, 0, none⟩) 1 1) (by go_simp) ?_
   refine mv_app (by rfl) _ _ _ (by rfl) elMark (by rfl) H113.out (ix := 2) (by rfl) 1 1 [.bool r97.n, .slice r97.p r97.l r97.c, .bool r97.m, .slice r97.p2 r97.l2 r97.c2, .int .i64 1] (by rfl) rfl (by simp [Value.oneCell']) (by simp [NoUL]) (by decide) (by unfold maxLen; exact (by have ob0 := HB4.out.1; have ob1 := HB4.out.2.1; have ob2 := HB4.out.2.2.1; have ob3 := HB4.out.2.2.2; have ob4 := HNB.out; omega)) (by have ob0 := HB4.out.1; have ob1 := HB4.out.2.1; have ob2 := HB4.out.2.2.1; have ob3 := HB4.out.2.2.2; have ob4 := HNB.out; omega) ?_
   intro g121 cp122 w120 hf hh hd hg
   have Fg121 := zH hf
   clear hf
   rw [show List.flatMap MkE.cells es ++ [.bool r97.n, .slice r97.p r97.l r97.c, .bool r97.m, .slice r97.p2 r97.l2 r97.c2, .int .i64 1] = List.flatMap MkE.cells (es ++ [(⟨r97, (xatV ax ay bx bY y), 1⟩ : MkE)]) from flat_snoc MkE.cells _ (⟨r97, (xatV ax ay bx bY y), 1⟩ : MkE)] at hh
   have H123 := zH (show Hp w w120 [.blk X3 27 (rc ry), .blk Bo 56 [.slice A n c], ro 59 5 (some ⟨g121, 0, none⟩) (n + 1) cp122 MkE.cells (es ++ [(⟨r97, (xatV ax ay bx bY y), 1⟩ : MkE)]), .blk Xa 44 [.int .i64 ax, .int .i64 ay], .blk Xb 44 [.int .i64 bx, .int .i64 bY], .blk X105 27 (rc r97)] from hh)
   have D123 := zH (hd)
   have K125 := zH (show Fr (fun kz => kz = Bo ∨ Value.ownBlock (.slice A n c) = some kz) W w120 from (K115.out.trans (Fr.of_ext ((Ext.refl _).alloc _))).trans_new hg (fun j hj => .inl (.inr hj)))
   clear hh hd hg
   try simp only [Act.put, zA, zB, zC]
   refine mv_st1 (by rfl) _ _ _ (by rfl) H123.out (ix := 1) (by rfl) 0 (.slice (some ⟨g121, 0, none⟩) (n + 1) cp122) (by rfl) (by rfl) (by simp) (by kernel_rfl) (by simp [Value.cells]) (by simp [Value.oneCell']) (by simp [NoUL]) ?_
   intro w126 hh hd ho
   have H127 := zH (show Hp w w126 [.blk X3 27 (rc ry), .blk Bo 56 [.slice (some ⟨g121, 0, none⟩) (n + 1) cp122], ro 59 5 (some ⟨g121, 0, none⟩) (n + 1) cp122 MkE.cells (es ++ [(⟨r97, (xatV ax ay bx bY y), 1⟩ : MkE)]), .blk Xa 44 [.int .i64 ax, .int .i64 ay], .blk Xb 44 [.int .i64 bx, .int .i64 bY], .blk X105 27 (rc r97)] from hh)
   have D127 := zH (hd)
   have K129 := zH (show Fr (fun kz => kz = Bo ∨ Value.ownBlock (.slice A n c) = some kz) W w126 from K125.out.trans_new ho (fun j hj => .inl (.inl (by injection hj with hj; exact hj.symm))))
   clear hh hd ho
   (try simp only [Act.put])
   have DD130 := zH ((((D108.out.trans D113.out).trans D123.out).trans D127.out))
   have HNEW := zH (show MkE.Ok (L + 8) w126 (⟨r97, (xatV ax ay bx bY y), 1⟩ : MkE) from ⟨(R97.out.dig DD130.out), B97.out, (show (-1 : Int) ≤ 1 by decide), (show (1 : Int) ≤ 1 by decide)⟩)
   exact ⟨(KeepsFrom.of_fr K129.out (fun k hk o ho => hk.elim (fun e => H0.out.cells (i := 1) (by rfl) (by rw [e]; rfl) o ho) (fun e => H0.out.cells (i := 2) (by rfl) (by exact e) o ho))), (K129.out.imp (fun k hk => hk.imp id (fun e => HFAR.out k e))), _, _, _, _, H127.out.take 3, HD.out.trans (((((((((D60.out.trans D67.out).trans D73.out).trans D79.out).trans D85.out).trans D99.out).trans D108.out).trans D113.out).trans D123.out).trans D127.out), (fun k hk => by (have hk2 : g121 = k := by simpa [Value.ownBlock] using hk); (subst hk2); exact Fg121.out.elim (fun q => HFAR.out _ q) (fun q => Nat.le_trans HSZ.out (Nat.le_trans K115.out.size q))), (fun e he => (List.mem_append.1 he).elim (fun he => (HOKS.out e he).dig (((((((((D60.out.trans D67.out).trans D73.out).trans D79.out).trans D85.out).trans D99.out).trans D108.out).trans D113.out).trans D123.out).trans D127.out)) (fun he => by rw [List.mem_singleton.1 he]; exact HNEW.out)), (by rw [List.map_append, HVL.out, List.map_append, List.filterMap_append]; simp [HCR.out, MkE.vl]), (by rw [List.length_append, ← HNL.out]; rfl), (by have h := HNP.out; simp; omega), Nat.le_trans HSZ.out K129.out.size⟩
  have CU := zH c91
  clear c91
  by_cases c131 : (((bY) : Int) : Rat) < y ∧ y < (((ay) : Int) : Rat)
  ·have CD := zH c131
   clear c131
   have HCR := zH (cross_down (a := (ax, ay)) (b := (bx, bY)) CD.out)
   have HPRE := zH (xat_pre (a := ay) (b := bY) (.inr CD.out))
   have hz1 : rcmp (((ay) : Int) : Rat) y = 1 := rcmp_p1 CD.out.2
   have hz2 : rcmp (((bY) : Int) : Rat) y = -1 := rcmp_m1 CD.out.1
   rw [hz1, hz2]
   clear hz1 hz2
   change Code.wpIn _ _ _ _ _ _ _
   refine wpIn_seq ?_
   refine wpIn_seq ?_
   refine wpIn_region_plain (by kernel_rfl) (fun ⟨_, _, h⟩ => h) ?_
   refine qV (.int .i64 1) ?_
   refine zq (.int .i64 (-1)) ?_
   refine zp (w' := w83) (.int .i64 (-1)) (by exact ez3 (by have ob0 := HB4.out.1; have ob1 := HB4.out.2.1; have ob2 := HB4.out.2.2.1; have ob3 := HB4.out.2.2.2; omega)) ?_
   refine zp (w' := w83) (.bool false) (by exact ezo (e := (dec_f (by have ob0 := HB4.out.1; have ob1 := HB4.out.2.1; have ob2 := HB4.out.2.2.1; have ob3 := HB4.out.2.2.2; omega)))) ?_
   change Code.wpIn _ _ _ _ _ _ _
   refine wpIn_cond_false (by rfl) ?_
   refine wpIn_skip ?_
   change Code.wpIn _ _ _ _ _ _ _
   refine wpIn_seq ?_
   refine wpIn_region_plain (by kernel_rfl) (fun ⟨_, _, h⟩ => h) ?_
   refine zd Xa (0) [.int .i64 ax, .int .i64 ay] (H85.out.range (i := 3) (by rfl) 0 2) Tryz.underlying44 ?_
   refine zd Xb (0) [.int .i64 bx, .int .i64 bY] (H85.out.range (i := 4) (by rfl) 0 2) Tryz.underlying44 ?_
   refine zd X3 (0) (rc ry) (H85.out.range (i := 0) (by rfl) 0 4) Tryz.underlying27 ?_
   have DD138 := zH (((((D60.out.trans D67.out).trans D73.out).trans D79.out).trans D85.out))
   refine zc (xat_any L ax ay bx bY _ y _ (RV.In.nin (HYW.out.dig DD138.out)) h1L (by omega) HOKE.out.1 HOKE.out.2 HPRE.out.1 HPRE.out.2.1 HPRE.out.2.2) ?_
   rintro e w136 ⟨c_, rfl, hc_, hx⟩
   have H139 := zH (H85.out.step hx)
   have D139 := zH (Dig.of_ext hx)
   have K141 := zH (show Fr (fun kz => kz = Bo ∨ Value.ownBlock (.slice A n c) = some kz) W w136 from K87.out.trans (Fr.of_ext hx))
   obtain ⟨r137, rfl, hr_⟩ := hc_
   have R137 := zH hr_
   have B137 := zH (rl_xat HOKE.out.1 HOKE.out.2 HYL.out)
   clear hr_
   clear hx
   refine zn ?_
   refine qV (.tuple #[.agg #[.bool r137.n, .slice r137.p r137.l r137.c, .bool r137.m, .slice r137.p2 r137.l2 r137.c2], .bool true]) ?_
   refine zq (.agg #[.bool r137.n, .slice r137.p r137.l r137.c, .bool r137.m, .slice r137.p2 r137.l2 r137.c2]) ?_
   refine zq (.bool true) ?_
   refine mv_alloc (T := 27) (zs := [.bool false, .slice none 0 0, .bool false, .slice none 0 0]) (by rfl) (by go_simp) H139.out (by simp [NoUL]) ?_
   intro X145 w146 hh hx hge
   have Q147 := zH (show W.heap.size ≤ X145 from Nat.le_trans K141.out.size hge)
   have H148 := zH (show Hp w w146 [.blk X3 27 (rc ry), .blk Bo 56 [.slice A n c], ro 59 5 A n c MkE.cells es, .blk Xa 44 [.int .i64 ax, .int .i64 ay], .blk Xb 44 [.int .i64 bx, .int .i64 bY], .blk X145 27 rz] from hh)
   have D148 := zH (Dig.of_ext hx)
   have K150 := zH (show Fr (fun kz => kz = Bo ∨ Value.ownBlock (.slice A n c) = some kz) W w146 from K141.out.trans (Fr.of_ext hx))
   clear hh hx hge
   try simp only [Act.put, zA, zB, zC]
   refine mv_st (by rfl) _ _ _ (by rfl) H148.out (ix := 5) (by rfl) 0 [.bool r137.n, .slice r137.p r137.l r137.c, .bool r137.m, .slice r137.p2 r137.l2 r137.c2] (by rfl) (by rfl) (by simp) (by kernel_rfl) (by simp [Value.oneCell']) (by simp [NoUL]) ?_
   intro w152 hh hd ho
   have H153 := zH (show Hp w w152 [.blk X3 27 (rc ry), .blk Bo 56 [.slice A n c], ro 59 5 A n c MkE.cells es, .blk Xa 44 [.int .i64 ax, .int .i64 ay], .blk Xb 44 [.int .i64 bx, .int .i64 bY], .blk X145 27 (rc r137)] from hh)
   have D153 := zH (hd)
   have K155 := zH (show Fr (fun kz => kz = Bo ∨ Value.ownBlock (.slice A n c) = some kz) W w152 from K150.out.trans_new ho (fun j hj => .inr (by injection hj with hj; rw [← hj]; exact Q147.out)))
   clear hh hd ho
   (try simp only [Act.put])
   refine zq (.bool true) ?_
   change Code.wpIn _ _ _ _ _ _ _
   refine wpIn_seq ?_
   refine wpIn_region_plain (by kernel_rfl) (fun ⟨_, _, h⟩ => h) ?_
   refine zq (.bool true) ?_
   change Code.wpIn _ _ _ _ _ _ _
   refine wpIn_cond_true (by rfl) ?_
   have HNB := zH hnp4
   refine wpIn_region_plain (by kernel_rfl) (fun ⟨_, _, h⟩ => h) ?_
   refine ze Bo 0 (.slice A n c) (H153.out.range (i := 1) (by rfl) 0 1) ?_
   refine zd X145 (0) (rc r137) (H153.out.range (i := 5) (by rfl) 0 4) Tryz.underlying27 ?_
   refine qV (.int .i64 (-1)) ?_
   refine zq (.agg #[.bool r137.n, .slice r137.p r137.l r137.c, .bool r137.m, .slice r137.p2 r137.l2 r137.c2, .int .i64 (-1)]) ?_
   refine zp (w' := (w152.alloc (.cells ([.bool r137.n, .slice r137.p r137.l r137.c, .bool r137.m, .slice r137.p2 r137.l2 r137.c2, .int .i64 (-1)] : List Value).toArray 59))) (.slice (some ⟨w152.heap.size, 0, none⟩) 1 1) (by go_simp) ?_
   refine mv_app (by rfl) _ _ _ (by rfl) elMark (by rfl) H153.out (ix := 2) (by rfl) 1 1 [.bool r137.n, .slice r137.p r137.l r137.c, .bool r137.m, .slice r137.p2 r137.l2 r137.c2, .int .i64 (-1)] (by rfl) rfl (by simp [Value.oneCell']) (by simp [NoUL]) (by decide) (by unfold maxLen; exact (by have ob0 := HB4.out.1; have ob1 := HB4.out.2.1; have ob2 := HB4.out.2.2.1; have ob3 := HB4.out.2.2.2; have ob4 := HNB.out; omega)) (by have ob0 := HB4.out.1; have ob1 := HB4.out.2.1; have ob2 := HB4.out.2.2.1; have ob3 := HB4.out.2.2.2; have ob4 := HNB.out; omega) ?_
   intro g161 cp162 w160 hf hh hd hg
   have Fg161 := zH hf
   clear hf
   rw [show List.flatMap MkE.cells es ++ [.bool r137.n, .slice r137.p r137.l r137.c, .bool r137.m, .slice r137.p2 r137.l2 r137.c2, .int .i64 (-1)] = List.flatMap MkE.cells (es ++ [(⟨r137, (xatV ax ay bx bY y), -1⟩ : MkE)]) from flat_snoc MkE.cells _ (⟨r137, (xatV ax ay bx bY y), -1⟩ : MkE)] at hh
   have H163 := zH (show Hp w w160 [.blk X3 27 (rc ry), .blk Bo 56 [.slice A n c], ro 59 5 (some ⟨g161, 0, none⟩) (n + 1) cp162 MkE.cells (es ++ [(⟨r137, (xatV ax ay bx bY y), -1⟩ : MkE)]), .blk Xa 44 [.int .i64 ax, .int .i64 ay], .blk Xb 44 [.int .i64 bx, .int .i64 bY], .blk X145 27 (rc r137)] from hh)
   have D163 := zH (hd)
   have K165 := zH (show Fr (fun kz => kz = Bo ∨ Value.ownBlock (.slice A n c) = some kz) W w160 from (K155.out.trans (Fr.of_ext ((Ext.refl _).alloc _))).trans_new hg (fun j hj => .inl (.inr hj)))
   clear hh hd hg
   try simp only [Act.put, zA, zB, zC]
   refine mv_st1 (by rfl) _ _ _ (by rfl) H163.out (ix := 1) (by rfl) 0 (.slice (some ⟨g161, 0, none⟩) (n + 1) cp162) (by rfl) (by rfl) (by simp) (by kernel_rfl) (by simp [Value.cells]) (by simp [Value.oneCell']) (by simp [NoUL]) ?_
   intro w166 hh hd ho
   have H167 := zH (show Hp w w166 [.blk X3 27 (rc ry), .blk Bo 56 [.slice (some ⟨g161, 0, none⟩) (n + 1) cp162], ro 59 5 (some ⟨g161, 0, none⟩) (n + 1) cp162 MkE.cells (es ++ [(⟨r137, (xatV ax ay bx bY y), -1⟩ : MkE)]), .blk Xa 44 [.int .i64 ax, .int .i64 ay], .blk Xb 44 [.int .i64 bx, .int .i64 bY], .blk X145 27 (rc r137)] from hh)
   have D167 := zH (hd)
   have K169 := zH (show Fr (fun kz => kz = Bo ∨ Value.ownBlock (.slice A n c) = some kz) W w166 from K165.out.trans_new ho (fun j hj => .inl (.inl (by injection hj with hj; exact hj.symm))))
   clear hh hd ho
   (try simp only [Act.put])
   have DD170 := zH ((((D148.out.trans D153.out).trans D163.out).trans D167.out))
   have HNEW := zH (show MkE.Ok (L + 8) w166 (⟨r137, (xatV ax ay bx bY y), -1⟩ : MkE) from ⟨(R137.out.dig DD170.out), B137.out, (show (-1 : Int) ≤ -1 by decide), (show (-1 : Int) ≤ 1 by decide)⟩)
   exact ⟨(KeepsFrom.of_fr K169.out (fun k hk o ho => hk.elim (fun e => H0.out.cells (i := 1) (by rfl) (by rw [e]; rfl) o ho) (fun e => H0.out.cells (i := 2) (by rfl) (by exact e) o ho))), (K169.out.imp (fun k hk => hk.imp id (fun e => HFAR.out k e))), _, _, _, _, H167.out.take 3, HD.out.trans (((((((((D60.out.trans D67.out).trans D73.out).trans D79.out).trans D85.out).trans D139.out).trans D148.out).trans D153.out).trans D163.out).trans D167.out), (fun k hk => by (have hk2 : g161 = k := by simpa [Value.ownBlock] using hk); (subst hk2); exact Fg161.out.elim (fun q => HFAR.out _ q) (fun q => Nat.le_trans HSZ.out (Nat.le_trans K155.out.size q))), (fun e he => (List.mem_append.1 he).elim (fun he => (HOKS.out e he).dig (((((((((D60.out.trans D67.out).trans D73.out).trans D79.out).trans D85.out).trans D139.out).trans D148.out).trans D153.out).trans D163.out).trans D167.out)) (fun he => by rw [List.mem_singleton.1 he]; exact HNEW.out)), (by rw [List.map_append, HVL.out, List.map_append, List.filterMap_append]; simp [HCR.out, MkE.vl]), (by rw [List.length_append, ← HNL.out]; rfl), (by have h := HNP.out; simp; omega), Nat.le_trans HSZ.out K169.out.size⟩
  have CD := zH c131
  clear c131
  have HCR := zH (cross_no (a := (ax, ay)) (b := (bx, bY)) CU.out CD.out)
  have HPR := zH (cross_prod CU.out CD.out)
  change Code.wpIn _ _ _ _ _ _ _
  refine wpIn_seq ?_
  refine wpIn_seq ?_
  refine wpIn_region_plain (by kernel_rfl) (fun ⟨_, _, h⟩ => h) ?_
  refine qV (.int .i64 (rcmp (((ay) : Int) : Rat) y)) ?_
  refine zq (.int .i64 (rcmp (((bY) : Int) : Rat) y)) ?_
  refine zp (w' := w83) (.int .i64 (rcmp (((ay) : Int) : Rat) y * rcmp (((bY) : Int) : Rat) y)) (by exact ev_mul (by rfl) (by rfl) (by rfl) rfl (by have := HPR.out.1; omega) (by have := HPR.out.2; omega)) ?_
  refine zp (w' := w83) (.bool true) (by exact ezo (e := (dec_t HPR.out.1))) ?_
  change Code.wpIn _ _ _ _ _ _ _
  refine wpIn_cond_true (by rfl) ?_
  refine wpIn_exit ?_
  exact ⟨(KeepsFrom.of_fr K87.out (fun k hk o ho => hk.elim (fun e => H0.out.cells (i := 1) (by rfl) (by rw [e]; rfl) o ho) (fun e => H0.out.cells (i := 2) (by rfl) (by exact e) o ho))), (K87.out.imp (fun k hk => hk.imp id (fun e => HFAR.out k e))), A, n, c, es, H85.out.take 3, HD.out.trans ((((D60.out.trans D67.out).trans D73.out).trans D79.out).trans D85.out), HFAR.out, (fun e he => (HOKS.out e he).dig ((((D60.out.trans D67.out).trans D73.out).trans D79.out).trans D85.out)), (by rw [HVL.out, List.map_append, List.filterMap_append]; simp [HCR.out]), HNL.out, (by have h := HNP.out; simp; omega), Nat.le_trans HSZ.out K87.out.size⟩
 case done =>
  rintro D xs W hD hxs ⟨A, n, c, es, hh, hd, hfar, hok, hvl, hnl, hnp, hsz⟩ hK
  have cB : W.cell? ⟨Bo, 0, none⟩ = some (.slice A n c) := hh.cell (i := 1) (by rfl) 0 (by rfl)
  have hrow := hh.row (i := 2) (by rfl)
  have hn4 : es.length ≤ 20000 := by
   have h1 : xs.length = (edgesV qs).length := by rw [← hxs, List.length_map]
   have h2 := edgesV_len qs
   have h3 := okR_tot hq1
   omega
  have HSO := zH (sortMk_any (L + 8) (.slice A n c) es w.heap.size W (by rw [← hnl]; exact hrow) hok (fun w e f he hf => marksCmp_any (L + 8) (by omega) w e f he hf) hn4)
  have HH := zH hh
  have HVL := zH hvl
  have HNL := zH hnl
  have HOK := zH hok
  have HXS := zH hxs
  have HD := zH hK
  clear hrow hh hvl hnl hok hxs hK hfar hnp hd
  gi_wp2
  refine ⟨trivial, ?_⟩
  gi_at_call 50
  refine (callsIn_wide.2 HSO.out).mono ?_
  rintro e Ws ⟨rfl, hrs, hgr⟩
  have HS := zH (HH.out.turn (i := 2) (e := .row 59 5 (.slice A n c) n (List.flatMap MkE.cells es)) (e' := .row 59 5 (.slice A n c) n (List.flatMap MkE.cells (Stb.stab ltK es))) (by rfl) (fun k h => h) hgr (by rw [← HNL.out] at hrs; exact hrs) (fun k hk => .inl hk))
  have cB2 : Ws.cell? ⟨Bo, 0, none⟩ = some (.slice A n c) := HS.out.cell (i := 1) (by rfl) 0 (by rfl)
  gi_wp2
  have hKs : Ws.heap[D]? = some (.deferred (some [])) := (hgr.block D (Array.getElem?_eq_some_iff.1 HD.out).1 (fun e => by
   have h1 := HH.out.cells (i := 2) (by rfl) (by exact e.symm) _ HD.out
   cases h1)).trans HD.out
  refine ⟨by simp, .inl ⟨_, _, rfl, run_takeDeferred hKs, ?_⟩⟩
  have hfin := HS.out.kept (grownBy_putObj' Ws D (.deferred none)) (fun k hk => by injection hk with hk; subst hk; exact ⟨Nat.le_trans HWS.out hD, _, hKs, rfl⟩)
  have hdf : Dig W _ := ((HH.out.growDig (i := 2) (by rfl) hgr).trans (Dig.kept (grownBy_putObj' Ws D (.deferred none)) (fun k hk => by injection hk with hk; subst hk; exact ⟨_, hKs, rfl⟩)))
  refine ⟨_, results_tmp rfl _ _ _, A, n, c, Stb.stab ltK es, rfl, by rw [Stb.stab_len]; exact HNL.out, hfin.row (i := 2) (by rfl), fun e he => (HOK.out e ((Stb.mem_stab).1 he)).dig hdf, ?_, hfin.ext⟩
  rw [HMV.out, stab_map MkE.vl (lt := ltK) (lt' := ltM) (fun _ _ => rfl), HVL.out, HXS.out]
  rfl
end Go.Proofs.YtaeeeailoiioaacGreat

namespace Go.Proofs.YtaeeeailoiioaacGreat
open Go.RowKit
attribute [local go_sem ↓] Go.wp_at_zero Go.wp_at_succ run_max_ii run_min_ii
def MkE.cx (e : MkE) : List Value := [.bool e.a.n, .slice e.a.p e.a.l e.a.c, .bool e.a.m, .slice e.a.p2 e.a.l2 e.a.c2]
def MkE.cu (e : MkE) : List Value := [.int .i64 e.up]
theorem MkE.cx_len (e : MkE) : e.cx.length = 4 := rfl
theorem MkE.cu_len (e : MkE) : e.cu.length = 1 := rfl
theorem marksV_len (y : Rat) (rs : List Ring) : (marksV y rs).length ≤ 4096 := by
  unfold marksV
  rw [Stb.stab_len]
  unfold crossesV
  refine Nat.le_trans (List.length_filterMap_le _ _) (Nat.le_trans (edgesV_len _) ?_)
  split
  · rename_i h; exact okR_tot h
  decide
def CrossRet (L : Nat) (rs : List Ring) (y : Rat) (w : World) (e : Ending) (w' : World) : Prop :=
  ∃ (A1 : Option Addr) (c1 : Nat) (A2 : Option Addr) (c2 : Nat) (n : Nat) (es : List MkE), e = .returned (.tuple #[.slice A1 n c1, .slice A2 n c2]) ∧ n = List.length es ∧ RowN w' w.heap.size 27 4 (.slice A1 n c1) n (List.flatMap MkE.cx es) ∧ RowN w' w.heap.size 3 1 (.slice A2 n c2) n (List.flatMap MkE.cu es) ∧
      (∀ e, e ∈ es → e.Ok (L + 8) w') ∧ es.map MkE.vl = marksV y rs ∧ Ext w w'
theorem take_snoc {α : Type} {l : List α} {k : Nat} {e : α} (h : l[k]? = some e) : l.take (k + 1) = l.take k ++ [e] := by rw [List.take_add_one, h]; rfl
set_option maxRecDepth 20000 in
set_option maxHeartbeats 4000000 in
theorem crossings_any (L : Nat) (u : Value) (rs : List Ring) (ry : RV) (y : Rat) (w : World) (hu : RingsV w u rs) (hy : ry.In L w y) (h1L : 1 ≤ L) (hL : L ≤ 2000) (hn : rs.length ≤ 100000) (hr : ∀ r, r ∈ rs → r.length ≤ 100000) :
  Calls Tryz.prog 18 #[u, .agg #[.bool ry.n, .slice ry.p ry.l ry.c, .bool ry.m, .slice ry.p2 ry.l2 ry.c2]] w (CrossRet L rs y w) := by
 have HU := zH hu
 have RY := zH hy
 clear hu hy
 go_enter Tryz.func18, Tryz.ntmps18
 have H0 := zH (Hp.start w)
 go_upto_region 0 with fail
 refine wp_region_lit ?_
 refine mv_alloc (T := 27) (zs := [.bool ry.n, .slice ry.p ry.l ry.c, .bool ry.m, .slice ry.p2 ry.l2 ry.c2]) (by rfl) (by go_simp) H0.out (by simp [NoUL]) ?_
 intro X1 w2 hh hx hge
 have H3 := zH (show Hp w w2 [.blk X1 27 (rc ry)] from hh)
 clear hh hx hge
 try simp only [Act.put, zA, zB, zC]
 refine qV (.slice none 0 0) ?_
 refine zq (.slice none 0 0) ?_
 go_upto_region 3 with fail
 refine wp_region_lit ?_
 refine qV (u) ?_
 refine zd X1 (0) (rc ry) (H3.out.range (i := 0) (by rfl) 0 4) Tryz.underlying27 ?_
 refine zc (marks_any L u rs ry y _ (HU.out.ext H3.out.ext) (RY.out.dig H3.out.dig0) h1L (by omega) hn hr) ?_
 rintro e w9 ⟨Am, nm_, cm, ms, rfl, rfl, hrow_, hok_, hval_, hx⟩
 have HVAL := zH hval_
 have HOK := zH hok_
 obtain ⟨Am2_, cm2_, hv_, hA_⟩ := RowN.form hrow_
 injection hv_ with e1_ _ _
 subst e1_
 have HA := zH hA_
 clear hval_ hok_ hA_
 have H10 := zH (show Hp w w9 [.blk X1 27 (rc ry), ro 59 5 Am ms.length cm MkE.cells ms] from H3.out.addRow hx hrow_)
 clear hrow_
 have hms4 : ms.length ≤ 4096 := by have h := marksV_len y rs; rw [← HVAL.out, List.length_map] at h; exact h
 clear hx
 refine zn ?_
 refine qV (.int .i64 ((ms.length : Nat) : Int)) ?_
 refine zq (.int .i64 0) ?_
 have H14 := zH (show Hp w w9 [.blk X1 27 (rc ry), ro 59 5 Am ms.length cm MkE.cells ms, ro 27 4 none 0 0 MkE.cx ([])] from H10.out.addNil 27 4)
 have H15 := zH (show Hp w w9 [.blk X1 27 (rc ry), ro 59 5 Am ms.length cm MkE.cells ms, ro 27 4 none 0 0 MkE.cx ([]), ro 3 1 none 0 0 MkE.cu ([])] from H14.out.addNil 3 1)
 go_wp2_with fail
 go_loopg [6, 7, 14] (ms.length) (fun cq v16 v17 v18 wr => ∃ (k : Nat) (es : List MkE) (A1 : Option Addr) (c1 : Nat) (A2 : Option Addr) (c2 : Nat), cq = ms.length - k ∧ v16 = .slice A1 k c1 ∧ v17 = .slice A2 k c2 ∧ v18 = .int .i64 (k : Int) ∧ (k ≤ ms.length) ∧ (es = ms.take k) ∧ Hp w wr [.blk X1 27 [.bool ry.n, .slice ry.p ry.l ry.c, .bool ry.m, .slice ry.p2 ry.l2 ry.c2], .row 59 5 (.slice Am ms.length cm) (ms.length) (List.flatMap MkE.cells ms), .row 27 4 (.slice A1 k c1) (k) (List.flatMap MkE.cx es), .row 3 1 (.slice A2 k c2) (k) (List.flatMap MkE.cu es)] ∧ Dig w9 wr)
 case atStart => exact ⟨0, [], none, 0, none, 0, rfl, rfl, rfl, rfl, Nat.zero_le _, rfl, H15.out, Dig.refl _⟩
 case round =>
  obtain ⟨k, es, A1, c1, A2, c2, rfl, rfl, rfl, rfl, q_HK, q_HES, hh_, hd_⟩ := hrel
  generalize wr = w19 at *
  have HK := zH q_HK
  clear q_HK
  have HES := zH q_HES
  clear q_HES
  have H21 := zH hh_
  have D21 := zH hd_
  clear hh_ hd_ H15
  by_cases c22 : k < ms.length
  ·have HLT := zH c22
   clear c22
   have hlt := HLT.out
   have hlt2 : (k : Int) < (ms.length : Int) := by omega
   obtain ⟨gm, rfl⟩ := HA.out (by omega)
   obtain ⟨e, he_⟩ : ∃ e, ms[k]? = some e := ⟨_, List.getElem?_eq_getElem hlt⟩
   have HEe := zH he_
   have HOe := zH (HOK.out e (List.mem_of_getElem? he_))
   have RAe := zH HOe.out.1
   have BAe := zH HOe.out.2.1
   clear he_
   have hk4 : k ≤ 4096 := by omega
   go_upto_region 5 with fail
   refine wp_region_lit ?_
   refine zp (w' := w19) (.pointer (some ⟨gm, k * 5, none⟩)) (by exact ezi (k := k) Tryz.underlying56 (l := HLT.out) (f := (Nat.zero_add _).symm)) ?_
   refine zd gm (k * 5) [.bool e.a.n, .slice e.a.p e.a.l e.a.c, .bool e.a.m, .slice e.a.p2 e.a.l2 e.a.c2, .int .i64 e.up] (H21.out.elem (f := MkE.cells) (i := 1) (by rfl) MkE.len HEe.out) Tryz.underlying59 ?_
   refine mv_alloc (T := 59) (zs := [.bool false, .slice none 0 0, .bool false, .slice none 0 0, .int .i64 0]) (by rfl) (by go_simp) H21.out (by simp [NoUL]) ?_
   intro X24 w25 hh hx hge
   have H26 := zH (show Hp w w25 [.blk X1 27 (rc ry), ro 59 5 (some ⟨gm, 0, none⟩) ms.length cm MkE.cells ms, ro 27 4 A1 k c1 MkE.cx es, ro 3 1 A2 k c2 MkE.cu es, .blk X24 59 [.bool false, .slice none 0 0, .bool false, .slice none 0 0, .int .i64 0]] from hh)
   have D26 := zH (Dig.of_ext hx)
   clear hh hx hge
   try simp only [Act.put, zA, zB, zC]
   refine mv_st (by rfl) _ _ _ (by rfl) H26.out (ix := 4) (by rfl) 0 [.bool e.a.n, .slice e.a.p e.a.l e.a.c, .bool e.a.m, .slice e.a.p2 e.a.l2 e.a.c2, .int .i64 e.up] (by rfl) (by rfl) (by simp) (by kernel_rfl) (by simp [Value.oneCell']) (by simp [NoUL]) ?_
   intro w29 hh hd ho
   have H30 := zH (show Hp w w29 [.blk X1 27 (rc ry), ro 59 5 (some ⟨gm, 0, none⟩) ms.length cm MkE.cells ms, ro 27 4 A1 k c1 MkE.cx es, ro 3 1 A2 k c2 MkE.cu es, .blk X24 59 [.bool e.a.n, .slice e.a.p e.a.l e.a.c, .bool e.a.m, .slice e.a.p2 e.a.l2 e.a.c2, .int .i64 e.up]] from hh)
   have D30 := zH (hd)
   clear hh hd ho
   (try simp only [Act.put])
   go_upto_region 6 with fail
   refine wp_region_held_drew (S := fun x => Fr (fun kz => Value.ownBlock (.slice A1 k c1) = some kz ∨ Value.ownBlock (.slice A2 k c2) = some kz) w29 x) (by kernel_rfl) (Fr.of_ext zb) (fun _ => ?_)
   have H32 := zH (H30.out.step (Ext.refl w29).drew)
   have D32 := zH (Dig.of_ext (w := w29) zb)
   refine zx 0 (bs 12 1) (.slice A1 k c1) (Fr.of_ext zb) ?_
   refine mX 1 (bs 12 3) (.pointer (some ⟨X24, 0, none⟩)) (Fr.of_ext zb) ?_
   refine zr 2 (bs 12 7) X24 (0) [.bool e.a.n, .slice e.a.p e.a.l e.a.c, .bool e.a.m, .slice e.a.p2 e.a.l2 e.a.c2] (fun x hx => Fr.range hx (show World.rangeAt w29 X24 (0) [.bool e.a.n, .slice e.a.p e.a.l e.a.c, .bool e.a.m, .slice e.a.p2 e.a.l2 e.a.c2] from (H30.out.range (i := 4) (by rfl) 0 4)) (fun hk => hk.elim (H30.out.offRow (i := 4) (j := 2) (by rfl) (by rfl) (by decide) (by rfl)) (H30.out.offRow (i := 4) (j := 3) (by rfl) (by rfl) (by decide) (by rfl)))) Tryz.underlying27 (Fr.of_ext zb) ?_
   refine zx 5 (bs 12 39) (.slice A2 k c2) (Fr.of_ext zb) ?_
   refine zx 6 (bs 12 103) (.pointer (some ⟨X24, 4, none⟩)) (Fr.of_ext zb) ?_
   refine md_ld1 (g := X24) (o := 4) (v := .int .i64 e.up) (i := 7) (listed' := (bs 12 231)) (by rfl) (by kernel_rfl) (by kernel_rfl) (by kernel_rfl) (by intro _ _ _ h; exact h) (by rfl) (fun x hx => Fr.cell hx (show World.cell? w29 ⟨X24, 4, none⟩ = some (.int .i64 e.up) from cell_of_range (H30.out.range (i := 4) (by rfl) 4 1)) (fun hk => hk.elim (H30.out.offRow (i := 4) (j := 2) (by rfl) (by rfl) (by decide) (by rfl)) (H30.out.offRow (i := 4) (j := 3) (by rfl) (by rfl) (by decide) (by rfl)))) (by intro x hq; go_simp <;> with_reducible rfl) (Fr.of_ext zb) (by kernel_rfl) ?_
   try simp only [Act.put, zA, zB, zC]
   refine at_or (i := 3) (j := 8) (by rfl) (by rfl) (by kernel_rfl) ?_ ?_
   ·refine at_lit (T := 27) (zs := [.bool e.a.n, .slice e.a.p e.a.l e.a.c, .bool e.a.m, .slice e.a.p2 e.a.l2 e.a.c2]) (n := 1) (listed' := (bs 12 239)) (by rfl) (by go_simp) (by kernel_rfl) H32.out (by simp [NoUL]) ?_
    intro X38 w39 hh hx hge
    have H40 := zH (show Hp w w39 [.blk X1 27 (rc ry), ro 59 5 (some ⟨gm, 0, none⟩) ms.length cm MkE.cells ms, ro 27 4 A1 k c1 MkE.cx es, ro 3 1 A2 k c2 MkE.cu es, .blk X24 59 [.bool e.a.n, .slice e.a.p e.a.l e.a.c, .bool e.a.m, .slice e.a.p2 e.a.l2 e.a.c2, .int .i64 e.up], .blk X38 27 (rc e.a)] from hh)
    have D40 := zH (show Dig w29.drew w39 from Dig.of_ext hx)
    have S42 := zH (show Fr (fun kz => Value.ownBlock (.slice A1 k c1) = some kz ∨ Value.ownBlock (.slice A2 k c2) = some kz) w29 w39 from (Fr.of_ext zb).trans (Fr.of_ext hx))
    clear hh hx hge
    refine ⟨S42.out, ?_⟩
    try simp only [Act.put, zA, zB, zC]
    refine at_or (i := 4) (j := 8) (by rfl) (by rfl) (by kernel_rfl) ?_ ?_
    ·refine at_app (listed' := (bs 12 255)) (by rfl) _ _ _ (by rfl) elRat (by rfl) H40.out (ix := 2) (jx := 5) (by rfl) 1 1 [.bool e.a.n, .slice e.a.p e.a.l e.a.c, .bool e.a.m, .slice e.a.p2 e.a.l2 e.a.c2] (by rfl) (by rfl) rfl (by simp [Value.oneCell']) (by simp [NoUL]) (by decide) (by unfold maxLen; exact (by omega)) (by omega) (by kernel_rfl) ?_
     intro g44 cp45 w43 hf hh hd hg
     have Fg44 := zH hf
     clear hf
     rw [show List.flatMap MkE.cx es ++ [.bool e.a.n, .slice e.a.p e.a.l e.a.c, .bool e.a.m, .slice e.a.p2 e.a.l2 e.a.c2] = List.flatMap MkE.cx (es ++ [e]) from flat_snoc MkE.cx _ e] at hh
     have H46 := zH (show Hp w w43 [.blk X1 27 (rc ry), ro 59 5 (some ⟨gm, 0, none⟩) ms.length cm MkE.cells ms, ro 27 4 (some ⟨g44, 0, none⟩) (k + 1) cp45 MkE.cx (es ++ [e]), ro 3 1 A2 k c2 MkE.cu es, .blk X24 59 [.bool e.a.n, .slice e.a.p e.a.l e.a.c, .bool e.a.m, .slice e.a.p2 e.a.l2 e.a.c2, .int .i64 e.up], .blk X38 27 (rc e.a)] from hh)
     have D46 := zH (hd)
     have S48 := zH (show Fr (fun kz => Value.ownBlock (.slice A1 k c1) = some kz ∨ Value.ownBlock (.slice A2 k c2) = some kz) w29 w43 from Fr.trans_new S42.out hg (fun j hj => .inl (.inl hj)))
     clear hh hd hg
     refine ⟨S48.out, ?_⟩
     try simp only [Act.put, zA, zB, zC]
     refine at_one (i := 8) (by rfl) (by kernel_rfl) ?_
     refine at_lit (T := 3) (zs := [.int .i64 e.up]) (n := 1) (listed' := (bs 12 511)) (by rfl) (by go_simp) (by kernel_rfl) H46.out (by simp [NoUL]) ?_
     intro X49 w50 hh hx hge
     have H51 := zH (show Hp w w50 [.blk X1 27 (rc ry), ro 59 5 (some ⟨gm, 0, none⟩) ms.length cm MkE.cells ms, ro 27 4 (some ⟨g44, 0, none⟩) (k + 1) cp45 MkE.cx (es ++ [e]), ro 3 1 A2 k c2 MkE.cu es, .blk X24 59 [.bool e.a.n, .slice e.a.p e.a.l e.a.c, .bool e.a.m, .slice e.a.p2 e.a.l2 e.a.c2, .int .i64 e.up], .blk X38 27 (rc e.a), .blk X49 3 [.int .i64 e.up]] from hh)
     have D51 := zH (Dig.of_ext hx)
     have S53 := zH (show Fr (fun kz => Value.ownBlock (.slice A1 k c1) = some kz ∨ Value.ownBlock (.slice A2 k c2) = some kz) w29 w50 from S48.out.trans (Fr.of_ext hx))
     clear hh hx hge
     refine ⟨S53.out, ?_⟩
     try simp only [Act.put, zA, zB, zC]
     refine at_one (i := 9) (by rfl) (by kernel_rfl) ?_
     refine at_app (listed' := (bs 12 1023)) (by rfl) _ _ _ (by rfl) elInt (by rfl) H51.out (ix := 3) (jx := 6) (by rfl) 1 1 [.int .i64 e.up] (by rfl) (by rfl) rfl (by simp [Value.oneCell']) (by simp [NoUL]) (by decide) (by unfold maxLen; exact (by omega)) (by omega) (by kernel_rfl) ?_
     intro g55 cp56 w54 hf hh hd hg
     have Fg55 := zH hf
     clear hf
     rw [show List.flatMap MkE.cu es ++ [.int .i64 e.up] = List.flatMap MkE.cu (es ++ [e]) from flat_snoc MkE.cu _ e] at hh
     have H57 := zH (show Hp w w54 [.blk X1 27 (rc ry), ro 59 5 (some ⟨gm, 0, none⟩) ms.length cm MkE.cells ms, ro 27 4 (some ⟨g44, 0, none⟩) (k + 1) cp45 MkE.cx (es ++ [e]), ro 3 1 (some ⟨g55, 0, none⟩) (k + 1) cp56 MkE.cu (es ++ [e]), .blk X24 59 [.bool e.a.n, .slice e.a.p e.a.l e.a.c, .bool e.a.m, .slice e.a.p2 e.a.l2 e.a.c2, .int .i64 e.up], .blk X38 27 (rc e.a), .blk X49 3 [.int .i64 e.up]] from hh)
     have D57 := zH (hd)
     have S59 := zH (show Fr (fun kz => Value.ownBlock (.slice A1 k c1) = some kz ∨ Value.ownBlock (.slice A2 k c2) = some kz) w29 w54 from Fr.trans_new S53.out hg (fun j hj => .inl (.inr hj)))
     clear hh hd hg
     refine ⟨S59.out, ?_⟩
     try simp only [Act.put, zA, zB, zC]
     refine zx 10 (bs 12 2047) (.slice (some ⟨g44, 0, none⟩) (k + 1) cp45) S59.out ?_
     refine zx 11 (bs 12 4095) (.slice (some ⟨g55, 0, none⟩) (k + 1) cp56) S59.out ?_
     refine wpAnyH_done (by kernel_rfl) ?_ _
     have DD62 := zH ((((((((D21.out.trans D26.out).trans D30.out).trans D32.out).trans D40.out).trans D46.out).trans D51.out).trans D57.out))
     go_wp2_with fail
     go_roundg (ms.length - (k + 1))
     case measure => exact (by have ob1 := HLT.out; omega)
     case rel => exact ⟨k + 1, es ++ [e], some ⟨g44, 0, none⟩, cp45, some ⟨g55, 0, none⟩, cp56, rfl, rfl, rfl, (by go_num), HLT.out, (by rw [HES.out]; exact (take_snoc HEe.out).symm), H57.out.take 4, DD62.out⟩
    refine at_lit (T := 3) (zs := [.int .i64 e.up]) (n := 1) (listed' := (bs 12 495)) (by rfl) (by go_simp) (by kernel_rfl) H40.out (by simp [NoUL]) ?_
    intro X63 w64 hh hx hge
    have H65 := zH (show Hp w w64 [.blk X1 27 (rc ry), ro 59 5 (some ⟨gm, 0, none⟩) ms.length cm MkE.cells ms, ro 27 4 A1 k c1 MkE.cx es, ro 3 1 A2 k c2 MkE.cu es, .blk X24 59 [.bool e.a.n, .slice e.a.p e.a.l e.a.c, .bool e.a.m, .slice e.a.p2 e.a.l2 e.a.c2, .int .i64 e.up], .blk X38 27 (rc e.a), .blk X63 3 [.int .i64 e.up]] from hh)
    have D65 := zH (Dig.of_ext hx)
    have S67 := zH (show Fr (fun kz => Value.ownBlock (.slice A1 k c1) = some kz ∨ Value.ownBlock (.slice A2 k c2) = some kz) w29 w64 from S42.out.trans (Fr.of_ext hx))
    clear hh hx hge
    refine ⟨S67.out, ?_⟩
    try simp only [Act.put, zA, zB, zC]
    refine at_one (i := 4) (by rfl) (by kernel_rfl) ?_
    refine at_app (listed' := (bs 12 511)) (by rfl) _ _ _ (by rfl) elRat (by rfl) H65.out (ix := 2) (jx := 5) (by rfl) 1 1 [.bool e.a.n, .slice e.a.p e.a.l e.a.c, .bool e.a.m, .slice e.a.p2 e.a.l2 e.a.c2] (by rfl) (by rfl) rfl (by simp [Value.oneCell']) (by simp [NoUL]) (by decide) (by unfold maxLen; exact (by omega)) (by omega) (by kernel_rfl) ?_
    intro g69 cp70 w68 hf hh hd hg
    have Fg69 := zH hf
    clear hf
    rw [show List.flatMap MkE.cx es ++ [.bool e.a.n, .slice e.a.p e.a.l e.a.c, .bool e.a.m, .slice e.a.p2 e.a.l2 e.a.c2] = List.flatMap MkE.cx (es ++ [e]) from flat_snoc MkE.cx _ e] at hh
    have H71 := zH (show Hp w w68 [.blk X1 27 (rc ry), ro 59 5 (some ⟨gm, 0, none⟩) ms.length cm MkE.cells ms, ro 27 4 (some ⟨g69, 0, none⟩) (k + 1) cp70 MkE.cx (es ++ [e]), ro 3 1 A2 k c2 MkE.cu es, .blk X24 59 [.bool e.a.n, .slice e.a.p e.a.l e.a.c, .bool e.a.m, .slice e.a.p2 e.a.l2 e.a.c2, .int .i64 e.up], .blk X38 27 (rc e.a), .blk X63 3 [.int .i64 e.up]] from hh)
    have D71 := zH (hd)
    have S73 := zH (show Fr (fun kz => Value.ownBlock (.slice A1 k c1) = some kz ∨ Value.ownBlock (.slice A2 k c2) = some kz) w29 w68 from Fr.trans_new S67.out hg (fun j hj => .inl (.inl hj)))
    clear hh hd hg
    refine ⟨S73.out, ?_⟩
    try simp only [Act.put, zA, zB, zC]
    refine at_one (i := 9) (by rfl) (by kernel_rfl) ?_
    refine at_app (listed' := (bs 12 1023)) (by rfl) _ _ _ (by rfl) elInt (by rfl) H71.out (ix := 3) (jx := 6) (by rfl) 1 1 [.int .i64 e.up] (by rfl) (by rfl) rfl (by simp [Value.oneCell']) (by simp [NoUL]) (by decide) (by unfold maxLen; exact (by omega)) (by omega) (by kernel_rfl) ?_
    intro g75 cp76 w74 hf hh hd hg
    have Fg75 := zH hf
    clear hf
    rw [show List.flatMap MkE.cu es ++ [.int .i64 e.up] = List.flatMap MkE.cu (es ++ [e]) from flat_snoc MkE.cu _ e] at hh
    have H77 := zH (show Hp w w74 [.blk X1 27 (rc ry), ro 59 5 (some ⟨gm, 0, none⟩) ms.length cm MkE.cells ms, ro 27 4 (some ⟨g69, 0, none⟩) (k + 1) cp70 MkE.cx (es ++ [e]), ro 3 1 (some ⟨g75, 0, none⟩) (k + 1) cp76 MkE.cu (es ++ [e]), .blk X24 59 [.bool e.a.n, .slice e.a.p e.a.l e.a.c, .bool e.a.m, .slice e.a.p2 e.a.l2 e.a.c2, .int .i64 e.up], .blk X38 27 (rc e.a), .blk X63 3 [.int .i64 e.up]] from hh)
    have D77 := zH (hd)
    have S79 := zH (show Fr (fun kz => Value.ownBlock (.slice A1 k c1) = some kz ∨ Value.ownBlock (.slice A2 k c2) = some kz) w29 w74 from Fr.trans_new S73.out hg (fun j hj => .inl (.inr hj)))
    clear hh hd hg
    refine ⟨S79.out, ?_⟩
    try simp only [Act.put, zA, zB, zC]
    refine zx 10 (bs 12 2047) (.slice (some ⟨g69, 0, none⟩) (k + 1) cp70) S79.out ?_
    refine zx 11 (bs 12 4095) (.slice (some ⟨g75, 0, none⟩) (k + 1) cp76) S79.out ?_
    refine wpAnyH_done (by kernel_rfl) ?_ _
    have DD82 := zH ((((((((D21.out.trans D26.out).trans D30.out).trans D32.out).trans D40.out).trans D65.out).trans D71.out).trans D77.out))
    go_wp2_with fail
    go_roundg (ms.length - (k + 1))
    case measure => exact (by have ob1 := HLT.out; omega)
    case rel => exact ⟨k + 1, es ++ [e], some ⟨g69, 0, none⟩, cp70, some ⟨g75, 0, none⟩, cp76, rfl, rfl, rfl, (by go_num), HLT.out, (by rw [HES.out]; exact (take_snoc HEe.out).symm), H77.out.take 4, DD82.out⟩
   refine at_lit (T := 3) (zs := [.int .i64 e.up]) (n := 1) (listed' := (bs 12 487)) (by rfl) (by go_simp) (by kernel_rfl) H32.out (by simp [NoUL]) ?_
   intro X83 w84 hh hx hge
   have H85 := zH (show Hp w w84 [.blk X1 27 (rc ry), ro 59 5 (some ⟨gm, 0, none⟩) ms.length cm MkE.cells ms, ro 27 4 A1 k c1 MkE.cx es, ro 3 1 A2 k c2 MkE.cu es, .blk X24 59 [.bool e.a.n, .slice e.a.p e.a.l e.a.c, .bool e.a.m, .slice e.a.p2 e.a.l2 e.a.c2, .int .i64 e.up], .blk X83 3 [.int .i64 e.up]] from hh)
   have D85 := zH (show Dig w29.drew w84 from Dig.of_ext hx)
   have S87 := zH (show Fr (fun kz => Value.ownBlock (.slice A1 k c1) = some kz ∨ Value.ownBlock (.slice A2 k c2) = some kz) w29 w84 from (Fr.of_ext zb).trans (Fr.of_ext hx))
   clear hh hx hge
   refine ⟨S87.out, ?_⟩
   try simp only [Act.put, zA, zB, zC]
   refine at_one (i := 3) (by rfl) (by kernel_rfl) ?_
   refine at_lit (T := 27) (zs := [.bool e.a.n, .slice e.a.p e.a.l e.a.c, .bool e.a.m, .slice e.a.p2 e.a.l2 e.a.c2]) (n := 1) (listed' := (bs 12 495)) (by rfl) (by go_simp) (by kernel_rfl) H85.out (by simp [NoUL]) ?_
   intro X88 w89 hh hx hge
   have H90 := zH (show Hp w w89 [.blk X1 27 (rc ry), ro 59 5 (some ⟨gm, 0, none⟩) ms.length cm MkE.cells ms, ro 27 4 A1 k c1 MkE.cx es, ro 3 1 A2 k c2 MkE.cu es, .blk X24 59 [.bool e.a.n, .slice e.a.p e.a.l e.a.c, .bool e.a.m, .slice e.a.p2 e.a.l2 e.a.c2, .int .i64 e.up], .blk X83 3 [.int .i64 e.up], .blk X88 27 (rc e.a)] from hh)
   have D90 := zH (Dig.of_ext hx)
   have S92 := zH (show Fr (fun kz => Value.ownBlock (.slice A1 k c1) = some kz ∨ Value.ownBlock (.slice A2 k c2) = some kz) w29 w89 from S87.out.trans (Fr.of_ext hx))
   clear hh hx hge
   refine ⟨S92.out, ?_⟩
   try simp only [Act.put, zA, zB, zC]
   refine at_one (i := 4) (by rfl) (by kernel_rfl) ?_
   refine at_app (listed' := (bs 12 511)) (by rfl) _ _ _ (by rfl) elRat (by rfl) H90.out (ix := 2) (jx := 6) (by rfl) 1 1 [.bool e.a.n, .slice e.a.p e.a.l e.a.c, .bool e.a.m, .slice e.a.p2 e.a.l2 e.a.c2] (by rfl) (by rfl) rfl (by simp [Value.oneCell']) (by simp [NoUL]) (by decide) (by unfold maxLen; exact (by omega)) (by omega) (by kernel_rfl) ?_
   intro g94 cp95 w93 hf hh hd hg
   have Fg94 := zH hf
   clear hf
   rw [show List.flatMap MkE.cx es ++ [.bool e.a.n, .slice e.a.p e.a.l e.a.c, .bool e.a.m, .slice e.a.p2 e.a.l2 e.a.c2] = List.flatMap MkE.cx (es ++ [e]) from flat_snoc MkE.cx _ e] at hh
   have H96 := zH (show Hp w w93 [.blk X1 27 (rc ry), ro 59 5 (some ⟨gm, 0, none⟩) ms.length cm MkE.cells ms, ro 27 4 (some ⟨g94, 0, none⟩) (k + 1) cp95 MkE.cx (es ++ [e]), ro 3 1 A2 k c2 MkE.cu es, .blk X24 59 [.bool e.a.n, .slice e.a.p e.a.l e.a.c, .bool e.a.m, .slice e.a.p2 e.a.l2 e.a.c2, .int .i64 e.up], .blk X83 3 [.int .i64 e.up], .blk X88 27 (rc e.a)] from hh)
   have D96 := zH (hd)
   have S98 := zH (show Fr (fun kz => Value.ownBlock (.slice A1 k c1) = some kz ∨ Value.ownBlock (.slice A2 k c2) = some kz) w29 w93 from Fr.trans_new S92.out hg (fun j hj => .inl (.inl hj)))
   clear hh hd hg
   refine ⟨S98.out, ?_⟩
   try simp only [Act.put, zA, zB, zC]
   refine at_one (i := 9) (by rfl) (by kernel_rfl) ?_
   refine at_app (listed' := (bs 12 1023)) (by rfl) _ _ _ (by rfl) elInt (by rfl) H96.out (ix := 3) (jx := 5) (by rfl) 1 1 [.int .i64 e.up] (by rfl) (by rfl) rfl (by simp [Value.oneCell']) (by simp [NoUL]) (by decide) (by unfold maxLen; exact (by omega)) (by omega) (by kernel_rfl) ?_
   intro g100 cp101 w99 hf hh hd hg
   have Fg100 := zH hf
   clear hf
   rw [show List.flatMap MkE.cu es ++ [.int .i64 e.up] = List.flatMap MkE.cu (es ++ [e]) from flat_snoc MkE.cu _ e] at hh
   have H102 := zH (show Hp w w99 [.blk X1 27 (rc ry), ro 59 5 (some ⟨gm, 0, none⟩) ms.length cm MkE.cells ms, ro 27 4 (some ⟨g94, 0, none⟩) (k + 1) cp95 MkE.cx (es ++ [e]), ro 3 1 (some ⟨g100, 0, none⟩) (k + 1) cp101 MkE.cu (es ++ [e]), .blk X24 59 [.bool e.a.n, .slice e.a.p e.a.l e.a.c, .bool e.a.m, .slice e.a.p2 e.a.l2 e.a.c2, .int .i64 e.up], .blk X83 3 [.int .i64 e.up], .blk X88 27 (rc e.a)] from hh)
   have D102 := zH (hd)
   have S104 := zH (show Fr (fun kz => Value.ownBlock (.slice A1 k c1) = some kz ∨ Value.ownBlock (.slice A2 k c2) = some kz) w29 w99 from Fr.trans_new S98.out hg (fun j hj => .inl (.inr hj)))
   clear hh hd hg
   refine ⟨S104.out, ?_⟩
   try simp only [Act.put, zA, zB, zC]
   refine zx 10 (bs 12 2047) (.slice (some ⟨g94, 0, none⟩) (k + 1) cp95) S104.out ?_
   refine zx 11 (bs 12 4095) (.slice (some ⟨g100, 0, none⟩) (k + 1) cp101) S104.out ?_
   refine wpAnyH_done (by kernel_rfl) ?_ _
   have DD107 := zH ((((((((D21.out.trans D26.out).trans D30.out).trans D32.out).trans D85.out).trans D90.out).trans D96.out).trans D102.out))
   go_wp2_with fail
   go_roundg (ms.length - (k + 1))
   case measure => exact (by have ob1 := HLT.out; omega)
   case rel => exact ⟨k + 1, es ++ [e], some ⟨g94, 0, none⟩, cp95, some ⟨g100, 0, none⟩, cp101, rfl, rfl, rfl, (by go_num), HLT.out, (by rw [HES.out]; exact (take_snoc HEe.out).symm), H102.out.take 4, DD107.out⟩
  have HLT := zH c22
  clear c22
  obtain rfl : k = ms.length := by have := HK.out; have := HLT.out; omega
  have hge : ¬ (ms.length : Int) < (ms.length : Int) := by omega
  have hes : es = ms := by rw [HES.out, List.take_of_length_le (Nat.le_refl _)]
  have HES2 := zH hes
  clear hes
  go_wp2_with fail
  go_ret2
  unfold CrossRet
  exact ⟨A1, c1, A2, c2, ms.length, ms, rfl, rfl, by have h := H21.out.row (i := 2) (by rfl); rwa [HES2.out] at h, by have h := H21.out.row (i := 3) (by rfl); rwa [HES2.out] at h, fun e he => (HOK.out e he).dig D21.out, HVAL.out, H21.out.ext⟩
end Go.Proofs.YtaeeeailoiioaacGreat

namespace Go.Proofs.YtaeeeailoiioaacGreat
open Go.RowKit

def psum (ms : List QI) (k : Nat) : Int := ((ms.take k).map fun a => a.2).sum
theorem psum_succ {ms : List QI} {k : Nat} {a : QI} (h : ms[k]? = some a) : psum ms (k + 1) = psum ms k + a.2 := by
  unfold psum
  rw [take_snoc h, List.map_append, List.sum_append]
  simp
theorem runs_get : ∀ (ms : List QI) (s : Int) (k : Nat) (a b : QI), ms[k]? = some a → ms[k + 1]? = some b → (runs s ms)[k]? = some ((a.1, b.1), s + psum ms (k + 1))
 | [], s, k, a, b, h, _ => by simp at h
 | [x], s, 0, a, b, _, h => by simp at h
 | [x], s, k + 1, a, b, h, _ => by simp at h
 | x :: y :: t, s, 0, a, b, h1, h2 => by
  simp at h1 h2
  subst h1 h2
  simp [runs, psum]
 | x :: y :: t, s, k + 1, a, b, h1, h2 => by
  have ih := runs_get (y :: t) (s + x.2) k a b (by simpa using h1) (by simpa using h2)
  show (runs (s + x.2) (y :: t))[k]? = _
  rw [ih]
  have e : psum (x :: y :: t) (k + 1 + 1) = x.2 + psum (y :: t) (k + 1) := by unfold psum; rw [List.take_succ_cons]; simp
  rw [e]
  congr 2
  omega
theorem runs_len : ∀ (ms : List QI) (s : Int), (runs s ms).length = ms.length - 1
  | [], s => rfl
  | [x], s => rfl
  | x :: y :: t, s => by
    have := runs_len (y :: t) (s + x.2)
    simp [runs, this]
theorem sel_take {rule : Int} {l : List (QQ × Int)} {k : Nat} {r : QQ × Int} (h : l[k]? = some r) : sel rule (l.take (k + 1)) = sel rule (l.take k) ++ (if fillsV r.2 rule = true then [r.1] else []) := by rw [take_snoc h, sel_app, sel_one]
theorem SpE.Ok.dig {L : Nat} {w w' : World} {e : SpE} (h : e.Ok L w) (d : Dig w w') : e.Ok L w' := ⟨h.1.dig d, h.2.1.dig d, h.2.2⟩
theorem RowN.base {w : World} {b b' : Nat} {t : TypeId} {size : Nat} {v : Value} {n : Nat} {xs : List Value} (h : RowN w b t size v n xs) (hb : b' ≤ b) : RowN w b' t size v n xs := by
  obtain ⟨h1, h2 | ⟨g, cap, rest, a, c, d⟩⟩ := h
  · exact ⟨h1, .inl h2⟩
  exact ⟨h1, .inr ⟨g, cap, rest, a, Nat.le_trans hb c, d⟩⟩
theorem SpR.base {L : Nat} {w : World} {b b' : Nat} {v : Value} {es : List SpE} (h : SpR L w b v es) (hb : b' ≤ b) : SpR L w b' v es := ⟨h.1.base hb, h.2⟩
theorem SpR.dig {L : Nat} {w w' : World} {b : Nat} {v : Value} {es : List SpE} (h : ∀ e, e ∈ es → e.Ok L w) (d : Dig w w') (hr : RowN w' b 39 8 v es.length (spCells es)) : SpR L w' b v es := ⟨hr, fun e he => (h e he).dig d⟩
end Go.Proofs.YtaeeeailoiioaacGreat

namespace Go.Proofs.YtaeeeailoiioaacGreat
open Go.RowKit Go.Maps
attribute [local go_sem ↓] Go.wp_at_zero Go.wp_at_succ

theorem and_m1 {n : Int} (h : -9223372036854775808 ≤ n ∧ n ≤ 9223372036854775807) : bits .and .i64 n (-1) = n := by
  show IntKind.i64.wrap (((BitVec.ofInt 64 n &&& BitVec.ofInt 64 (-1)).toNat : Nat) : Int) = n
  rw [show BitVec.ofInt 64 (-1) = BitVec.allOnes 64 from by decide, BitVec.and_allOnes, IntKind.wrap_i64, BitVec.toNat_ofInt]
  omega
theorem and_1 (n : Int) : bits .and .i64 n 1 = n % 2 := by
  show IntKind.i64.wrap (((BitVec.ofInt 64 n &&& BitVec.ofInt 64 1).toNat : Nat) : Int) = n % 2
  rw [BitVec.toNat_and, show (BitVec.ofInt 64 1).toNat = 1 from by decide, Nat.and_one_is_mod, IntKind.wrap_i64, BitVec.toNat_ofInt]
  omega
theorem and_0 (n : Int) : bits .and .i64 n 0 = 0 := by
  show IntKind.i64.wrap (((BitVec.ofInt 64 n &&& BitVec.ofInt 64 0).toNat : Nat) : Int) = 0
  rw [show BitVec.ofInt 64 0 = 0#64 from by decide, BitVec.and_zero, IntKind.wrap_i64]
  decide
section
variable {H : Type} {P : Program} {w : World} {ops : Array Oper} {rest : List Oper} {op : Oper} {a : Act} {Q : Exit → Act → World → Prop}
theorem mv_insert (hw : Region.wanted op (yielded ops a.tmps) = true) (m x v : Operand) (t : TypeId) (hop : op.op = .insert t m x v)
  (k e : TypeId) (K : Keyed P k) (ht : P.underlying t = some (.map k e)) (R : Value → Option (DataW H × List MemPlace)) (b n : Nat) (D : DataW H)
  (hm : a.eval m = .map (some b)) (hown : w.ownsMap P k R b n D) (hn : n < maxLen) (key val : Value) (kl : Lit) (hx : a.eval x = key) (hv : a.eval v = val) (hkey : keyOf P k key = some kl)
  (d : DataW H) (ps : List MemPlace) (hval : R val = some (d, ps))
  (h : ∀ w', w'.ownsMap P k R b (n + 1) (D.put kl d) → w.grownBy w' (some b) → wpList P ops Q rest (a.put op.dst undef) w') : wpList P ops Q (op :: rest) a w := by
 obtain ⟨w', hrun, r1, r2⟩ := hown.update K ht hn hkey hval
 refine wpList_if hw ?_
 unfold Oper.wp execOp
 simp only [hop]
 simp [hm, hx, hv, hrun, Result.andThen]
 exact h _ r1 r2
theorem mv_lookup (hw : Region.wanted op (yielded ops a.tmps) = true) (m x : Operand) (t : TypeId) (hop : op.op = Op.lookup t m x false)
  (k e : TypeId) (q : IntKind) (K : Keyed P k) (ht : P.underlying t = some (.map k e)) (he : P.underlying e = some (.int q)) (hz : (zeroValue e).run P w = .ok (.int q 0) w) (b n : Nat) (D : DataW H)
  (hm : a.eval m = .map (some b)) (hown : w.ownsMap P k (plainElem P e) b n D) (key : Value) (kl : Lit) (hx : a.eval x = key) (hkey : keyOf P k key = some kl)
  (h : ∀ c : Int, D.atKey kl (.lit (.int q 0)) = .lit (.int q c) → wpList P ops Q rest (a.put op.dst (.int q c)) w) : wpList P ops Q (op :: rest) a w := by
 obtain ⟨c, hrun, hat, _⟩ := hown.lookup_int K ht he hz hkey
 refine wpList_if hw ?_
 unfold Oper.wp execOp
 simp only [hop]
 simp [hm, hx, hrun, Result.andThen]
 exact h c hat
end
def bitsD : DataW Unit := ((DataW.map []).put (.int .i64 1) (.lit (.int .i64 (-1)))).put (.int .i64 2) (.lit (.int .i64 1))
theorem bitsD_is : bitsD = .map [(.int .i64 1, .lit (.int .i64 (-1))), (.int .i64 2, .lit (.int .i64 1))] := by
  unfold bitsD DataW.put
  simp [DataW.insert, Lit.sameKey, Lit.before]
theorem bitsD_at (r c : Int) (h : bitsD.atKey (.int .i64 r) (.lit (.int .i64 0)) = .lit (.int .i64 c)) : c = if r = 1 then -1 else if r = 2 then 1 else 0 := by
 rw [bitsD_is] at h
 unfold DataW.atKey at h
 by_cases h1 : r = 1
 ·subst h1
  rw [if_pos rfl]
  have h2 : (DataW.lit (.int .i64 (-1)) : DataW Unit) = .lit (.int .i64 c) := h
  injection h2 with h2
  injection h2 with _ h2
  exact h2.symm
 by_cases h2 : r = 2
 ·subst h2
  rw [if_neg h1, if_pos rfl]
  have h2 : (DataW.lit (.int .i64 1) : DataW Unit) = .lit (.int .i64 c) := h
  injection h2 with h2
  injection h2 with _ h2
  exact h2.symm
 have h3 : ¬ (1 = r) := fun k => h1 k.symm
 have h4 : ¬ (2 = r) := fun k => h2 k.symm
 simp [Lit.sameKey, h3, h4] at h
 simp [h1, h2, h]
set_option maxRecDepth 20000 in
set_option maxHeartbeats 4000000 in
theorem fills_any (n rule : Int) (w : World) (hn : -9223372036854775808 ≤ n ∧ n ≤ 9223372036854775807) (hr : -9223372036854775808 ≤ rule ∧ rule ≤ 9223372036854775807) :
  Calls Tryz.prog 33 #[.int .i64 n, .int .i64 rule] w fun e w' => e = .returned (.bool (fillsV n rule)) ∧ Ext w w' := by
 have K : Keyed Tryz.prog 3 := int_keyed Tryz.underlying3
 have wf1 : ∀ z : Int, -9223372036854775808 ≤ z ∧ z ≤ 9223372036854775807 → (Lit.int .i64 z).wf = true := fun z h => by
  have hmin : IntKind.i64.min = -9223372036854775808 := rfl
  have hmax : IntKind.i64.max = 9223372036854775807 := rfl
  simp only [Lit.wf, Bool.and_eq_true, decide_eq_true_eq]
  omega
 have HK := zH K
 have HW := zH wf1
 have HN := zH hn
 have HRU := zH hr
 clear K wf1 hn hr
 go_enter Tryz.func33, Tryz.ntmps33
 go_upto_region 1 with fail
 refine wp_region_lit ?_
 refine zp (w' := w.alloc (.map #[] 0)) (.map (some w.heap.size)) (by have hmm := @run_makeMap Tryz.prog; go_simp) ?_
 refine mv_insert (H := Unit) (by rfl) _ _ _ _ (by rfl) 3 3 HK.out Tryz.underlying94 (plainElem Tryz.prog 3) w.heap.size 0 (.map []) (by rfl) (World.ownsMap_made w _ _ _) (by unfold maxLen; decide) (.int .i64 1) (.int .i64 (-1)) (.int .i64 1) (by rfl) (by rfl) (keyOf_int_mk Tryz.underlying3 (HW.out 1 (by decide))) (.lit (.int .i64 (-1))) [] (plainElem_int Tryz.underlying3 (HW.out (-1) (by decide))) ?_
 intro w1 o1 g1
 (try simp only [Act.put])
 refine mv_insert (H := Unit) (by rfl) _ _ _ _ (by rfl) 3 3 HK.out Tryz.underlying94 (plainElem Tryz.prog 3) w.heap.size 1 _ (by rfl) o1 (by unfold maxLen; decide) (.int .i64 2) (.int .i64 1) (.int .i64 2) (by rfl) (by rfl) (keyOf_int_mk Tryz.underlying3 (HW.out 2 (by decide))) (.lit (.int .i64 1)) [] (plainElem_int Tryz.underlying3 (HW.out 1 (by decide))) ?_
 intro w2 o2 g2
 (try simp only [Act.put])
 have HX := zH (show Ext w w2 from (((Ext.refl w).alloc (.map #[] 0)).grown g1 (fun k hk => by injection hk with hk; omega)).grown g2 (fun k hk => by injection hk with hk; omega))
 have HO := zH (show w2.ownsMap Tryz.prog 3 (plainElem Tryz.prog 3) w.heap.size 2 bitsD from o2)
 clear o1 g1 o2 g2
 refine zp (w' := w2) (.map (some w.heap.size)) (by go_simp) ?_
 refine zp (w' := w2) (.map (some w.heap.size)) (by go_simp) ?_
 go_upto_region 2 with fail
 refine wp_region_lit ?_
 refine zp (w' := w2) (.int .i64 n) (by go_simp) ?_
 refine zp (w' := w2) (.map (some w.heap.size)) (by go_simp) ?_
 refine zp (w' := w2) (.int .i64 rule) (by go_simp) ?_
 refine mv_lookup (H := Unit) (by rfl) _ _ _ (by rfl) 3 3 .i64 HK.out Tryz.underlying94 Tryz.underlying3 (Tryz.zeroValue3 _) w.heap.size 2 bitsD (by rfl) HO.out (.int .i64 rule) (.int .i64 rule) (by rfl) (keyOf_int_mk Tryz.underlying3 (HW.out rule HRU.out)) ?_
 intro c hc
 have hc2 := bitsD_at rule c hc
 have hb : (bits .and .i64 n c != 0) = fillsV n rule := by
  unfold fillsV
  by_cases h1 : rule = 1
  ·subst h1
   rw [hc2, if_pos rfl, and_m1 HN.out]
   by_cases h0 : n = 0 <;> simp [h0]
  by_cases h2 : rule = 2
  ·subst h2
   rw [hc2, if_neg h1, if_pos rfl, and_1]
   by_cases h0 : n % 2 = 0 <;> simp [h0]
  rw [hc2, if_neg h1, if_neg h2, and_0]
  simp [h1, h2]
 have HB := zH hb
 clear hc hc2 hb
 try simp only [Act.put, zA, zB, zC]
 go_wp2_with fail
 go_ret
 exact ⟨by rw [← HB.out]; rfl, HX.out⟩
end Go.Proofs.YtaeeeailoiioaacGreat

namespace Go.Proofs.YtaeeeailoiioaacGreat
open Go.RowKit
attribute [local go_sem ↓] Go.wp_at_zero Go.wp_at_succ run_max_ii run_min_ii
set_option maxRecDepth 20000 in
set_option maxHeartbeats 4000000 in
theorem merge_any (L : Nat) (u : Value) (ps : List QQ) (w : World) (hu : SpansV L w u ps) (h1L : 1 ≤ L) (hL : L ≤ 60000) (hn : ps.length ≤ 20000) :
  Calls Tryz.prog 14 #[u] w fun e w' => ∃ v es, e = .returned v ∧ SpR L w' w.heap.size v es ∧ es.map SpE.vl = mergeV ps ∧ es.length ≤ ps.length ∧ Ext w w' := by
 obtain ⟨A, cu, rfl, hA⟩ := hu
 obtain ⟨i0, hi, hz0, hz1, hz2⟩ := info_parts infoSp
 have HL1 := zH h1L
 have HI := zH (And.intro hi (And.intro hz0 (And.intro hz1 hz2)))
 have HA := zH (fun (w' : World) (x : Ext w w') (k : Nat) (p : QQ) (hp : ps[k]? = some p) => (show ∃ g off, A = some ⟨g, off, none⟩ ∧ ∃ cs : List Value, w'.rangeAt g (off + k * 8) cs ∧ PtIn L w' cs.toArray p.1 p.2 by
  obtain ⟨g, off, h1, h2⟩ := hA (by have := (List.getElem?_eq_some_iff.1 hp).1; omega)
  obtain ⟨cs, h3, h4⟩ := h2 k p hp
  exact ⟨g, off, h1, cs, range_ext h3 x, h4.ext x⟩))
 clear hi hz0 hz1 hz2 hA
 go_enter Tryz.func14, Tryz.ntmps14
 go_wp2_with fail
 go_loopg [3, 12] ps.length (fun c v i wr => ∃ (k : Nat) (es : List SpE) (v2 : Value), k ≤ ps.length ∧ c = ps.length - k ∧ i = .int .i64 k ∧ v2 = v ∧ SpR L wr w.heap.size v2 es ∧ es.map SpE.vl = some2 (ps.take k) ∧ es.length ≤ k ∧ Ext w wr)
 case atStart => exact ⟨0, [], _, Nat.zero_le _, rfl, rfl, rfl, ⟨RowN.nil _ _ _ _, by simp⟩, rfl, Nat.le_refl _, Ext.refl _⟩
 case round =>
  obtain ⟨k, es, v, hk, rfl, rfl, rfl, hsp, hes, hek, hx⟩ := hrel
  have HSP := zH hsp
  have HES := zH (And.intro hes hek)
  have HX := zH hx
  clear hsp hes hx
  by_cases hlt : k < ps.length
  ·have hlt2 : (k : Int) < (ps.length : Int) := by omega
   obtain ⟨p, hp⟩ : ∃ p, ps[k]? = some p := ⟨_, List.getElem?_eq_getElem hlt⟩
   obtain ⟨g, off, rfl, cs, hr, hpt⟩ := HA.out wr HX.out k p hp
   have HSM := zH (some2_succ hp)
   have hcl : cs.length = 8 := by have := hpt.size; simpa using this
   have cs_one : ∀ v, v ∈ cs → v.oneCell' = true := by
    have h := hpt.one
    rw [Array.all_eq_true_iff_forall_mem] at h
    exact fun v hv => h v (by simpa using hv)
   have HR := zH hr
   have HPT := zH hpt
   have HCL := zH hcl
   have HLT := zH hlt
   have HFAR0 := zH (fun X hX => sp_far (X := X) HSP.out hX)
   clear hr hpt hp hlt
   go_upto_region 4 with fail
   refine wp_region_lit ?_
   refine zq (.pointer (some ⟨g, off + k * 8, none⟩)) ?_
   refine wpList_if (by rfl) (wp_load_mid _ _ (by rfl) g (off + k * 8) (by rfl) cs _ HR.out Tryz.underlying39 (by rfl) (by rw [HCL.out]; kernel_rfl) ?_)
   try simp only [Act.put, zA, zB, zC]
   clear hcl
   refine zp (w' := wr.alloc (.cells z8 39)) (.pointer (some ⟨wr.heap.size, 0, none⟩)) (by go_simp) ?_
   refine pO (cs).toArray (Blk.new wr _ _) (by simp [HCL.out]) (by rw [show ((cs).toArray : Array Value).size = 8 by simp [HCL.out]]; kernel_rfl) (all_oneCell_toArray cs_one) ?_
   (try simp only [Act.put])
   obtain ⟨xq1, xq2⟩ := new_var wr 39 z8 (cs).toArray (by simp [HCL.out])
   generalize (wr.alloc (.cells z8 39)).setCells wr.heap.size 0 ((cs).toArray : Array Value).toList = w4 at *
   have HFAR := zH (HFAR0.out wr.heap.size (Nat.le_refl _))
   generalize wr.heap.size = X4 at *
   have HEw4 := zH xq1
   have HBX4 := zH xq2
   clear xq1 xq2
   go_upto_region 5 with fail
   refine wp_region_lit ?_
   refine zq (.pointer (some ⟨X4, 0, none⟩)) ?_
   refine pP 0 4 HBX4.out Tryz.underlying27 (by simp [HCL.out]) ?_
   try simp only [Act.put, zA, zB, zC]
   refine zq (.pointer (some ⟨X4, 4, none⟩)) ?_
   refine pP 4 4 HBX4.out Tryz.underlying27 (by simp [HCL.out]) ?_
   try simp only [Act.put, zA, zB, zC]
   obtain ⟨z, hz⟩ : ∃ z, z = rcmp p.1 p.2 := ⟨_, rfl⟩
   have hzl : z < 0 ↔ p.1 < p.2 := by rw [hz]; exact rcmp_lt
   refine mv_call (by rfl) (by go_simp) (pCmpS hz (HPT.out.ext HEw4.out).c0 (HPT.out.ext HEw4.out).c1 (by omega)) ?_
   rintro e w5 ⟨rfl, hx⟩
   have HEw5 := zH (show Ext w4 w5 from ((Ext.refl w4)).trans hx)
   clear hx
   refine ⟨_, rfl, ?_⟩
   try simp only [Act.put, zA, zB, zC]
   clear hz
   have HPT5 := zH ((HPT.out.ext HEw4.out).ext HEw5.out)
   have HB5 := zH (HBX4.out.ext HEw5.out)
   have HXw5 := zH ((HX.out.trans HEw4.out).trans HEw5.out)
   have HSP5 := zH ((HSP.out.ext HEw4.out).ext HEw5.out)
   clear HEw4 HEw5 HBX4 HPT HR HSP
   by_cases hpq : p.1 < p.2
   ·have hz2 : z < 0 := hzl.2 hpq
    clear hzl
    refine zq (.bool true) ?_
    have hcont := HSM.out
    rw [if_pos hpq] at hcont
    have HCO := zH hcont
    clear hcont
    clear hpq hz2
    go_upto_region 6 with fail
    refine wp_region_held_drew (S := fun x => w5.grownBy x v.ownBlock) (by kernel_rfl) (grown_of_ext _ (Ext.refl _).drew) (fun _ => ?_)
    refine zv 0 (bs 11 1) (grown_of_ext _ (Ext.refl w5).drew) ?_
    refine mV 1 (bs 11 3) (grown_of_ext _ (Ext.refl w5).drew) ?_
    refine mP 2 (bs 11 7) 0 4 (fun x hx => HB5.out.grown hx HFAR.out) Tryz.underlying27 (by simp [HCL.out]) (grown_of_ext _ (Ext.refl w5).drew) ?_
    try simp only [Act.put, zA, zB, zC]
    refine mV 4 (bs 11 23) (grown_of_ext _ (Ext.refl w5).drew) ?_
    refine mP 5 (bs 11 55) 4 4 (fun x hx => HB5.out.grown hx HFAR.out) Tryz.underlying27 (by simp [HCL.out]) (grown_of_ext _ (Ext.refl w5).drew) ?_
    try simp only [Act.put, zA, zB, zC]
    refine mC 3 (bs 11 63) (pNorm (HPT5.out.ext (Ext.refl _).drew).c0 (by omega)) ?_
    rintro e w6 ⟨c1, rfl, hc1, hx⟩
    have HEw6 := zH (show Ext w5 w6 from ((Ext.refl w5).drew).trans hx)
    obtain ⟨ra, rfl, hra⟩ := hc1
    have HRA := zH hra
    clear hra
    clear hx
    refine ⟨_, rfl, (grown_of_ext _ HEw6.out), ?_⟩
    try simp only [Act.put, zA, zB, zC]
    refine mC 6 (bs 11 127) (pNorm (HPT5.out.ext HEw6.out).c1 (by omega)) ?_
    rintro e w7 ⟨c2, rfl, hc2, hx⟩
    have HEw7 := zH (show Ext w5 w7 from (HEw6.out).trans hx)
    obtain ⟨rb, rfl, hrb⟩ := hc2
    have HRB := zH hrb
    have HRA7 := zH (HRA.out.ext hx)
    clear hrb HRA
    clear hx
    refine ⟨_, rfl, (grown_of_ext _ HEw7.out), ?_⟩
    try simp only [Act.put, zA, zB, zC]
    refine zv 7 (bs 11 255) (grown_of_ext _ HEw7.out) ?_
    have hw7 := HSP5.out.ext HEw7.out
    have hbz := (HXw5.out.trans HEw7.out).size
    have hek3 : es.length ≤ 20000 := by have := HES.out.2; omega
    have hOK : SpE.Ok L w7 ⟨ra, rb, p.1, p.2⟩ := ⟨HRA7.out, HRB.out, HPT5.out.c0.rl HL1.out, HPT5.out.c1.rl HL1.out⟩
    have HOK := zH hOK
    clear hOK
    have hAE : Ext w7 (w7.alloc (.cells #[.bool ra.n, .slice ra.p ra.l ra.c, .bool ra.m, .slice ra.p2 ra.l2 ra.c2, .bool rb.n, .slice rb.p rb.l rb.c, .bool rb.m, .slice rb.p2 rb.l2 rb.c2] 39)) := (Ext.refl _).alloc _
    refine mU 8 (bs 11 511) (v := .slice (some ⟨w7.heap.size, 0, none⟩) 1 1) (w' := (w7.alloc (.cells #[.bool ra.n, .slice ra.p ra.l ra.c, .bool ra.m, .slice ra.p2 ra.l2 ra.c2, .bool rb.n, .slice rb.p rb.l rb.c, .bool rb.m, .slice rb.p2 rb.l2 rb.c2] 39))) (grown_of_ext _ ((HEw7.out).alloc _)) ?_
    try simp only [Act.put, zA, zB, zC]
    refine md_appendF (j := 9) (listed' := (bs 11 1023)) (by rfl) (by kernel_rfl) (by rfl) _ _ 31 (by rfl) w.heap.size 39 i0 _ 8 128 Tryz.underlying31 HI.out.1 HI.out.2.1 HI.out.2.2.1 HI.out.2.2.2 rfl (by decide) noUL_zsp _ es.length (spCells es) (by rfl) (hw7.ext hAE).1 ⟨w7.heap.size, 0, none⟩ 1 1 [.bool ra.n, .slice ra.p ra.l ra.c, .bool ra.m, .slice ra.p2 ra.l2 ra.c2, .bool rb.n, .slice rb.p rb.l rb.c, .bool rb.m, .slice rb.p2 rb.l2 rb.c2] (by rfl) rfl (new_cells _ [.bool ra.n, .slice ra.p ra.l ra.c, .bool ra.m, .slice ra.p2 ra.l2 ra.c2, .bool rb.n, .slice rb.p rb.l rb.c, .bool rb.m, .slice rb.p2 rb.l2 rb.c2] _) (by simp [Value.oneCell']) (SpE.noU ⟨ra, rb, p.1, p.2⟩) (by decide) (by unfold maxLen; omega) (by omega) (by have := hAE.size; omega) (by kernel_rfl) ?_
    intro gx cx w8 hf h2 h3 h4
    have HSN := zH ((hw7.ext hAE).snoc (e := ⟨ra, rb, p.1, p.2⟩) rfl (HOK.out.ext hAE) h2 h4)
    have HX8 := zH (((HXw5.out.trans HEw7.out).trans hAE).grown h3 (fun j hj => hw7.1.block j hj))
    have hS8 : w5.grownBy w8 v.ownBlock := ext_grown (HEw7.out.trans hAE) h3
    clear hw7 hbz hf h2 h3 h4 hAE
    refine ⟨hS8, ?_⟩
    try simp only [Act.put, zA, zB, zC]
    refine zv 10 (bs 11 2047) hS8 ?_
    refine wpAnyH_done (by kernel_rfl) ?_ _
    clear hS8
    go_wp2_with fail
    go_roundg (ps.length - (k + 1))
    case measure => have := HLT.out; omega
    case rel => exact ⟨k + 1, es ++ [⟨ra, rb, p.1, p.2⟩], _, HLT.out, rfl, by go_num, rfl, HSN.out, by rw [HCO.out, List.map_append, HES.out.1]; rfl, by have := HES.out.2; simp; omega, HX8.out⟩
   have hz2 : ¬ z < 0 := fun h => hpq (hzl.1 h)
   clear hzl
   refine zq (.bool false) ?_
   have hcont := HSM.out
   rw [if_neg hpq] at hcont
   have HCO := zH hcont
   clear hcont hpq hz2
   go_wp2_with fail
   go_roundg (ps.length - (k + 1))
   case measure => have := HLT.out; omega
   case rel => exact ⟨k + 1, es, _, HLT.out, rfl, by go_num, rfl, HSP5.out, by rw [HCO.out]; exact HES.out.1, by have := HES.out.2; omega, HXw5.out⟩
  obtain rfl : k = ps.length := by omega
  have hge : ¬ (ps.length : Int) < (ps.length : Int) := by omega
  have HSRT := zH (sortSp_any L v es w.heap.size wr HSP.out hL (by have := HES.out.2; omega))
  have hval : (Stb.stab ltE es).map SpE.vl = sortedV ps := by
   have h := HES.out.1
   rw [List.take_of_length_le (Nat.le_refl _)] at h
   rw [stab_map SpE.vl (lt := ltE) (lt' := ltQ) (fun _ _ => rfl), h]
   rfl
  have hsl : (Stb.stab ltE es).length ≤ ps.length := by rw [Stb.stab_len]; exact HES.out.2
  have hvw : ∀ j, v.ownBlock = some j → w.heap.size ≤ j := HSP.out.1.block
  generalize Stb.stab ltE es = ss at *
  go_upto_region 9 with (go_at_call 31; refine HSRT.out.mono ?_; rintro e ws ⟨rfl, hss, hgr⟩)
  have hXs : Ext w ws := HX.out.grown hgr hvw
  obtain ⟨As, cs, rfl⟩ := row_slice hss.1
  have HSS := zH hss
  have HXS := zH hXs
  have HVAL := zH hval
  have hsn : ss.length ≤ 20000 := by omega
  have HSSB := zH HSS.out.lt
  have HSL := zH hsl
  clear hss hXs hval hgr HSRT HSP HES HX hsl hvw
  go_wp2_with fail
  go_loopg [6, 37] ss.length (fun c v i wr => ∃ (k : Nat) (os : List SpE) (v2 : Value), k ≤ ss.length ∧ c = ss.length - k ∧ i = .int .i64 k ∧ v2 = v ∧ SpR L wr w.heap.size v2 os ∧ os.map SpE.vl = ((sortedV ps).take k).foldl mstep [] ∧ os.length ≤ k ∧ SpR L wr w.heap.size (.slice As ss.length cs) ss ∧ (∀ j, v2.ownBlock = some j → ws.heap.size ≤ j) ∧ Ext w wr ∧ ws.heap.size ≤ wr.heap.size)
  case atStart => exact ⟨0, [], _, Nat.zero_le _, rfl, rfl, rfl, ⟨RowN.nil _ _ _ _, by simp⟩, by simp, Nat.le_refl _, HSS.out, by intro j hj; simp [Value.ownBlock] at hj, HXS.out, Nat.le_refl _⟩
  case round =>
   clear HSS
   obtain ⟨k, os, v, hk, rfl, rfl, rfl, hos, hov, hok, hss, hfar, hx, hwz⟩ := hrel
   by_cases hlt : k < ss.length
   ·have hlt2 : (k : Int) < (ss.length : Int) := by omega
    obtain ⟨e, he⟩ : ∃ e, ss[k]? = some e := ⟨_, List.getElem?_eq_getElem hlt⟩
    have HSTEP := zH (show ((sortedV ps).take (k + 1)).foldl mstep [] = mstep (os.map SpE.vl) (e.p, e.q) by rw [hov, mstep_fold (p := (e.p, e.q)) (by rw [← HVAL.out, List.getElem?_map, he]; rfl)])
    have HOKE := zH (hss.2 e (List.mem_of_getElem? he))
    obtain ⟨gs, caps, rs, hvs, hrs⟩ : ∃ gs caps rs, As = some ⟨gs, 0, none⟩ ∧ Sw wr wr gs 39 SpE.cells rs ss ∧ caps = cs := by
     rcases hss.form with ⟨hv, hn⟩ | ⟨g, cap, rest, hv, _, hs, _⟩
     ·rw [hn] at hlt; simp at hlt
     injection hv with e1 _ _
     exact ⟨g, cs, rest, e1, hs, rfl⟩
    subst hvs
    have HRD := zH (hrs.1.read he SpE.len)
    have HOS := zH hos
    have HSS := zH hss
    have HFR := zH (And.intro hfar (And.intro hwz hok))
    have HX := zH hx
    have HLT := zH hlt
    clear hos hov hss hfar hx hwz hok hrs he hlt
    go_upto_region 12 with fail
    refine wp_region_lit ?_
    refine zq (.pointer (some ⟨gs, k * 8, none⟩)) ?_
    refine wpList_if (by rfl) (wp_load_mid _ _ (by rfl) gs (k * 8) (by rfl) e.cells _ HRD.out Tryz.underlying39 (by rfl) (by kernel_rfl) ?_)
    try simp only [Act.put, zA, zB, zC]
    refine zp (w' := wr.alloc (.cells z8 39)) (.pointer (some ⟨wr.heap.size, 0, none⟩)) (by go_simp) ?_
    refine pO (e.cells).toArray (Blk.new wr _ _) (by simp [SpE.len]) (by rw [show ((e.cells).toArray : Array Value).size = 8 by simp [SpE.len]]; kernel_rfl) (all_oneCell_toArray e.one) ?_
    (try simp only [Act.put])
    obtain ⟨xq1, xq2⟩ := new_var wr 39 z8 (e.cells).toArray (by simp [SpE.len])
    generalize (wr.alloc (.cells z8 39)).setCells wr.heap.size 0 ((e.cells).toArray : Array Value).toList = w8 at *
    generalize wr.heap.size = X8 at *
    have HEw8 := zH xq1
    have HBX8 := zH xq2
    clear xq1 xq2
    have HX8 := zH (HX.out.trans HEw8.out)
    have HOS8 := zH (HOS.out.ext HEw8.out)
    have HSS8 := zH (HSS.out.ext HEw8.out)
    have HOKE8 := zH (HOKE.out.ext HEw8.out)
    have HZ8 := zH (Nat.le_of_lt HBX8.out.lt)
    clear HRD HOS HSS HOKE HX
    skip
    have HOS := HOS8
    have HSS := HSS8
    have HOKE := HOKE8
    have HX := HX8
    have HBX := HBX8
    clear HOS8 HSS8 HOKE8 HX8 HBX8
    rcases snoc_or os with rfl | ⟨os, l, rfl⟩
    ·obtain ⟨Ao, co, rfl⟩ := row_slice HOS.out.1
     go_upto_region 14 with fail
     refine wp_region_held_drew (S := fun x => Ext w8 x) (by kernel_rfl) (Ext.refl _).drew (fun _ => ?_)
     refine zv 0 (bs 14 1) (Ext.refl w8).drew ?_
     refine zv 1 (bs 14 3) (Ext.refl w8).drew ?_
     refine zv 2 (bs 14 7) (Ext.refl w8).drew ?_
     refine zs 3 (bs 14 15) (Ext.refl w8).drew ?_
     refine zs 4 (bs 14 31) (Ext.refl w8).drew ?_
     refine zs 5 (bs 14 63) (Ext.refl w8).drew ?_
     refine zs 6 (bs 14 127) (Ext.refl w8).drew ?_
     refine zs 7 (bs 14 255) (Ext.refl w8).drew ?_
     refine zs 8 (bs 14 511) (Ext.refl w8).drew ?_
     refine zs 9 (bs 14 1023) (Ext.refl w8).drew ?_
     refine zs 10 (bs 14 2047) (Ext.refl w8).drew ?_
     refine zs 11 (bs 14 4095) (Ext.refl w8).drew ?_
     refine zs 12 (bs 14 8191) (Ext.refl w8).drew ?_
     refine zv 13 (bs 14 16383) (Ext.refl w8).drew ?_
     refine wpAnyH_done (by kernel_rfl) ?_ _
     have HSTEP2 := zH (HSTEP.out.trans (mstep_nil _))
     have hok3 : ([] : List SpE).length ≤ 20000 := by simp
     have HEdr := zH (show Ext w8 w8.drew from (Ext.refl _).drew)
     have HOSc := zH (HOS.out.ext HEdr.out)
     have HSSc := zH (HSS.out.ext HEdr.out)
     have HOKEc := zH (HOKE.out.ext HEdr.out)
     have HBXc := zH (HBX.out.ext HEdr.out)
     have HXc := zH (HX.out.trans HEdr.out)
     have HZc := zH (Nat.le_trans HZ8.out HEdr.out.size)
     go_upto_region 15 with fail
     refine wp_region_lit ?_
     refine zp (w' := w8.drew) (.slice Ao 0 co) (by go_simp <;> with_reducible rfl) ?_
     refine pL (cs := #[.bool e.a.n, .slice e.a.p e.a.l e.a.c, .bool e.a.m, .slice e.a.p2 e.a.l2 e.a.c2, .bool e.b.n, .slice e.b.p e.b.l e.b.c, .bool e.b.m, .slice e.b.p2 e.b.l2 e.b.c2]) HBXc.out Tryz.underlying39 (by kernel_rfl) ?_
     try simp only [Act.put, zA, zB, zC]
     have hbz := HXc.out.size
     have hAE : Ext w8.drew (w8.drew.alloc (.cells #[.bool e.a.n, .slice e.a.p e.a.l e.a.c, .bool e.a.m, .slice e.a.p2 e.a.l2 e.a.c2, .bool e.b.n, .slice e.b.p e.b.l e.b.c, .bool e.b.m, .slice e.b.p2 e.b.l2 e.b.c2] 39)) := (Ext.refl _).alloc _
     refine zp (w' := (w8.drew.alloc (.cells #[.bool e.a.n, .slice e.a.p e.a.l e.a.c, .bool e.a.m, .slice e.a.p2 e.a.l2 e.a.c2, .bool e.b.n, .slice e.b.p e.b.l e.b.c, .bool e.b.m, .slice e.b.p2 e.b.l2 e.b.c2] 39))) (.slice (some ⟨w8.drew.heap.size, 0, none⟩) 1 1) (by go_simp) ?_
     refine wpList_if (by rfl) (wp_append_rowF _ _ 31 (by rfl) w.heap.size 39 i0 _ 8 128 Tryz.underlying31 HI.out.1 HI.out.2.1 HI.out.2.2.1 HI.out.2.2.2 rfl (by decide) noUL_zsp _ 0 (spCells ([] : List SpE)) (by rfl) (HOSc.out.ext hAE).1 ⟨w8.drew.heap.size, 0, none⟩ 1 1 e.cells (by rfl) rfl (new_cells _ e.cells _) e.one e.noU (by decide) (by unfold maxLen; omega) (by omega) (by have := hAE.size; omega) ?_)
     intro gx cx w8_ hf h2 h3 h4
     try simp only [Act.put, zA, zB, zC]
     have HSN := zH ((HOSc.out.ext hAE).snoc (es := ([] : List SpE)) (e := e) rfl (HOKEc.out.ext hAE) h2 h4)
     have HXn := zH ((HXc.out.trans hAE).grown h3 (fun j hj => HOSc.out.1.block j hj))
     have HSSn := zH ((HSSc.out.ext hAE).grown h3 (fun j hj hj2 => by have h7 := HFR.out.1 j hj2; have h8 := HSSB.out j hj; omega) h4)
     have HFn := zH (show ws.heap.size ≤ gx from hf.elim (fun hf => HFR.out.1 gx hf) (fun hf => Nat.le_trans (Nat.le_trans HFR.out.2.1 HZc.out) (Nat.le_trans hAE.size hf)))
     have HZn := zH (show ws.heap.size ≤ w8_.heap.size from Nat.le_trans (Nat.le_trans HFR.out.2.1 HZc.out) (Nat.le_trans hAE.size h3.size))
     clear hf h2 h3 h4 hAE hbz
     refine zp (w' := w8_) (.slice (some ⟨gx, 0, none⟩) (0 + 1) cx) (by go_simp) ?_
     go_wp2_with fail
     go_roundg (ss.length - (k + 1))
     case measure => have := HLT.out; omega
     case rel => exact ⟨k + 1, ([] : List SpE) ++ [e], _, HLT.out, rfl, by go_num, rfl, HSN.out, by rw [HSTEP2.out]; simp [SpE.vl], by have := HFR.out.2.2; simp at this ⊢ <;> omega, HSSn.out, by intro j hj; simp [Value.ownBlock] at hj; rw [← hj]; exact HFn.out, HXn.out, HZn.out⟩
    have hvf : ∃ g6 c6, v = .slice (some ⟨g6, 0, none⟩) (os.length + 1) c6 := by
     rcases HOS.out.form with ⟨_, h⟩ | ⟨g6, c6, _, h, _⟩
     ·simp at h
     exact ⟨g6, c6, by simpa using h⟩
    obtain ⟨g6, c6, rfl⟩ := hvf
    obtain ⟨m, hm⟩ : ∃ m, os.length = m := ⟨_, rfl⟩
    rw [hm] at HOS HFR ⊢
    have HM := zH hm
    have hm3 : m ≤ 20000 := by have h := HFR.out.2.2; rw [List.length_append, HM.out] at h; omega
    have wm_ : IntKind.i64.wrap (m : Int) = (m : Int) := by rw [IntKind.wrap_i64]; omega
    have HOKL := zH (HOS.out.2 l (by simp))
    have HST := zH (HSTEP.out.trans (show mstep ((os ++ [l]).map SpE.vl) (e.p, e.q) = if l.q < e.p then os.map SpE.vl ++ [(l.p, l.q)] ++ [(e.p, e.q)] else if l.q < e.q then os.map SpE.vl ++ [(l.p, e.q)] else os.map SpE.vl ++ [(l.p, l.q)] by rw [List.map_append]; exact mstep_app _ _ _))
    have e1 : ((m + 1 : Nat) : Int) - 1 = (m : Int) := by omega
    have e2 : (m : Int) + 1 - 1 = (m : Int) := by omega
    have e3 : ((m : Int) + 1 == 0) = false := by simp; omega
    have e4 : (((m + 1 : Nat) : Int) == 0) = false := by simp; omega
    have e5 : (m : Int) < (m : Int) + 1 := by omega
    have RDE := zH (HOS.out.readEnd HM.out)
    clear hm
    go_upto_region 14 with fail
    have RDE8 := zH (HOS.out.readEnd HM.out)
    have HOKL8 := zH (HOS.out.2 l (by simp))
    clear RDE HOKL
    refine wp_region_held_drew (S := fun x => Ext w8 x) (by kernel_rfl) (Ext.refl _).drew (fun _ => ?_)
    refine zv 0 (bs 14 1) (Ext.refl w8).drew ?_
    refine zv 1 (bs 14 3) (Ext.refl w8).drew ?_
    refine zv 2 (bs 14 7) (Ext.refl w8).drew ?_
    refine zv 3 (bs 14 15) (Ext.refl w8).drew ?_
    refine zv 4 (bs 14 31) (Ext.refl w8).drew ?_
    refine zv 5 (bs 14 63) (Ext.refl w8).drew ?_
    refine zv 6 (bs 14 127) (Ext.refl w8).drew ?_
    refine mV 7 (bs 14 255) (Ext.refl w8).drew ?_
    refine zr 8 (bs 14 511) g6 (m * 8 + 4) [.bool l.b.n, .slice l.b.p l.b.l l.b.c, .bool l.b.m, .slice l.b.p2 l.b.l2 l.b.c2] (fun x hx => range_ext RDE8.out hx) Tryz.underlying27 (Ext.refl w8).drew ?_
    refine mV 9 (bs 14 1023) (Ext.refl w8).drew ?_
    refine mP 10 (bs 14 2047) 0 4 (fun x hx => HBX.out.ext hx) Tryz.underlying27 (by simp [SpE.len]) (Ext.refl w8).drew ?_
    try simp only [Act.put, zA, zB, zC]
    obtain ⟨z, hz⟩ : ∃ z, z = rcmp l.q e.p := ⟨_, rfl⟩
    have hzl : z < 0 ↔ l.q < e.p := by rw [hz]; exact rcmp_lt
    refine mC 11 (bs 14 4095) (pCmpS (L := L) hz (NIn.ofb (HOKL8.out.ext (Ext.refl _).drew)) (HOKE.out.ext (Ext.refl _).drew).ptIn.c0 (by omega)) ?_
    rintro e w9 ⟨rfl, hx⟩
    have HEw9 := zH (show Ext w8 w9 from ((Ext.refl w8).drew).trans hx)
    clear hx
    refine ⟨_, rfl, HEw9.out, ?_⟩
    try simp only [Act.put, zA, zB, zC]
    clear hz
    by_cases c1 : l.q < e.p
    ·have hz2 : z < 0 := hzl.2 c1
     clear hzl
     refine zv 12 (bs 14 8191) HEw9.out ?_
     refine zv 13 (bs 14 16383) HEw9.out ?_
     refine wpAnyH_done (by kernel_rfl) ?_ _
     have HSTEP2 := zH (HST.out.trans (if_pos c1))
     clear c1
     have HOSc := zH (HOS.out.ext HEw9.out)
     have HSSc := zH (HSS.out.ext HEw9.out)
     have HOKEc := zH (HOKE.out.ext HEw9.out)
     have HBXc := zH (HBX.out.ext HEw9.out)
     have HXc := zH (HX.out.trans HEw9.out)
     have HZc := zH (Nat.le_trans HZ8.out HEw9.out.size)
     go_upto_region 15 with fail
     refine wp_region_lit ?_
     refine zq (.slice (some ⟨g6, 0, none⟩) (m + 1) c6) ?_
     refine pL (cs := #[.bool e.a.n, .slice e.a.p e.a.l e.a.c, .bool e.a.m, .slice e.a.p2 e.a.l2 e.a.c2, .bool e.b.n, .slice e.b.p e.b.l e.b.c, .bool e.b.m, .slice e.b.p2 e.b.l2 e.b.c2]) HBXc.out Tryz.underlying39 (by kernel_rfl) ?_
     try simp only [Act.put, zA, zB, zC]
     have hbz := HXc.out.size
     have hAE : Ext w9 (w9.alloc (.cells #[.bool e.a.n, .slice e.a.p e.a.l e.a.c, .bool e.a.m, .slice e.a.p2 e.a.l2 e.a.c2, .bool e.b.n, .slice e.b.p e.b.l e.b.c, .bool e.b.m, .slice e.b.p2 e.b.l2 e.b.c2] 39)) := (Ext.refl _).alloc _
     refine zp (w' := (w9.alloc (.cells #[.bool e.a.n, .slice e.a.p e.a.l e.a.c, .bool e.a.m, .slice e.a.p2 e.a.l2 e.a.c2, .bool e.b.n, .slice e.b.p e.b.l e.b.c, .bool e.b.m, .slice e.b.p2 e.b.l2 e.b.c2] 39))) (.slice (some ⟨w9.heap.size, 0, none⟩) 1 1) (by go_simp) ?_
     refine wpList_if (by rfl) (wp_append_rowF _ _ 31 (by rfl) w.heap.size 39 i0 _ 8 128 Tryz.underlying31 HI.out.1 HI.out.2.1 HI.out.2.2.1 HI.out.2.2.2 rfl (by decide) noUL_zsp _ (m + 1) (spCells (os ++ [l])) (by rfl) (by have h := (HOSc.out.ext hAE).1; rw [List.length_append, HM.out] at h; exact h) ⟨w9.heap.size, 0, none⟩ 1 1 e.cells (by rfl) rfl (new_cells _ e.cells _) e.one e.noU (by decide) (by unfold maxLen; omega) (by omega) (by have := hAE.size; omega) ?_)
     intro gx cx w8_ hf h2 h3 h4
     try simp only [Act.put, zA, zB, zC]
     have HSN := zH ((HOSc.out.ext hAE).snoc (es := (os ++ [l])) (e := e) (by rw [List.length_append, HM.out]; rfl) (HOKEc.out.ext hAE) h2 h4)
     have HXn := zH ((HXc.out.trans hAE).grown h3 (fun j hj => HOSc.out.1.block j hj))
     have HSSn := zH ((HSSc.out.ext hAE).grown h3 (fun j hj hj2 => by have h7 := HFR.out.1 j hj2; have h8 := HSSB.out j hj; omega) h4)
     have HFn := zH (show ws.heap.size ≤ gx from hf.elim (fun hf => HFR.out.1 gx hf) (fun hf => Nat.le_trans (Nat.le_trans HFR.out.2.1 HZc.out) (Nat.le_trans hAE.size hf)))
     have HZn := zH (show ws.heap.size ≤ w8_.heap.size from Nat.le_trans (Nat.le_trans HFR.out.2.1 HZc.out) (Nat.le_trans hAE.size h3.size))
     clear hf h2 h3 h4 hAE hbz
     refine zp (w' := w8_) (.slice (some ⟨gx, 0, none⟩) ((m + 1) + 1) cx) (by go_simp) ?_
     go_wp2_with fail
     go_roundg (ss.length - (k + 1))
     case measure => have := HLT.out; omega
     case rel => exact ⟨k + 1, (os ++ [l]) ++ [e], _, HLT.out, rfl, by go_num, rfl, HSN.out, by rw [HSTEP2.out]; simp [SpE.vl], by have := HFR.out.2.2; simp at this ⊢ <;> omega, HSSn.out, by intro j hj; simp [Value.ownBlock] at hj; rw [← hj]; exact HFn.out, HXn.out, HZn.out⟩
    have hz2 : ¬ z < 0 := fun h => c1 (hzl.1 h)
    clear hzl
    refine zv 12 (bs 14 8191) HEw9.out ?_
    refine zv 13 (bs 14 16383) HEw9.out ?_
    refine wpAnyH_done (by kernel_rfl) ?_ _
    have HST2 := zH (HST.out.trans (if_neg c1))
    clear c1
    go_upto_region 16 with fail
    have RDE9 := zH (range_ext RDE8.out HEw9.out)
    have HBX9 := zH (HBX.out.ext HEw9.out)
    have HOKL9 := zH (HOKL8.out.ext HEw9.out)
    have HOKE9 := zH (HOKE.out.ext HEw9.out)
    refine wp_region_held_drew (S := fun x => Ext w9 x) (by kernel_rfl) (Ext.refl _).drew (fun _ => ?_)
    refine zv 0 (bs 10 1) (Ext.refl w9).drew ?_
    refine zv 1 (bs 10 3) (Ext.refl w9).drew ?_
    refine zv 2 (bs 10 7) (Ext.refl w9).drew ?_
    refine zv 3 (bs 10 15) (Ext.refl w9).drew ?_
    refine mV 4 (bs 10 31) (Ext.refl w9).drew ?_
    refine zr 5 (bs 10 63) g6 (m * 8 + 4) [.bool l.b.n, .slice l.b.p l.b.l l.b.c, .bool l.b.m, .slice l.b.p2 l.b.l2 l.b.c2] (fun x hx => range_ext RDE9.out hx) Tryz.underlying27 (Ext.refl w9).drew ?_
    refine mV 6 (bs 10 127) (Ext.refl w9).drew ?_
    refine mP 7 (bs 10 255) 4 4 (fun x hx => HBX9.out.ext hx) Tryz.underlying27 (by simp [SpE.len]) (Ext.refl w9).drew ?_
    try simp only [Act.put, zA, zB, zC]
    obtain ⟨z2, hzz⟩ : ∃ z, z = rcmp l.q e.q := ⟨_, rfl⟩
    have hzl : z2 < 0 ↔ l.q < e.q := by rw [hzz]; exact rcmp_lt
    refine mC 8 (bs 10 511) (pCmpS (L := L) hzz (NIn.ofb (HOKL9.out.ext (Ext.refl _).drew)) (HOKE9.out.ext (Ext.refl _).drew).ptIn.c1 (by omega)) ?_
    rintro e wb ⟨rfl, hx⟩
    have HEwb := zH (show Ext w9 wb from ((Ext.refl w9).drew).trans hx)
    clear hx
    refine ⟨_, rfl, HEwb.out, ?_⟩
    try simp only [Act.put, zA, zB, zC]
    clear hzz
    have HEb := zH (HEw9.out.trans HEwb.out)
    have HOSc := zH (HOS.out.ext HEb.out)
    have HSSc := zH (HSS.out.ext HEb.out)
    have HOKEc := zH (HOKE.out.ext HEb.out)
    have HBXc := zH (HBX.out.ext HEb.out)
    have HXc := zH (HX.out.trans HEb.out)
    have HZc := zH (Nat.le_trans HZ8.out HEb.out.size)
    by_cases c2 : l.q < e.q
    ·have hz2 : z2 < 0 := hzl.2 c2
     clear hzl
     refine zv 9 (bs 10 1023) HEwb.out ?_
     refine wpAnyH_done (by kernel_rfl) ?_ _
     have HSTEP2 := zH (HST2.out.trans (if_pos c2))
     clear c2
     go_upto_region 17 with fail
     refine wp_region_lit ?_
     refine qV (.slice (some ⟨g6, 0, none⟩) (m + 1) c6) ?_
     refine zq (.int .i64 ((m : Int) + 1)) ?_
     refine qV (.int .i64 m) ?_
     refine zq (.pointer (some ⟨X8, 4, none⟩)) ?_
     refine wpList_if (by rfl) (wp_load_mid _ _ (by rfl) X8 (4) (by rfl) [.bool e.b.n, .slice e.b.p e.b.l e.b.c, .bool e.b.m, .slice e.b.p2 e.b.l2 e.b.c2] _ (show World.rangeAt wb X8 4 [.bool e.b.n, .slice e.b.p e.b.l e.b.c, .bool e.b.m, .slice e.b.p2 e.b.l2 e.b.c2] from HBXc.out.part 4 4) Tryz.underlying27 (by rfl) (by kernel_rfl) ?_)
     try simp only [Act.put, zA, zB, zC]
     refine qV (.pointer (some ⟨g6, m * 8, none⟩)) ?_
     refine zq (.pointer (some ⟨g6, m * 8 + 4, none⟩)) ?_
     obtain ⟨t1, t2, t3⟩ := HOSc.out.turn HM.out HOKEc.out
     obtain ⟨csr, hbr, hnr⟩ := HOSc.out.rowNoU
     refine wpList_if (by rfl) (wp_store_mid 27 _ _ (by rfl) g6 (m * 8 + 4) [.bool e.b.n, .slice e.b.p e.b.l e.b.c, .bool e.b.m, .slice e.b.p2 e.b.l2 e.b.c2].toArray (by rfl) (by rfl) t1 (by kernel_rfl) (all_oneCell_toArray (by simp [Value.oneCell'])) ?_)
     (try simp only [Act.put])
     have HSN := zH t2
     have hgb : w.heap.size ≤ g6 := HOSc.out.1.block g6 (by simp [Value.ownBlock])
     have HXn := zH (t3.ext HXc.out hgb)
     have HSSn := zH (HSSc.out.grown (row := some g6) t3 (fun j hj hj2 => by injection hj2 with hj2; have h7 := HFR.out.1 j (by simp [Value.ownBlock, hj2]); have h8 := HSSB.out j hj; omega) (fun r q h => h.own hbr hnr t3))
     have HZn := zH (Nat.le_trans (Nat.le_trans HFR.out.2.1 HZc.out) t3.size)
     clear t1 t2 t3 hbr hnr hgb
     generalize World.setCells wb g6 (m * 8 + 4) _ = wn at *
     go_wp2_with fail
     go_roundg (ss.length - (k + 1))
     case measure => have := HLT.out; omega
     case rel => exact ⟨k + 1, os ++ [⟨l.a, e.b, l.p, e.q⟩], _, HLT.out, rfl, by go_num, rfl, HSN.out, by rw [HSTEP2.out]; simp [SpE.vl], by have := HFR.out.2.2; simp at this ⊢ <;> omega, HSSn.out, HFR.out.1, HXn.out, HZn.out⟩
    have hz2 : ¬ z2 < 0 := fun h => c2 (hzl.1 h)
    clear hzl
    refine zv 9 (bs 10 1023) HEwb.out ?_
    refine wpAnyH_done (by kernel_rfl) ?_ _
    have HSTEP2 := zH (HST2.out.trans (if_neg c2))
    clear c2
    go_wp2_with fail
    go_roundg (ss.length - (k + 1))
    case measure => have := HLT.out; omega
    case rel => exact ⟨k + 1, os ++ [l], _, HLT.out, rfl, by go_num, rfl, (by have h := HOSc.out; exact h), by rw [HSTEP2.out, List.map_append]; rfl, by have := HFR.out.2.2; omega, HSSc.out, HFR.out.1, HXc.out, Nat.le_trans HFR.out.2.1 HZc.out⟩
   obtain rfl : k = ss.length := by omega
   have hge2 : ¬ (ss.length : Int) < (ss.length : Int) := by omega
   have HR := zH (show os.map SpE.vl = mergeV ps by rw [hov, List.take_of_length_le (by rw [← HVAL.out, List.length_map]; exact Nat.le_refl _)]; rfl)
   have HOS := zH hos
   have HX2 := zH hx
   have HLE := zH (show os.length ≤ ps.length by have := HSL.out; omega)
   clear hos hov hok hss hfar hx hwz
   go_wp2_with fail
   go_ret
   exact ⟨_, rfl, os, HOS.out, HR.out, HLE.out, HX2.out⟩

set_option maxRecDepth 20000 in
set_option maxHeartbeats 4000000 in
theorem spans_any (L : Nat) (u : Value) (rs : List Ring) (rule : Int) (ry : RV) (y : Rat) (w : World) (hu : RingsV w u rs) (hy : ry.In L w y) (h1L : 1 ≤ L) (hL : L ≤ 2000) (hn : rs.length ≤ 100000) (hr : ∀ r, r ∈ rs → r.length ≤ 100000) (hru : -9223372036854775808 ≤ rule ∧ rule ≤ 9223372036854775807) :
  Calls Tryz.prog 15 #[u, .int .i64 rule, .agg #[.bool ry.n, .slice ry.p ry.l ry.c, .bool ry.m, .slice ry.p2 ry.l2 ry.c2]] w fun e w' => ∃ v es, e = .returned v ∧ SpR (L + 8) w' w.heap.size v es ∧ es.map SpE.vl = spansV rule (marksV y rs) ∧ es.length ≤ 4096 ∧ Ext w w' := by
 have HU := zH hu
 have RY := zH hy
 have HRU := zH hru
 clear hu hy hru
 go_enter Tryz.func15, Tryz.ntmps15
 have H0 := zH (Hp.start w)
 go_upto_region 0 with fail
 refine wp_region_lit ?_
 refine mv_alloc (T := 27) (zs := [.bool ry.n, .slice ry.p ry.l ry.c, .bool ry.m, .slice ry.p2 ry.l2 ry.c2]) (by rfl) (by go_simp) H0.out (by simp [NoUL]) ?_
 intro X1 w2 hh hx hge
 have H3 := zH (show Hp w w2 [.blk X1 27 (rc ry)] from hh)
 clear hh hx hge
 try simp only [Act.put, zA, zB, zC]
 refine zq (.slice none 0 0) ?_
 go_upto_region 3 with fail
 refine wp_region_lit ?_
 refine qV (u) ?_
 refine zd X1 (0) (rc ry) (H3.out.range (i := 0) (by rfl) 0 4) Tryz.underlying27 ?_
 refine zc (marks_any L u rs ry y _ (HU.out.ext H3.out.ext) (RY.out.dig H3.out.dig0) h1L (by omega) hn hr) ?_
 rintro e w8 ⟨Am, nm_, cm, ms, rfl, rfl, hrow_, hok_, hval_, hx⟩
 have HVAL := zH hval_
 have HOK := zH hok_
 obtain ⟨Am2_, cm2_, hv_, hA_⟩ := RowN.form hrow_
 injection hv_ with e1_ _ _
 subst e1_
 have HA := zH hA_
 clear hval_ hok_ hA_
 have H9 := zH (show Hp w w8 [.blk X1 27 (rc ry), ro 59 5 Am ms.length cm MkE.cells ms] from H3.out.addRow hx hrow_)
 clear hrow_
 have hms4 : ms.length ≤ 4096 := by have h := marksV_len y rs; rw [← HVAL.out, List.length_map] at h; exact h
 clear hx
 refine zn ?_
 refine zq (.slice Am ms.length cm) ?_
 have H12 := zH (show Hp w w8 [.blk X1 27 (rc ry), ro 59 5 Am ms.length cm MkE.cells ms, ro 39 8 none 0 0 SpE.cells ([])] from H9.out.addNil 39 8)
 obtain ⟨qs, hqs⟩ : ∃ qs, qs = ms.map MkE.vl := ⟨_, rfl⟩
 have HQS := zH hqs
 have hql : qs.length = ms.length := by rw [hqs, List.length_map]
 clear hqs
 go_wp2_with fail
 go_loopg [7, 8, 17] (ms.length) (fun cq v13 v14 v15 wr => ∃ (k : Nat) (m : Nat) (es : List SpE) (A1 : Option Addr) (c1 : Nat) (s : Int), cq = ms.length - k ∧ v13 = .slice A1 m c1 ∧ v14 = .int .i64 s ∧ v15 = .int .i64 (k : Int) ∧ (k ≤ ms.length) ∧ (psum qs k = s) ∧ (-(k : Int) ≤ s ∧ s ≤ k) ∧ (m = es.length ∧ m ≤ k) ∧ (es.map SpE.vl = sel rule ((runs 0 qs).take k)) ∧ (∀ e, e ∈ es → e.Ok (L + 8) wr) ∧ Hp w wr [.blk X1 27 [.bool ry.n, .slice ry.p ry.l ry.c, .bool ry.m, .slice ry.p2 ry.l2 ry.c2], .row 59 5 (.slice Am ms.length cm) (ms.length) (List.flatMap MkE.cells ms), .row 39 8 (.slice A1 m c1) (m) (List.flatMap SpE.cells es)] ∧ Dig w8 wr)
 case atStart => exact ⟨0, 0, [], none, 0, 0, rfl, rfl, rfl, rfl, Nat.zero_le _, rfl, ⟨by decide, by decide⟩, ⟨rfl, Nat.le_refl _⟩, rfl, (by simp), H12.out, Dig.refl _⟩
 case round =>
  obtain ⟨k, m, es, A1, c1, s, rfl, rfl, rfl, rfl, q_HK, q_HPV, q_HSM, q_HM, q_HSEL, q_HOE, hh_, hd_⟩ := hrel
  generalize wr = w16 at *
  have HK := zH q_HK
  clear q_HK
  have HPV := zH q_HPV
  clear q_HPV
  have HSM := zH q_HSM
  clear q_HSM
  have HM := zH q_HM
  clear q_HM
  have HSEL := zH q_HSEL
  clear q_HSEL
  have HOE := zH q_HOE
  clear q_HOE
  have H18 := zH hh_
  have D18 := zH hd_
  clear hh_ hd_ H12
  by_cases c19 : k < ms.length
  ·have HLT := zH c19
   clear c19
   have hlt := HLT.out
   have hlt2 : (k : Int) < (ms.length : Int) := by omega
   obtain ⟨gm, rfl⟩ := HA.out (by omega)
   have hk4 : k ≤ 4096 := by omega
   have hm4 : m ≤ 4096 := by have := HM.out.2; omega
   have hsm := HSM.out
   obtain ⟨e, he_⟩ : ∃ e, ms[k]? = some e := ⟨_, List.getElem?_eq_getElem hlt⟩
   have HEe := zH he_
   have HOe := zH (HOK.out e (List.mem_of_getElem? he_))
   have RAe := zH HOe.out.1
   have BAe := zH HOe.out.2.1
   clear he_
   have hup := HOe.out.2.2
   have hqk : qs[k]? = some e.vl := by rw [HQS.out, List.getElem?_map, HEe.out]; rfl
   have HPS := zH (show psum qs (k + 1) = s + e.up from by rw [psum_succ hqk, HPV.out]; rfl)
   have HQK := zH hqk
   clear hqk
   go_upto_region 6 with fail
   refine wp_region_lit ?_
   refine zq (.int .i64 (k : Int)) ?_
   refine zp (w' := w16) (.pointer (some ⟨gm, k * 5, none⟩)) (by exact ezi (k := k) Tryz.underlying56 (l := HLT.out) (f := (Nat.zero_add _).symm)) ?_
   refine zd gm (k * 5) [.bool e.a.n, .slice e.a.p e.a.l e.a.c, .bool e.a.m, .slice e.a.p2 e.a.l2 e.a.c2, .int .i64 e.up] (H18.out.elem (f := MkE.cells) (i := 1) (by rfl) MkE.len HEe.out) Tryz.underlying59 ?_
   refine mv_alloc (T := 59) (zs := [.bool false, .slice none 0 0, .bool false, .slice none 0 0, .int .i64 0]) (by rfl) (by go_simp) H18.out (by simp [NoUL]) ?_
   intro X22 w23 hh hx hge
   have H24 := zH (show Hp w w23 [.blk X1 27 (rc ry), ro 59 5 (some ⟨gm, 0, none⟩) ms.length cm MkE.cells ms, ro 39 8 A1 m c1 SpE.cells es, .blk X22 59 [.bool false, .slice none 0 0, .bool false, .slice none 0 0, .int .i64 0]] from hh)
   have D24 := zH (Dig.of_ext hx)
   clear hh hx hge
   try simp only [Act.put, zA, zB, zC]
   refine zq (.int .i64 (k : Int)) ?_
   refine mv_st (by rfl) _ _ _ (by rfl) H24.out (ix := 3) (by rfl) 0 [.bool e.a.n, .slice e.a.p e.a.l e.a.c, .bool e.a.m, .slice e.a.p2 e.a.l2 e.a.c2, .int .i64 e.up] (by rfl) (by rfl) (by simp) (by kernel_rfl) (by simp [Value.oneCell']) (by simp [NoUL]) ?_
   intro w28 hh hd ho
   have H29 := zH (show Hp w w28 [.blk X1 27 (rc ry), ro 59 5 (some ⟨gm, 0, none⟩) ms.length cm MkE.cells ms, ro 39 8 A1 m c1 SpE.cells es, .blk X22 59 [.bool e.a.n, .slice e.a.p e.a.l e.a.c, .bool e.a.m, .slice e.a.p2 e.a.l2 e.a.c2, .int .i64 e.up]] from hh)
   have D29 := zH (hd)
   clear hh hd ho
   (try simp only [Act.put])
   go_upto_region 7 with fail
   refine wp_region_lit ?_
   refine qV (.int .i64 s) ?_
   refine zq (.pointer (some ⟨X22, 4, none⟩)) ?_
   refine ze X22 4 (.int .i64 e.up) (H29.out.range (i := 3) (by rfl) 4 1) ?_
   refine zp (w' := w28) (.int .i64 (s + e.up)) (by exact ez1 (by have ob0 := hsm.1; have ob1 := hsm.2; have ob4 := hup.1; have ob5 := hup.2; omega)) ?_
   refine zq (.int .i64 (s + e.up)) ?_
   by_cases c35 : k + 1 < ms.length
   ·have CK := zH c35
    clear c35
    have hk1 := CK.out
    obtain ⟨f, he_⟩ : ∃ f, ms[k + 1]? = some f := ⟨_, List.getElem?_eq_getElem hk1⟩
    have HEf := zH he_
    have HOf := zH (HOK.out f (List.mem_of_getElem? he_))
    have RAf := zH HOf.out.1
    have BAf := zH HOf.out.2.1
    clear he_
    have HRG := zH (runs_get qs 0 k e.vl f.vl HQK.out (by rw [HQS.out, List.getElem?_map, HEf.out]; rfl))
    have HRN := zH (show 0 + psum qs (k + 1) = s + e.up by rw [HPS.out]; omega)
    rcases hcf : fillsV (s + e.up) rule with _ | _
    ·have CF := zH hcf
     clear hcf
     go_upto_region 8 with fail
     refine wp_region_lit ?_
     refine zq (.int .i64 (k : Int)) ?_
     refine zp (w' := w28) (.int .i64 ((k + 1 : Nat) : Int)) (by exact ez1 (by have ob0 := hsm.1; have ob1 := hsm.2; have ob4 := hup.1; have ob5 := hup.2; omega)) ?_
     refine qV (.slice (some ⟨gm, 0, none⟩) ms.length cm) ?_
     refine zq (.int .i64 ((ms.length : Nat) : Int)) ?_
     refine zp (w' := w28) (.bool true) (by exact ezl (e := (dec_t (by have ob0 := hsm.1; have ob1 := hsm.2; have ob4 := hup.1; have ob5 := hup.2; omega)))) ?_
     refine qV (.bool true) ?_
     refine zq (.int .i64 (s + e.up)) ?_
     refine qV (.int .i64 rule) ?_
     refine zc (fills_any (s + e.up) rule _ ⟨(by have ob0 := hsm.1; have ob1 := hsm.2; have ob4 := hup.1; have ob5 := hup.2; omega), (by have ob0 := hsm.1; have ob1 := hsm.2; have ob4 := hup.1; have ob5 := hup.2; omega)⟩ HRU.out) ?_
     rintro e w44 ⟨rfl, hx⟩
     have H45 := zH (H29.out.step hx)
     have D45 := zH (Dig.of_ext hx)
     clear hx
     refine ⟨.bool false, by rw [CF.out], ?_⟩
     try simp only [Act.put, zA, zB, zC]
     refine zq (.bool false) ?_
     have DD48 := zH (((D24.out.trans D29.out).trans D45.out))
     have DD49 := zH ((((D18.out.trans D24.out).trans D29.out).trans D45.out))
     go_wp2_with fail
     go_roundg (ms.length - (k + 1))
     case measure => exact (by have ob0 := hsm.1; have ob1 := hsm.2; have ob4 := hup.1; have ob5 := hup.2; have ob7 := HLT.out; omega)
     case rel => exact ⟨k + 1, m, es, A1, c1, s + e.up, rfl, rfl, rfl, (by go_num), HLT.out, HPS.out, ⟨by omega, by omega⟩, ⟨HM.out.1, by have := HM.out.2; omega⟩, (by rw [HSEL.out, sel_take HRG.out, if_neg (by rw [HRN.out, CF.out]; decide), List.append_nil]), (fun g hg => (HOE.out g hg).dig DD48.out), H45.out.take 3, DD49.out⟩
    have CF := zH hcf
    clear hcf
    go_upto_region 8 with fail
    refine wp_region_lit ?_
    refine zq (.int .i64 (k : Int)) ?_
    refine zp (w' := w28) (.int .i64 ((k + 1 : Nat) : Int)) (by exact ez1 (by have ob0 := hsm.1; have ob1 := hsm.2; have ob4 := hup.1; have ob5 := hup.2; omega)) ?_
    refine qV (.slice (some ⟨gm, 0, none⟩) ms.length cm) ?_
    refine zq (.int .i64 ((ms.length : Nat) : Int)) ?_
    refine zp (w' := w28) (.bool true) (by exact ezl (e := (dec_t (by have ob0 := hsm.1; have ob1 := hsm.2; have ob4 := hup.1; have ob5 := hup.2; omega)))) ?_
    refine qV (.bool true) ?_
    refine zq (.int .i64 (s + e.up)) ?_
    refine qV (.int .i64 rule) ?_
    refine zc (fills_any (s + e.up) rule _ ⟨(by have ob0 := hsm.1; have ob1 := hsm.2; have ob4 := hup.1; have ob5 := hup.2; omega), (by have ob0 := hsm.1; have ob1 := hsm.2; have ob4 := hup.1; have ob5 := hup.2; omega)⟩ HRU.out) ?_
    rintro e w58 ⟨rfl, hx⟩
    have H59 := zH (H29.out.step hx)
    have D59 := zH (Dig.of_ext hx)
    clear hx
    refine ⟨.bool true, by rw [CF.out], ?_⟩
    try simp only [Act.put, zA, zB, zC]
    refine zq (.bool true) ?_
    go_upto_region 9 with fail
    refine wp_region_held_drew (S := fun x => Fr (fun kz => Value.ownBlock (.slice A1 m c1) = some kz) w58 x) (by kernel_rfl) (Fr.of_ext zb) (fun _ => ?_)
    have H62 := zH (H59.out.step (Ext.refl w58).drew)
    have D62 := zH (Dig.of_ext (w := w58) zb)
    refine zx 0 (bs 13 1) (.slice A1 m c1) (Fr.of_ext zb) ?_
    refine mX 1 (bs 13 3) (.pointer (some ⟨X22, 0, none⟩)) (Fr.of_ext zb) ?_
    refine zr 2 (bs 13 7) X22 (0) [.bool e.a.n, .slice e.a.p e.a.l e.a.c, .bool e.a.m, .slice e.a.p2 e.a.l2 e.a.c2] (fun x hx => Fr.range hx (show World.rangeAt w58 X22 (0) [.bool e.a.n, .slice e.a.p e.a.l e.a.c, .bool e.a.m, .slice e.a.p2 e.a.l2 e.a.c2] from (H59.out.range (i := 3) (by rfl) 0 4)) (H59.out.offRow (i := 3) (j := 2) (by rfl) (by rfl) (by decide) (by rfl))) Tryz.underlying27 (Fr.of_ext zb) ?_
    refine zx 3 (bs 13 15) (.slice (some ⟨gm, 0, none⟩) ms.length cm) (Fr.of_ext zb) ?_
    refine zx 4 (bs 13 31) (.int .i64 (k : Int)) (Fr.of_ext zb) ?_
    refine zu 5 (bs 13 63) (v := .int .i64 ((k + 1 : Nat) : Int)) (Fr.of_ext zb) ?_ (hv := by intro w hSw; exact ez1 (by have ob0 := hsm.1; have ob1 := hsm.2; have ob4 := hup.1; have ob5 := hup.2; omega))
    refine zu 6 (bs 13 127) (v := .pointer (some ⟨gm, (k + 1) * 5, none⟩)) (Fr.of_ext zb) ?_ (hv := by intro w hSw; exact ezi (k := k + 1) Tryz.underlying56 (l := CK.out) (f := (Nat.zero_add _).symm))
    refine mX 7 (bs 13 255) (.pointer (some ⟨gm, (k + 1) * 5, none⟩)) (Fr.of_ext zb) ?_
    refine zr 8 (bs 13 511) gm ((k + 1) * 5) [.bool f.a.n, .slice f.a.p f.a.l f.a.c, .bool f.a.m, .slice f.a.p2 f.a.l2 f.a.c2] (fun x hx => Fr.range hx (show World.rangeAt w58 gm ((k + 1) * 5) [.bool f.a.n, .slice f.a.p f.a.l f.a.c, .bool f.a.m, .slice f.a.p2 f.a.l2 f.a.c2] from (range_part (H59.out.elem (f := MkE.cells) (i := 1) (by rfl) MkE.len HEf.out) 0 4)) (H59.out.offRow (i := 1) (j := 2) (by rfl) (by rfl) (by decide) (by rfl))) Tryz.underlying27 (Fr.of_ext zb) ?_
    refine zx 9 (bs 13 1023) (.agg #[.bool e.a.n, .slice e.a.p e.a.l e.a.c, .bool e.a.m, .slice e.a.p2 e.a.l2 e.a.c2, .bool f.a.n, .slice f.a.p f.a.l f.a.c, .bool f.a.m, .slice f.a.p2 f.a.l2 f.a.c2]) (Fr.of_ext zb) ?_
    refine mU 10 (bs 13 2047) (v := .slice (some ⟨w58.drew.heap.size, 0, none⟩) 1 1) (w' := (w58.drew.alloc (.cells ([.bool e.a.n, .slice e.a.p e.a.l e.a.c, .bool e.a.m, .slice e.a.p2 e.a.l2 e.a.c2, .bool f.a.n, .slice f.a.p f.a.l f.a.c, .bool f.a.m, .slice f.a.p2 f.a.l2 f.a.c2] : List Value).toArray 39))) ((Fr.of_ext zb).trans (Fr.of_ext ((Ext.refl w58.drew).alloc _))) ?_
    try simp only [Act.put, zA, zB, zC]
    refine md_app (j := 11) (listed' := (bs 13 4095)) (by rfl) (by kernel_rfl) (by rfl) _ _ _ (by rfl) elSpan (by rfl) H62.out (ix := 2) (by rfl) 1 1 [.bool e.a.n, .slice e.a.p e.a.l e.a.c, .bool e.a.m, .slice e.a.p2 e.a.l2 e.a.c2, .bool f.a.n, .slice f.a.p f.a.l f.a.c, .bool f.a.m, .slice f.a.p2 f.a.l2 f.a.c2] (by rfl) rfl (by simp [Value.oneCell']) (by simp [NoUL]) (by decide) (by unfold maxLen; exact (by have ob0 := hsm.1; have ob1 := hsm.2; have ob4 := hup.1; have ob5 := hup.2; omega)) (by have ob0 := hsm.1; have ob1 := hsm.2; have ob4 := hup.1; have ob5 := hup.2; omega) (by kernel_rfl) ?_
    intro g73 cp74 w72 hf hh hd hg
    have Fg73 := zH hf
    clear hf
    rw [show List.flatMap SpE.cells es ++ [.bool e.a.n, .slice e.a.p e.a.l e.a.c, .bool e.a.m, .slice e.a.p2 e.a.l2 e.a.c2, .bool f.a.n, .slice f.a.p f.a.l f.a.c, .bool f.a.m, .slice f.a.p2 f.a.l2 f.a.c2] = List.flatMap SpE.cells (es ++ [(⟨e.a, f.a, e.q, f.q⟩ : SpE)]) from flat_snoc SpE.cells _ (⟨e.a, f.a, e.q, f.q⟩ : SpE)] at hh
    have H75 := zH (show Hp w w72 [.blk X1 27 (rc ry), ro 59 5 (some ⟨gm, 0, none⟩) ms.length cm MkE.cells ms, ro 39 8 (some ⟨g73, 0, none⟩) (m + 1) cp74 SpE.cells (es ++ [(⟨e.a, f.a, e.q, f.q⟩ : SpE)]), .blk X22 59 [.bool e.a.n, .slice e.a.p e.a.l e.a.c, .bool e.a.m, .slice e.a.p2 e.a.l2 e.a.c2, .int .i64 e.up]] from hh)
    have D75 := zH (show Dig w58.drew w72 from hd)
    have S77 := zH (show Fr (fun kz => Value.ownBlock (.slice A1 m c1) = some kz) w58 w72 from Fr.trans_new ((Fr.of_ext zb).trans (Fr.of_ext ((Ext.refl _).alloc _))) hg (fun j hj => .inl hj))
    clear hh hd hg
    refine ⟨S77.out, ?_⟩
    try simp only [Act.put, zA, zB, zC]
    refine zx 12 (bs 13 8191) (.slice (some ⟨g73, 0, none⟩) (m + 1) cp74) S77.out ?_
    refine wpAnyH_done (by kernel_rfl) ?_ _
    have DD79 := zH (((((D24.out.trans D29.out).trans D59.out).trans D62.out).trans D75.out))
    have DD80 := zH ((((((D18.out.trans D24.out).trans D29.out).trans D59.out).trans D62.out).trans D75.out))
    have HOKN := zH (show SpE.Ok (L + 8) w72 (⟨e.a, f.a, e.q, f.q⟩ : SpE) from ⟨(RAe.out.dig DD80.out), (RAf.out.dig DD80.out), BAe.out, BAf.out⟩)
    go_wp2_with fail
    go_roundg (ms.length - (k + 1))
    case measure => exact (by have ob0 := hsm.1; have ob1 := hsm.2; have ob4 := hup.1; have ob5 := hup.2; have ob7 := HLT.out; omega)
    case rel => exact ⟨k + 1, m + 1, es ++ [(⟨e.a, f.a, e.q, f.q⟩ : SpE)], some ⟨g73, 0, none⟩, cp74, s + e.up, rfl, rfl, rfl, (by go_num), HLT.out, HPS.out, ⟨by omega, by omega⟩, ⟨by rw [List.length_append, ← HM.out.1]; rfl, by have := HM.out.2; omega⟩, (by rw [List.map_append, HSEL.out, sel_take HRG.out, if_pos (by rw [HRN.out]; exact CF.out)]; rfl), (fun g hg => (List.mem_append.1 hg).elim (fun hg => (HOE.out g hg).dig DD79.out) (fun hg => by rw [List.mem_singleton.1 hg]; exact HOKN.out)), H75.out.take 3, DD80.out⟩
   have CK := zH c35
   clear c35
   have hk1 := CK.out
   go_upto_region 8 with fail
   refine wp_region_lit ?_
   refine zq (.int .i64 (k : Int)) ?_
   refine zp (w' := w28) (.int .i64 ((k + 1 : Nat) : Int)) (by exact ez1 (by have ob0 := hsm.1; have ob1 := hsm.2; have ob4 := hup.1; have ob5 := hup.2; omega)) ?_
   refine qV (.slice (some ⟨gm, 0, none⟩) ms.length cm) ?_
   refine zq (.int .i64 ((ms.length : Nat) : Int)) ?_
   refine zp (w' := w28) (.bool false) (by exact ezl (e := (dec_f (by have ob0 := hsm.1; have ob1 := hsm.2; have ob4 := hup.1; have ob5 := hup.2; omega)))) ?_
   refine zq (.bool false) ?_
   refine zk ?_
   refine zk ?_
   refine zk ?_
   refine zq (.bool false) ?_
   have DD88 := zH ((D24.out.trans D29.out))
   have DD89 := zH (((D18.out.trans D24.out).trans D29.out))
   go_wp2_with fail
   go_roundg (ms.length - (k + 1))
   case measure => exact (by have ob0 := hsm.1; have ob1 := hsm.2; have ob4 := hup.1; have ob5 := hup.2; have ob7 := HLT.out; omega)
   case rel => exact ⟨k + 1, m, es, A1, c1, s + e.up, rfl, rfl, rfl, (by go_num), HLT.out, HPS.out, ⟨by omega, by omega⟩, ⟨HM.out.1, by have := HM.out.2; omega⟩, (by rw [HSEL.out, List.take_of_length_le (show (runs 0 qs).length ≤ k by rw [runs_len]; omega), List.take_of_length_le (show (runs 0 qs).length ≤ k + 1 by rw [runs_len]; omega)]), (fun g hg => (HOE.out g hg).dig DD88.out), H29.out.take 3, DD89.out⟩
  have HLT := zH c19
  clear c19
  obtain rfl : k = ms.length := by have := HK.out; have := HLT.out; omega
  have hge : ¬ (ms.length : Int) < (ms.length : Int) := by omega
  have HRW := zH (H18.out.row (i := 2) (by rfl))
  have hm4 : m ≤ 4096 := by have := HM.out.2; omega
  have hme := HM.out.1
  subst hme
  go_upto_region 11 with fail
  refine wp_region_lit ?_
  refine qV (.slice A1 es.length c1) ?_
  refine zc (merge_any (L + 8) _ (List.map SpE.vl es) _ (SpR.reads ⟨HRW.out, HOE.out⟩) (by omega) (by omega) (by rw [List.length_map]; omega)) ?_
  rintro e w91 ⟨vm, em, rfl, hm1, hm2, hm3, hx⟩
  have H92 := zH (H18.out.step hx)
  clear hx
  refine zn ?_
  refine zq (vm) ?_
  go_wp2_with fail
  go_ret
  exact ⟨_, rfl, em, SpR.base hm1 H18.out.ext.size, by rw [hm2, HSEL.out, List.take_of_length_le (by rw [runs_len]; omega), HQS.out, HVAL.out]; rfl, Nat.le_trans hm3 (by rw [List.length_map]; exact hm4), H92.out.ext⟩

def RsV (L : Nat) (w : World) (v : Value) (qs : List Rat) : Prop :=
  ∃ A c, v = .slice A qs.length c ∧ ∀ (k : Nat) (q : Rat), qs[k]? = some q → ∃ (g off : Nat) (r : RV), A = some ⟨g, off, none⟩ ∧ w.rangeAt g (off + k * 4) [.bool r.n, .slice r.p r.l r.c, .bool r.m, .slice r.p2 r.l2 r.c2] ∧ r.Is w q ∧ Nm.rl q ≤ L
theorem RsV.ext {L : Nat} {w w' : World} {v : Value} {qs : List Rat} (h : RsV L w v qs) (x : Ext w w') : RsV L w' v qs := by
  obtain ⟨A, c, rfl, h⟩ := h
  refine ⟨A, c, rfl, fun k q hq => ?_⟩
  obtain ⟨g, off, r, e, h1, h2, h3⟩ := h k q hq
  exact ⟨g, off, r, e, range_ext h1 x, h2.ext x, h3⟩
set_option maxRecDepth 20000 in
set_option maxHeartbeats 4000000 in
theorem sameAll_any (L : Nat) (u v : Value) (qs : List Rat) (w : World) (hu : RsV L w u qs) (hv : RsV L w v qs) (hL : L ≤ 60000) (hn : qs.length ≤ 100000) :
  Calls Tryz.prog 23 #[u, v] w fun e w' => e = .returned (.bool true) ∧ Ext w w' := by
 obtain ⟨Au, cu, rfl, hu⟩ := hu
 obtain ⟨Av, cv, rfl, hv⟩ := hv
 have HU := zH hu
 have HV := zH hv
 have hne : ((qs.length : Int) != (qs.length : Int)) = false := by simp
 clear hu hv
 go_enter Tryz.func23, Tryz.ntmps23
 go_wp2_with fail
 go_loopg [5] qs.length (fun c i wr => ∃ k : Nat, k ≤ qs.length ∧ c = qs.length - k ∧ i = .int .i64 k ∧ Ext w wr)
 case atStart => exact ⟨0, Nat.zero_le _, rfl, rfl, Ext.refl _⟩
 case round =>
  obtain ⟨k, hk, rfl, rfl, hx⟩ := hrel
  have HX := zH hx
  clear hx
  by_cases hlt : k < qs.length
  ·have hlt2 : (k : Int) < (qs.length : Int) := by omega
   obtain ⟨q, hq⟩ : ∃ q, qs[k]? = some q := ⟨_, List.getElem?_eq_getElem hlt⟩
   obtain ⟨gu, ou, a, rfl, hu1, hu2, hu3⟩ := HU.out k q hq
   obtain ⟨gv, ov, b, rfl, hv1, hv2, hv3⟩ := HV.out k q hq
   have HRU := zH (range_ext hu1 HX.out)
   have HRV := zH (range_ext hv1 HX.out)
   have HA := zH (hu2.ext HX.out)
   have HB := zH (hv2.ext HX.out)
   have HQ := zH hu3
   have HLT := zH hlt
   clear hq hu1 hu2 hu3 hv1 hv2 hv3 hlt
   go_upto_region 6 with fail
   refine wp_region_held_drew (S := fun x => Ext wr x) (by kernel_rfl) (Ext.refl _).drew (fun _ => ?_)
   refine zv 0 (bs 10 1) (Ext.refl wr).drew ?_
   refine zv 1 (bs 10 3) (Ext.refl wr).drew ?_
   refine mV 2 (bs 10 7) (Ext.refl wr).drew ?_
   refine zr 3 (bs 10 15) gu (ou + k * 4) [.bool a.n, .slice a.p a.l a.c, .bool a.m, .slice a.p2 a.l2 a.c2] (fun wX hwX => range_ext HRU.out hwX) Tryz.underlying27 (Ext.refl wr).drew ?_
   refine zv 4 (bs 10 31) (Ext.refl wr).drew ?_
   refine zv 5 (bs 10 63) (Ext.refl wr).drew ?_
   refine mV 6 (bs 10 127) (Ext.refl wr).drew ?_
   refine zr 7 (bs 10 255) gv (ov + k * 4) [.bool b.n, .slice b.p b.l b.c, .bool b.m, .slice b.p2 b.l2 b.c2] (fun wX hwX => range_ext HRV.out hwX) Tryz.underlying27 (Ext.refl wr).drew ?_
   refine mC 8 (bs 10 511) (same_any a b q L _ (HA.out.ext (Ext.refl _).drew) (HB.out.ext (Ext.refl _).drew) HQ.out (by omega)) ?_
   rintro e w5 ⟨rfl, hx⟩
   have HEw5 := zH (show Ext wr w5 from ((Ext.refl wr).drew).trans hx)
   clear hx
   refine ⟨_, rfl, HEw5.out, ?_⟩
   try simp only [Act.put, zA, zB, zC]
   refine zv 9 (bs 10 1023) HEw5.out ?_
   refine wpAnyH_done (by kernel_rfl) ?_ _
   go_wp2_with fail
   go_roundg (qs.length - (k + 1))
   case measure => have := HLT.out; omega
   case rel => exact ⟨k + 1, HLT.out, rfl, by go_num, HX.out.trans HEw5.out⟩
  obtain rfl : k = qs.length := by omega
  have hge : ¬ (qs.length : Int) < (qs.length : Int) := by omega
  go_wp2_with fail
  go_ret
  exact ⟨rfl, HX.out⟩

set_option maxRecDepth 20000 in
set_option maxHeartbeats 4000000 in
theorem r18same_any (L : Nat) (u v : Value) (b1 b2 : Nat) (es fs : List SpE) (w : World) (hu : SpR L w b1 u es) (hv : SpR L w b2 v fs) (he : es.map SpE.vl = fs.map SpE.vl) (hL : L ≤ 60000) (hn : es.length ≤ 100000) :
  Calls Tryz.prog 11 #[u, v] w fun e w' => e = .returned (.bool true) ∧ Ext w w' := by
 have hlen : es.length = fs.length := by have h := congrArg List.length he; simpa using h
 obtain ⟨Au, cu, rfl⟩ := row_slice hu.1
 obtain ⟨Av, cv, rfl⟩ := row_slice hv.1
 rw [← hlen] at hv ⊢
 have HU := zH hu
 have HV := zH hv
 have HE := zH he
 have HLN := zH hlen
 have hne : ((es.length : Int) != (es.length : Int)) = false := by simp
 clear hu hv he hlen
 go_enter Tryz.func11, Tryz.ntmps11
 go_wp2_with fail
 go_loopg [5] es.length (fun c i wr => ∃ k : Nat, k ≤ es.length ∧ c = es.length - k ∧ i = .int .i64 k ∧ Ext w wr)
 case atStart => exact ⟨0, Nat.zero_le _, rfl, rfl, Ext.refl _⟩
 case round =>
  obtain ⟨k, hk, rfl, rfl, hx⟩ := hrel
  have HX := zH hx
  clear hx
  by_cases hlt : k < es.length
  ·have hlt2 : (k : Int) < (es.length : Int) := by omega
   obtain ⟨e, hee⟩ : ∃ e, es[k]? = some e := ⟨_, List.getElem?_eq_getElem hlt⟩
   obtain ⟨f, hff⟩ : ∃ f, fs[k]? = some f := ⟨_, List.getElem?_eq_getElem (by have := HLN.out; omega)⟩
   have hvl : e.vl = f.vl := by
    have h1 : (es.map SpE.vl)[k]? = some e.vl := by rw [List.getElem?_map, hee]; rfl
    rw [HE.out, List.getElem?_map, hff] at h1
    injection h1 with h1
    exact h1.symm
   have hpq : e.p = f.p ∧ e.q = f.q := by have h1 := congrArg Prod.fst hvl; have h2 := congrArg Prod.snd hvl; exact ⟨h1, h2⟩
   have HOE := zH ((HU.out.2 e (List.mem_of_getElem? hee)).ext HX.out)
   have HOF := zH ((HV.out.2 f (List.mem_of_getElem? hff)).ext HX.out)
   obtain ⟨gu, rfl⟩ : ∃ g, Au = some ⟨g, 0, none⟩ := by
    rcases HU.out.form with ⟨_, hn⟩ | ⟨g, cap, rest, hv, _⟩
    ·rw [hn] at hlt; simp at hlt
    injection hv with e1 _ _; exact ⟨g, e1⟩
   obtain ⟨gv, rfl⟩ : ∃ g, Av = some ⟨g, 0, none⟩ := by
    rcases HV.out.form with ⟨_, hn⟩ | ⟨g, cap, rest, hv, _⟩
    ·rw [hn] at hff; simp at hff
    injection hv with e1 _ _; exact ⟨g, e1⟩
   have HRU := zH (range_ext (HU.out.read hee) HX.out)
   have HRV := zH (range_ext (HV.out.read hff) HX.out)
   have HPQ := zH hpq
   have HLT := zH hlt
   clear hee hff hvl hpq hlt
   go_upto_region 6 with fail
   refine wp_region_held_drew (S := fun x => Ext wr x) (by kernel_rfl) (Ext.refl _).drew (fun _ => ?_)
   refine zv 0 (bs 26 1) (Ext.refl wr).drew ?_
   refine zv 1 (bs 26 3) (Ext.refl wr).drew ?_
   refine zv 2 (bs 26 7) (Ext.refl wr).drew ?_
   refine mV 3 (bs 26 15) (Ext.refl wr).drew ?_
   refine zr 4 (bs 26 31) gu (k * 8) [.bool e.a.n, .slice e.a.p e.a.l e.a.c, .bool e.a.m, .slice e.a.p2 e.a.l2 e.a.c2] (fun wX hwX => range_ext (range_left (a := [.bool e.a.n, .slice e.a.p e.a.l e.a.c, .bool e.a.m, .slice e.a.p2 e.a.l2 e.a.c2]) (b := [.bool e.b.n, .slice e.b.p e.b.l e.b.c, .bool e.b.m, .slice e.b.p2 e.b.l2 e.b.c2]) HRU.out) hwX) Tryz.underlying27 (Ext.refl wr).drew ?_
   refine zv 5 (bs 26 63) (Ext.refl wr).drew ?_
   refine zv 6 (bs 26 127) (Ext.refl wr).drew ?_
   refine zv 7 (bs 26 255) (Ext.refl wr).drew ?_
   refine mV 8 (bs 26 511) (Ext.refl wr).drew ?_
   refine zr 9 (bs 26 1023) gv (k * 8) [.bool f.a.n, .slice f.a.p f.a.l f.a.c, .bool f.a.m, .slice f.a.p2 f.a.l2 f.a.c2] (fun wX hwX => range_ext (range_left (a := [.bool f.a.n, .slice f.a.p f.a.l f.a.c, .bool f.a.m, .slice f.a.p2 f.a.l2 f.a.c2]) (b := [.bool f.b.n, .slice f.b.p f.b.l f.b.c, .bool f.b.m, .slice f.b.p2 f.b.l2 f.b.c2]) HRV.out) hwX) Tryz.underlying27 (Ext.refl wr).drew ?_
   refine mC 10 (bs 26 2047) (same_any e.a f.a e.p L _ (HOE.out.ext (Ext.refl _).drew).1 (by rw [HPQ.out.1]; exact (HOF.out.ext (Ext.refl _).drew).1) HOE.out.2.2.1 (by omega)) ?_
   rintro e w5 ⟨rfl, hx⟩
   have HEw5 := zH (show Ext wr w5 from ((Ext.refl wr).drew).trans hx)
   clear hx
   refine ⟨_, rfl, HEw5.out, ?_⟩
   try simp only [Act.put, zA, zB, zC]
   refine zv 11 (bs 26 4095) HEw5.out ?_
   refine zv 12 (bs 26 8191) HEw5.out ?_
   refine zv 13 (bs 26 16383) HEw5.out ?_
   refine zv 14 (bs 26 32767) HEw5.out ?_
   refine zv 15 (bs 26 65535) HEw5.out ?_
   refine mV 16 (bs 26 131071) HEw5.out ?_
   refine zr 17 (bs 26 262143) gu (k * 8 + 4) [.bool e.b.n, .slice e.b.p e.b.l e.b.c, .bool e.b.m, .slice e.b.p2 e.b.l2 e.b.c2] (fun wX hwX => range_ext (range_right (a := [.bool e.a.n, .slice e.a.p e.a.l e.a.c, .bool e.a.m, .slice e.a.p2 e.a.l2 e.a.c2]) (b := [.bool e.b.n, .slice e.b.p e.b.l e.b.c, .bool e.b.m, .slice e.b.p2 e.b.l2 e.b.c2]) (n := 4) HRU.out rfl) hwX) Tryz.underlying27 HEw5.out ?_
   refine zv 18 (bs 26 524287) HEw5.out ?_
   refine zv 19 (bs 26 1048575) HEw5.out ?_
   refine zv 20 (bs 26 2097151) HEw5.out ?_
   refine mV 21 (bs 26 4194303) HEw5.out ?_
   refine zr 22 (bs 26 8388607) gv (k * 8 + 4) [.bool f.b.n, .slice f.b.p f.b.l f.b.c, .bool f.b.m, .slice f.b.p2 f.b.l2 f.b.c2] (fun wX hwX => range_ext (range_right (a := [.bool f.a.n, .slice f.a.p f.a.l f.a.c, .bool f.a.m, .slice f.a.p2 f.a.l2 f.a.c2]) (b := [.bool f.b.n, .slice f.b.p f.b.l f.b.c, .bool f.b.m, .slice f.b.p2 f.b.l2 f.b.c2]) (n := 4) HRV.out rfl) hwX) Tryz.underlying27 HEw5.out ?_
   refine mC 23 (bs 26 16777215) (same_any e.b f.b e.q L _ (HOE.out.ext HEw5.out).2.1 (by rw [HPQ.out.2]; exact (HOF.out.ext HEw5.out).2.1) HOE.out.2.2.2 (by omega)) ?_
   rintro e w6 ⟨rfl, hx⟩
   have HEw6 := zH (show Ext wr w6 from (HEw5.out).trans hx)
   clear hx
   refine ⟨_, rfl, HEw6.out, ?_⟩
   try simp only [Act.put, zA, zB, zC]
   refine zv 24 (bs 26 33554431) HEw6.out ?_
   refine zv 25 (bs 26 67108863) HEw6.out ?_
   refine wpAnyH_done (by kernel_rfl) ?_ _
   go_wp2_with fail
   go_roundg (es.length - (k + 1))
   case measure => have := HLT.out; omega
   case rel => exact ⟨k + 1, HLT.out, rfl, by go_num, HX.out.trans HEw6.out⟩
  obtain rfl : k = es.length := by omega
  have hge : ¬ (es.length : Int) < (es.length : Int) := by omega
  go_wp2_with fail
  go_ret
  exact ⟨rfl, HX.out⟩
end Go.Proofs.YtaeeeailoiioaacGreat

namespace Go.Proofs.YtaeeeailoiioaacGreat
open Go.RowKit

theorem Hp.addRow2 {w0 w w' : World} {m : List Ent} {t t2 : TypeId} {size size2 : Nat} {v v2 : Value} {n n2 : Nat} {xs xs2 : List Value} (h : Hp w0 w m) (x : Ext w w') (r : RowN w' w.heap.size t size v n xs) (r2 : RowN w' w.heap.size t2 size2 v2 n2 xs2) (hne : t ≠ t2) :
  Hp w0 w' (m ++ [.row t size v n xs] ++ [.row t2 size2 v2 n2 xs2]) := by
 have h1 := h.addRow x r
 have r2' : RowN w' w0.heap.size t2 size2 v2 n2 xs2 := by
  obtain ⟨q1, q2 | ⟨g, cap, rest, a, b, c⟩⟩ := r2
  ·exact ⟨q1, .inl q2⟩
  exact ⟨q1, .inr ⟨g, cap, rest, a, Nat.le_trans h.ext.size b, c⟩⟩
 refine h1.add r2' (fun i f hf k hk e => ?_)
 rcases List.mem_append.1 (List.mem_of_getElem? hf) with hm | hm
 ·obtain ⟨j, hj⟩ := List.mem_iff_getElem?.1 hm
  have q1 := h.lt hj hk
  have q2 := RowN.block r2 k e
  omega
 simp at hm
 subst hm
 obtain ⟨_, ⟨rfl, _⟩ | ⟨g2, c2, rest2, rfl, _, hb2, _⟩⟩ := r2
 ·simp [Ent.own, Value.ownBlock] at e
 have hk2 : g2 = k := by simpa [Ent.own, Value.ownBlock] using e
 subst hk2
 exact hne (h1.typ hf hb2 hk)
theorem SpR.up {L M : Nat} {w : World} {b : Nat} {v : Value} {es : List SpE} (h : SpR L w b v es) (hl : L ≤ M) : SpR M w b v es := ⟨h.1, fun e he => ⟨(h.2 e he).1, (h.2 e he).2.1, Nat.le_trans (h.2 e he).2.2.1 hl, Nat.le_trans (h.2 e he).2.2.2 hl⟩⟩
def exR : List Ring := [[(0, 0), (4, 0), (4, 4), (0, 4)]]
theorem ex_marks : marksV (((1 : Int)) : Rat) exR = [((0 : Rat), -1), ((4 : Rat), 1)] := by decide +kernel
theorem ex_spans : spansV 1 [((0 : Rat), -1), ((4 : Rat), 1)] = [((0 : Rat), (4 : Rat))] := by decide +kernel
theorem exRings {w0 w : World} {m : List Ent} {X1 X2 : Nat} (h : Hp w0 w m) (h1 : m[0]? = some (.blk X1 44 [.int .i64 0, .int .i64 0, .int .i64 4, .int .i64 0, .int .i64 4, .int .i64 4, .int .i64 0, .int .i64 4]))
  (h2 : m[1]? = some (.blk X2 45 [.slice (some ⟨X1, 0, none⟩) 4 4])) : RingsV w (.slice (some ⟨X2, 0, none⟩) 1 1) exR := by
 refine ⟨_, 1, rfl, fun _ => ⟨X2, 0, rfl, fun i r hr => ?_⟩⟩
 have hi : i = 0 := by have := (List.getElem?_eq_some_iff.1 hr).1; simp [exR] at this; omega
 subst hi
 have hr2 : r = [(0, 0), (4, 0), (4, 4), (0, 4)] := by simpa [exR] using hr.symm
 subst hr2
 refine ⟨_, 4, h.cell h2 0 rfl, ⟨_, 4, rfl, fun _ => ⟨X1, 0, rfl, fun i hi => ?_⟩⟩⟩
 have hi : i < 4 := hi
 have : i = 0 ∨ i = 1 ∨ i = 2 ∨ i = 3 := by omega
 rcases this with rfl | rfl | rfl | rfl
 ·exact ⟨h.cell h1 0 rfl, h.cell h1 1 rfl⟩
 ·exact ⟨h.cell h1 2 rfl, h.cell h1 3 rfl⟩
 ·exact ⟨h.cell h1 4 rfl, h.cell h1 5 rfl⟩
 exact ⟨h.cell h1 6 rfl, h.cell h1 7 rfl⟩
theorem Hp.litRow {w0 w : World} {m : List Ent} {i X n size : Nat} {t : TypeId} {cs : List Value} (h : Hp w0 w m) (hi : m[i]? = some (.blk X t cs)) (hl : cs.length = n * size) (hn : n ≤ maxLen) : RowN w w0.heap.size t size (.slice (some ⟨X, 0, none⟩) n n) n cs :=
  ⟨hl, .inr ⟨X, n, [], rfl, h.ge hi rfl, by rw [List.append_nil]; exact h.blk hi, Nat.le_refl _, hn, by simp [hl], by rw [List.append_nil]; exact h.noU hi⟩⟩
theorem RsV.of_row {α : Type} {L : Nat} {w : World} {b n : Nat} {t : TypeId} {v : Value} {es : List α} (f : α → RV) (q : α → Rat) (h : RowN w b t 4 v n (es.flatMap fun e => [.bool (f e).n, .slice (f e).p (f e).l (f e).c, .bool (f e).m, .slice (f e).p2 (f e).l2 (f e).c2])) (hn : n = es.length)
  (hok : ∀ e, e ∈ es → (f e).Is w (q e) ∧ Nm.rl (q e) ≤ L) : RsV L w v (es.map q) := by
 obtain ⟨A, c, rfl, hA⟩ := h.form
 refine ⟨A, c, by rw [List.length_map, hn], fun k x hx => ?_⟩
 rw [List.getElem?_map] at hx
 obtain ⟨e, he, rfl⟩ := Option.map_eq_some_iff.1 hx
 have hk := (List.getElem?_eq_some_iff.1 he).1
 obtain ⟨g, rfl⟩ := hA (by omega)
 obtain ⟨h1, h2⟩ := hok e (List.mem_of_getElem? he)
 exact ⟨g, 0, f e, rfl, by rw [Nat.zero_add]; exact h.rangeAt _ _ (fun j v hj => flat_get (c := 4) (fun _ => rfl) es k e he j v hj), h1, h2⟩
theorem two_of_map {α β : Type} {f : α → β} {l : List α} {x y : β} (h : l.map f = [x, y]) : ∃ a b, l = [a, b] ∧ f a = x ∧ f b = y := by
  rcases l with _ | ⟨a, _ | ⟨b, _ | ⟨c, t⟩⟩⟩
  · cases h
  · simp at h
  · simp at h; exact ⟨a, b, rfl, h.1, h.2⟩
  simp at h
end Go.Proofs.YtaeeeailoiioaacGreat

namespace Go.Proofs.YtaeeeailoiioaacGreat
open Go.RowKit
attribute [local go_sem ↓] Go.wp_at_zero Go.wp_at_succ run_max_ii run_min_ii
set_option maxRecDepth 20000 in
set_option maxHeartbeats 4000000 in
theorem example_any (w : World) : Calls Tryz.prog 8 #[] w fun e w' => e = .returned (.bool true) ∧ Ext w w' := by
 go_enter Tryz.func8, Tryz.ntmps8
 have H0 := zH (Hp.start w)
 go_upto_region 0 with fail
 refine wp_region_lit ?_
 refine qV (.bool false) ?_
 (try simp only [Act.put, List.setIfInBounds_toArray, List.set_cons_zero])
 go_upto_region 1 with fail
 refine wp_region_lit ?_
 refine qV (.agg #[.int .i64 0, .int .i64 0]) ?_
 refine zq (.agg #[.int .i64 4, .int .i64 0]) ?_
 refine qV (.agg #[.int .i64 4, .int .i64 4]) ?_
 refine zq (.agg #[.int .i64 0, .int .i64 4]) ?_
 refine mv_lit (T := 44) (zs := [.int .i64 0, .int .i64 0, .int .i64 4, .int .i64 0, .int .i64 4, .int .i64 4, .int .i64 0, .int .i64 4]) (n := 4) (by rfl) (by go_simp) H0.out (by simp [NoUL]) ?_
 intro X6 w7 hh hx hge
 have H8 := zH (show Hp w w7 [.blk X6 44 [.int .i64 0, .int .i64 0, .int .i64 4, .int .i64 0, .int .i64 4, .int .i64 4, .int .i64 0, .int .i64 4]] from hh)
 clear hh hx hge
 try simp only [Act.put, zA, zB, zC]
 refine mv_lit (T := 45) (zs := [.slice (some ⟨X6, 0, none⟩) 4 4]) (n := 1) (by rfl) (by go_simp) H8.out (by simp [NoUL]) ?_
 intro X10 w11 hh hx hge
 have H12 := zH (show Hp w w11 [.blk X6 44 [.int .i64 0, .int .i64 0, .int .i64 4, .int .i64 0, .int .i64 4, .int .i64 4, .int .i64 0, .int .i64 4], .blk X10 45 [.slice (some ⟨X6, 0, none⟩) 4 4]] from hh)
 clear hh hx hge
 try simp only [Act.put, zA, zB, zC]
 refine zq (.slice (some ⟨X10, 0, none⟩) 1 1) ?_
 go_upto_region 2 with fail
 refine wp_region_lit ?_
 refine qV (.slice (some ⟨X10, 0, none⟩) 1 1) ?_
 refine zc (q03From 1 _ (by omega) (by omega)) ?_
 rintro e w16 ⟨c_, rfl, hc_, hx⟩
 have H18 := zH (H12.out.step hx)
 obtain ⟨r17, rfl, hr_⟩ := hc_
 have R17 := zH hr_
 have B17 := zH (rl_i64 1 (by omega) (by omega))
 clear hr_
 clear hx
 refine zn ?_
 refine zc (spans_any 3 (.slice (some ⟨X10, 0, none⟩) 1 1) exR 1 r17 (((1) : Int) : Rat) _ (exRings (X1 := X6) (X2 := X10) H18.out (by rfl) (by rfl)) (RV.Is.isIn R17.out (Nat.le_trans B17.out (by decide))) (by decide) (by decide) (by decide) (by decide) (by decide)) ?_
 rintro e w20 ⟨v_, es21, rfl, hv1_, hv2_, hv3_, hx⟩
 have VL21 := zH hv2_
 have LN21 := zH hv3_
 have OK21 := zH hv1_.2
 obtain ⟨A21, c21, rfl, hA_⟩ := RowN.form hv1_.1
 have HA21 := zH hA_
 clear hv2_ hv3_ hA_
 have H22 := zH (show Hp w w20 [.blk X6 44 [.int .i64 0, .int .i64 0, .int .i64 4, .int .i64 0, .int .i64 4, .int .i64 4, .int .i64 0, .int .i64 4], .blk X10 45 [.slice (some ⟨X6, 0, none⟩) 4 4], ro 39 8 A21 es21.length c21 SpE.cells es21] from H18.out.addRow hx hv1_.1)
 clear hv1_
 clear hx
 refine zn ?_
 refine zq (.slice A21 es21.length c21) ?_
 go_upto_region 3 with fail
 refine wp_region_lit ?_
 refine qV (.slice (some ⟨X10, 0, none⟩) 1 1) ?_
 refine zc (q03From 1 _ (by omega) (by omega)) ?_
 rintro e w26 ⟨c_, rfl, hc_, hx⟩
 have H28 := zH (H22.out.step hx)
 have D28 := zH (Dig.of_ext hx)
 obtain ⟨r27, rfl, hr_⟩ := hc_
 have R27 := zH hr_
 have B27 := zH (rl_i64 1 (by omega) (by omega))
 clear hr_
 clear hx
 refine zn ?_
 refine zc (crossings_any 3 _ exR r27 (((1) : Int) : Rat) _ (exRings (X1 := X6) (X2 := X10) H28.out (by rfl) (by rfl)) (RV.Is.isIn R27.out (Nat.le_trans B27.out (by decide))) (by decide) (by decide) (by decide) (by decide)) ?_
 rintro e w30 ⟨A1, c1, A2, c2, n_, em, rfl, rfl, hr1_, hr2_, hok_, hcv_, hx⟩
 obtain ⟨ea, eb, rfl, hva_, hvb_⟩ := two_of_map (hcv_.trans ex_marks)
 have HVA := zH hva_
 have HVB := zH hvb_
 have HOKX := zH hok_
 clear hcv_ hva_ hvb_ hok_
 obtain ⟨g1, rfl⟩ : ∃ g, A1 = some ⟨g, 0, none⟩ := by obtain ⟨A_, c_, h1_, h2_⟩ := RowN.form hr1_; injection h1_ with h1_ _ _; rw [h1_]; exact h2_ (by simp)
 obtain ⟨g2, rfl⟩ : ∃ g, A2 = some ⟨g, 0, none⟩ := by obtain ⟨A_, c_, h1_, h2_⟩ := RowN.form hr2_; injection h1_ with h1_ _ _; rw [h1_]; exact h2_ (by simp)
 have H31 := zH (show Hp w w30 [.blk X6 44 [.int .i64 0, .int .i64 0, .int .i64 4, .int .i64 0, .int .i64 4, .int .i64 4, .int .i64 0, .int .i64 4], .blk X10 45 [.slice (some ⟨X6, 0, none⟩) 4 4], ro 39 8 A21 es21.length c21 SpE.cells es21, ro 27 4 (some ⟨g1, 0, none⟩) 2 c1 MkE.cx ([ea, eb]), ro 3 1 (some ⟨g2, 0, none⟩) 2 c2 MkE.cu ([ea, eb])] from H28.out.addRow2 hx hr1_ hr2_ (by decide))
 have D31 := zH (Dig.of_ext hx)
 clear hx hr1_ hr2_
 refine zn ?_
 refine qV (.tuple #[.slice (some ⟨g1, 0, none⟩) 2 c1, .slice (some ⟨g2, 0, none⟩) 2 c2]) ?_
 refine zq (.slice (some ⟨g1, 0, none⟩) 2 c1) ?_
 refine qV (.slice (some ⟨g2, 0, none⟩) 2 c2) ?_
 refine zq (.slice (some ⟨g1, 0, none⟩) 2 c1) ?_
 refine zq (.slice (some ⟨g2, 0, none⟩) 2 c2) ?_
 have HEA := zH (show [ea, eb][0]? = some ea from rfl)
 have HEB := zH (show [ea, eb][1]? = some eb from rfl)
 have hua := (HOKX.out ea (by simp)).2.2
 have hub := (HOKX.out eb (by simp)).2.2
 have hsum : ea.up = -1 ∧ eb.up = 1 := ⟨congrArg Prod.snd HVA.out, congrArg Prod.snd HVB.out⟩
 go_upto_region 4 with fail
 refine zy ?_
 have H38 := zH (H31.out.step (Ext.refl w30).drew)
 have D38 := zH (Dig.of_ext (w := w30) zb)
 refine zx 0 (bs 29 1) (.slice A21 es21.length c21) zb ?_
 refine mC 1 (bs 29 3) (q03From 0 _ (by have ob0 := hua.1; have ob1 := hua.2; have ob2 := hub.1; have ob3 := hub.2; have ob4 := hsum.1; have ob5 := hsum.2; omega) (by have ob0 := hua.1; have ob1 := hua.2; have ob2 := hub.1; have ob3 := hub.2; have ob4 := hsum.1; have ob5 := hsum.2; omega)) ?_
 rintro e w41 ⟨c_, rfl, hc_, hx⟩
 have H43 := zH (H38.out.step hx)
 have D43 := zH (show Dig w30.drew w41 from Dig.of_ext hx)
 have S45 := zH (show Ext w30 w41 from zb.trans hx)
 obtain ⟨r42, rfl, hr_⟩ := hc_
 have R42 := zH hr_
 have B42 := zH (rl_i64 0 (by have ob0 := hua.1; have ob1 := hua.2; have ob2 := hub.1; have ob3 := hub.2; have ob4 := hsum.1; have ob5 := hsum.2; omega) (by have ob0 := hua.1; have ob1 := hua.2; have ob2 := hub.1; have ob3 := hub.2; have ob4 := hsum.1; have ob5 := hsum.2; omega))
 clear hr_
 clear hx
 refine zm S45.out ?_
 refine mC 2 (bs 29 7) (q03From 4 _ (by have ob0 := hua.1; have ob1 := hua.2; have ob2 := hub.1; have ob3 := hub.2; have ob4 := hsum.1; have ob5 := hsum.2; omega) (by have ob0 := hua.1; have ob1 := hua.2; have ob2 := hub.1; have ob3 := hub.2; have ob4 := hsum.1; have ob5 := hsum.2; omega)) ?_
 rintro e w46 ⟨c_, rfl, hc_, hx⟩
 have H48 := zH (H43.out.step hx)
 have D48 := zH (Dig.of_ext hx)
 have S50 := zH (S45.out.trans hx)
 obtain ⟨r47, rfl, hr_⟩ := hc_
 have R47 := zH hr_
 have B47 := zH (rl_i64 4 (by have ob0 := hua.1; have ob1 := hua.2; have ob2 := hub.1; have ob3 := hub.2; have ob4 := hsum.1; have ob5 := hsum.2; omega) (by have ob0 := hua.1; have ob1 := hua.2; have ob2 := hub.1; have ob3 := hub.2; have ob4 := hsum.1; have ob5 := hsum.2; omega))
 clear hr_
 clear hx
 refine zm S50.out ?_
 refine zx 3 (bs 29 15) (.agg #[.bool r42.n, .slice r42.p r42.l r42.c, .bool r42.m, .slice r42.p2 r42.l2 r42.c2, .bool r47.n, .slice r47.p r47.l r47.c, .bool r47.m, .slice r47.p2 r47.l2 r47.c2]) S50.out ?_
 refine md_lit (T := 39) (zs := [.bool r42.n, .slice r42.p r42.l r42.c, .bool r42.m, .slice r42.p2 r42.l2 r42.c2, .bool r47.n, .slice r47.p r47.l r47.c, .bool r47.m, .slice r47.p2 r47.l2 r47.c2]) (n := 1) (i := 4) (listed' := (bs 29 31)) (by rfl) (by kernel_rfl) (by rfl) (by go_simp) (by kernel_rfl) H48.out (by simp [NoUL]) ?_
 intro X52 w53 hh hx hge
 have H54 := zH (show Hp w w53 [.blk X6 44 [.int .i64 0, .int .i64 0, .int .i64 4, .int .i64 0, .int .i64 4, .int .i64 4, .int .i64 0, .int .i64 4], .blk X10 45 [.slice (some ⟨X6, 0, none⟩) 4 4], ro 39 8 A21 es21.length c21 SpE.cells es21, ro 27 4 (some ⟨g1, 0, none⟩) 2 c1 MkE.cx ([ea, eb]), ro 3 1 (some ⟨g2, 0, none⟩) 2 c2 MkE.cu ([ea, eb]), .blk X52 39 [.bool r42.n, .slice r42.p r42.l r42.c, .bool r42.m, .slice r42.p2 r42.l2 r42.c2, .bool r47.n, .slice r47.p r47.l r47.c, .bool r47.m, .slice r47.p2 r47.l2 r47.c2]] from hh)
 have D54 := zH (Dig.of_ext hx)
 have S56 := zH (S50.out.trans hx)
 clear hh hx hge
 refine ⟨S56.out, ?_⟩
 try simp only [Act.put, zA, zB, zC]
 have DD59 := zH ((((((D28.out.trans D31.out).trans D38.out).trans D43.out).trans D48.out).trans D54.out))
 have DD60 := zH ((D48.out.trans D54.out))
 refine mC 5 (bs 29 63) (r18same_any 60000 (.slice A21 es21.length c21) (.slice (some ⟨X52, 0, none⟩) 1 1) _ _ es21 ([(⟨r42, r47, (((0) : Int) : Rat), (((4) : Int) : Rat)⟩ : SpE)]) _ (SpR.up (L := (3 + 8)) ⟨H54.out.row (i := 2) (by rfl), (fun e_ he_ => (OK21.out e_ he_).dig DD59.out)⟩ (by omega)) ⟨H54.out.litRow (i := 5) (n := 1) (by rfl) (by rfl) (by decide), (by simp only [List.forall_mem_cons, List.not_mem_nil, false_imp_iff, implies_true, and_true]; exact ⟨(R42.out.dig DD60.out), (R47.out.dig D54.out), (Nat.le_trans B42.out (by omega)), (Nat.le_trans B47.out (by omega))⟩)⟩ (by rw [VL21.out, ex_marks, ex_spans]; rfl) (by omega) (Nat.le_trans LN21.out (by decide))) ?_
 rintro e w58 ⟨rfl, hx⟩
 have H61 := zH (H54.out.step hx)
 have D61 := zH (Dig.of_ext hx)
 have S63 := zH (S56.out.trans hx)
 clear hx
 refine zm S63.out ?_
 refine zx 6 (bs 29 127) (.bool true) S63.out ?_
 refine zx 7 (bs 29 255) (.slice (some ⟨g1, 0, none⟩) 2 c1) S63.out ?_
 refine mC 8 (bs 29 511) (q03From 0 _ (by have ob0 := hua.1; have ob1 := hua.2; have ob2 := hub.1; have ob3 := hub.2; have ob4 := hsum.1; have ob5 := hsum.2; omega) (by have ob0 := hua.1; have ob1 := hua.2; have ob2 := hub.1; have ob3 := hub.2; have ob4 := hsum.1; have ob5 := hsum.2; omega)) ?_
 rintro e w66 ⟨c_, rfl, hc_, hx⟩
 have H68 := zH (H61.out.step hx)
 have D68 := zH (Dig.of_ext hx)
 have S70 := zH (S63.out.trans hx)
 obtain ⟨r67, rfl, hr_⟩ := hc_
 have R67 := zH hr_
 have B67 := zH (rl_i64 0 (by have ob0 := hua.1; have ob1 := hua.2; have ob2 := hub.1; have ob3 := hub.2; have ob4 := hsum.1; have ob5 := hsum.2; omega) (by have ob0 := hua.1; have ob1 := hua.2; have ob2 := hub.1; have ob3 := hub.2; have ob4 := hsum.1; have ob5 := hsum.2; omega))
 clear hr_
 clear hx
 refine zm S70.out ?_
 refine mC 9 (bs 29 1023) (q03From 4 _ (by have ob0 := hua.1; have ob1 := hua.2; have ob2 := hub.1; have ob3 := hub.2; have ob4 := hsum.1; have ob5 := hsum.2; omega) (by have ob0 := hua.1; have ob1 := hua.2; have ob2 := hub.1; have ob3 := hub.2; have ob4 := hsum.1; have ob5 := hsum.2; omega)) ?_
 rintro e w71 ⟨c_, rfl, hc_, hx⟩
 have H73 := zH (H68.out.step hx)
 have D73 := zH (Dig.of_ext hx)
 have S75 := zH (S70.out.trans hx)
 obtain ⟨r72, rfl, hr_⟩ := hc_
 have R72 := zH hr_
 have B72 := zH (rl_i64 4 (by have ob0 := hua.1; have ob1 := hua.2; have ob2 := hub.1; have ob3 := hub.2; have ob4 := hsum.1; have ob5 := hsum.2; omega) (by have ob0 := hua.1; have ob1 := hua.2; have ob2 := hub.1; have ob3 := hub.2; have ob4 := hsum.1; have ob5 := hsum.2; omega))
 clear hr_
 clear hx
 refine zm S75.out ?_
 refine md_lit (T := 27) (zs := [.bool r67.n, .slice r67.p r67.l r67.c, .bool r67.m, .slice r67.p2 r67.l2 r67.c2, .bool r72.n, .slice r72.p r72.l r72.c, .bool r72.m, .slice r72.p2 r72.l2 r72.c2]) (n := 2) (i := 10) (listed' := (bs 29 2047)) (by rfl) (by kernel_rfl) (by rfl) (by go_simp) (by kernel_rfl) H73.out (by simp [NoUL]) ?_
 intro X76 w77 hh hx hge
 have H78 := zH (show Hp w w77 [.blk X6 44 [.int .i64 0, .int .i64 0, .int .i64 4, .int .i64 0, .int .i64 4, .int .i64 4, .int .i64 0, .int .i64 4], .blk X10 45 [.slice (some ⟨X6, 0, none⟩) 4 4], ro 39 8 A21 es21.length c21 SpE.cells es21, ro 27 4 (some ⟨g1, 0, none⟩) 2 c1 MkE.cx ([ea, eb]), ro 3 1 (some ⟨g2, 0, none⟩) 2 c2 MkE.cu ([ea, eb]), .blk X52 39 [.bool r42.n, .slice r42.p r42.l r42.c, .bool r42.m, .slice r42.p2 r42.l2 r42.c2, .bool r47.n, .slice r47.p r47.l r47.c, .bool r47.m, .slice r47.p2 r47.l2 r47.c2], .blk X76 27 [.bool r67.n, .slice r67.p r67.l r67.c, .bool r67.m, .slice r67.p2 r67.l2 r67.c2, .bool r72.n, .slice r72.p r72.l r72.c, .bool r72.m, .slice r72.p2 r72.l2 r72.c2]] from hh)
 have D78 := zH (Dig.of_ext hx)
 have S80 := zH (S75.out.trans hx)
 clear hh hx hge
 refine ⟨S80.out, ?_⟩
 try simp only [Act.put, zA, zB, zC]
 have DD83 := zH ((((((((D38.out.trans D43.out).trans D48.out).trans D54.out).trans D61.out).trans D68.out).trans D73.out).trans D78.out))
 have DD84 := zH ((D73.out.trans D78.out))
 refine mC 11 (bs 29 4095) (sameAll_any 60000 (.slice (some ⟨g1, 0, none⟩) 2 c1) (.slice (some ⟨X76, 0, none⟩) 2 2) [(0 : Rat), (4 : Rat)] _ (by have hr_ : RowN w77 _ 27 4 (.slice (some ⟨g1, 0, none⟩) 2 c1) 2 (List.flatMap MkE.cx [ea, eb]) := H78.out.row (i := 3) (by rfl); have h := RsV.of_row (L := 60000) MkE.a MkE.q hr_ rfl (fun e_ he_ => by have h1 := ((HOKX.out e_ he_).dig DD83.out); exact ⟨h1.1, Nat.le_trans h1.2.1 (by decide)⟩); rwa [show List.map MkE.q [ea, eb] = [(0 : Rat), (4 : Rat)] from by have q1 : ea.q = 0 := congrArg Prod.fst HVA.out; have q2 : eb.q = 4 := congrArg Prod.fst HVB.out; simp [q1, q2]] at h) (by have hr_ : RowN w77 _ 27 4 (.slice (some ⟨X76, 0, none⟩) 2 2) 2 [.bool r67.n, .slice r67.p r67.l r67.c, .bool r67.m, .slice r67.p2 r67.l2 r67.c2, .bool r72.n, .slice r72.p r72.l r72.c, .bool r72.m, .slice r72.p2 r72.l2 r72.c2] := H78.out.litRow (i := 6) (by rfl) (by rfl) (by decide); have h := RsV.of_row (L := 60000) (es := [(⟨r67, 0, 0⟩ : MkE), ⟨r72, 4, 0⟩]) MkE.a MkE.q hr_ rfl (by simp only [List.forall_mem_cons, List.not_mem_nil, false_imp_iff, implies_true, and_true]; exact ⟨⟨(R67.out.dig DD84.out), (Nat.le_trans B67.out (by omega))⟩, (R72.out.dig D78.out), (Nat.le_trans B72.out (by omega))⟩); exact h) (by decide) (by decide)) ?_
 rintro e w82 ⟨rfl, hx⟩
 have H85 := zH (H78.out.step hx)
 have S87 := zH (S80.out.trans hx)
 clear hx
 refine zm S87.out ?_
 refine zx 12 (bs 29 8191) (.bool true) S87.out ?_
 refine zx 13 (bs 29 16383) (.bool true) S87.out ?_
 refine zx 14 (bs 29 32767) (.slice (some ⟨g2, 0, none⟩) 2 c2) S87.out ?_
 refine zx 15 (bs 29 65535) (.int .i64 2) S87.out ?_
 refine zu 16 (bs 29 131071) (v := .bool true) S87.out ?_ (hv := by intro w hSw; exact ezq (e := (dec_t (by have ob0 := hua.1; have ob1 := hua.2; have ob2 := hub.1; have ob3 := hub.2; have ob4 := hsum.1; have ob5 := hsum.2; omega))))
 refine zx 17 (bs 29 262143) (.bool true) S87.out ?_
 refine zx 18 (bs 29 524287) (.bool true) S87.out ?_
 refine zx 19 (bs 29 1048575) (.slice (some ⟨g2, 0, none⟩) 2 c2) S87.out ?_
 refine zu 20 (bs 29 2097151) (v := .pointer (some ⟨g2, 0 * 1, none⟩)) S87.out ?_ (hv := by intro w hSw; exact ezi (k := 0) Tryz.underlying32 (l := (by decide)) (f := (Nat.zero_add _).symm))
 refine zf 21 (bs 29 4194303) g2 (0 * 1) (.int .i64 ea.up) (H31.out.elem (f := MkE.cu) (i := 4) (by rfl) MkE.cu_len HEA.out) S87.out ?_
 refine zx 22 (bs 29 8388607) (.slice (some ⟨g2, 0, none⟩) 2 c2) S87.out ?_
 refine zu 23 (bs 29 16777215) (v := .pointer (some ⟨g2, 1 * 1, none⟩)) S87.out ?_ (hv := by intro w hSw; exact ezi (k := 1) Tryz.underlying32 (l := (by decide)) (f := (Nat.zero_add _).symm))
 refine zf 24 (bs 29 33554431) g2 (1 * 1) (.int .i64 eb.up) (H31.out.elem (f := MkE.cu) (i := 4) (by rfl) MkE.cu_len HEB.out) S87.out ?_
 refine zu 25 (bs 29 67108863) (v := .int .i64 (ea.up + eb.up)) S87.out ?_ (hv := by intro w hSw; exact ez1 (by have ob0 := hua.1; have ob1 := hua.2; have ob2 := hub.1; have ob3 := hub.2; have ob4 := hsum.1; have ob5 := hsum.2; omega))
 refine zu 26 (bs 29 134217727) (v := .bool true) S87.out ?_ (hv := by intro w hSw; exact ezq (e := (dec_t (by have ob0 := hua.1; have ob1 := hua.2; have ob2 := hub.1; have ob3 := hub.2; have ob4 := hsum.1; have ob5 := hsum.2; omega))))
 refine zx 27 (bs 29 268435455) (.bool true) S87.out ?_
 refine mX 28 (bs 29 536870911) (.bool true) S87.out ?_
 (try simp only [Act.put, List.setIfInBounds_toArray, List.set_cons_zero])
 refine wpAnyH_done (by kernel_rfl) ?_ _
 go_wp2_with fail
 go_ret
 exact ⟨rfl, H85.out.ext⟩





def inL (l : List QQ) (q : Rat) : Bool := l.any fun p => decide (p.1 < q) && decide (q < p.2)
def inV (ps : List QQ) (q : Rat) : Bool := inL (mergeV ps) q
theorem any_stop {es : List SpE} {k : Nat} {e : SpE} {q : Rat} (h : es[k]? = some e) (h2 : (decide (e.p < q) && decide (q < e.q)) = true) : inL (es.map SpE.vl) q = true := by
  unfold inL
  rw [List.any_eq_true]
  exact ⟨e.vl, List.mem_map_of_mem (List.mem_of_getElem? h), h2⟩
theorem any_end {es : List SpE} {q : Rat} (h : ∀ i e, i < es.length → es[i]? = some e → (decide (e.p < q) && decide (q < e.q)) = false) : inL (es.map SpE.vl) q = false := by
  unfold inL
  rw [List.any_eq_false]
  intro x hx
  obtain ⟨e, he, rfl⟩ := List.mem_map.1 hx
  obtain ⟨i, hi⟩ := List.mem_iff_getElem?.1 he
  have h3 := h i e (List.getElem?_eq_some_iff.1 hi).1 hi
  show ¬ (decide (e.p < q) && decide (q < e.q)) = true
  rw [h3]
  simp
theorem range_new (w : World) (cs : List Value) (t : TypeId) : (w.alloc (.cells cs.toArray t)).rangeAt w.heap.size 0 cs := fun j v hv => by
  have h := (Blk.new w t cs.toArray).cell j
  rw [Nat.zero_add, h, List.getElem?_toArray]
  exact hv
end Go.Proofs.YtaeeeailoiioaacGreat

namespace Go.Proofs.YtaeeeailoiioaacGreat
def leftSum (q : Rat) : List QI → Int
  | [] => 0
  | a :: t => (if a.1 < q then a.2 else 0) + leftSum q t
theorem leftSum_none {q : Rat} : ∀ {l : List QI}, (∀ a, a ∈ l → ¬ a.1 < q) → leftSum q l = 0
  | [], _ => rfl
  | a :: t, h => by
    unfold leftSum
    rw [if_neg (h a (List.mem_cons_self ..)), leftSum_none fun b hb => h b (List.mem_cons_of_mem _ hb)]
    rfl
theorem runs_in (rule : Int) (q : Rat) : ∀ (ms : List QI) (s : Int), ms.Pairwise (fun a b => a.1 ≤ b.1) → (∀ a, a ∈ ms → a.1 ≠ q) →
  ((∃ r, r ∈ runs s ms ∧ r.1.1 < q ∧ q < r.1.2 ∧ fillsV r.2 rule = true) ↔ (∃ a, a ∈ ms ∧ a.1 < q) ∧ (∃ b, b ∈ ms ∧ q < b.1) ∧ fillsV (s + leftSum q ms) rule = true)
 | [], s, _, _ => by rw [runs]; simp
 | [a], s, _, _ => by
  rw [runs]
  constructor
  ·rintro ⟨r, hr, _⟩; simp at hr
  rintro ⟨⟨b, hb, h1⟩, ⟨c, hc, h2⟩, _⟩
  rw [List.mem_singleton] at hb hc
  subst hb
  subst hc
  grind
 | a :: b :: t, s, hp, hq => by
  obtain ⟨p1, p2⟩ := List.pairwise_cons.1 hp
  have ih := runs_in rule q (b :: t) (s + a.2) p2 (fun c hc => hq c (List.mem_cons_of_mem _ hc))
  have ha := hq a (List.mem_cons_self ..)
  have hb := hq b (List.mem_cons_of_mem _ (List.mem_cons_self ..))
  have hab := p1 b (List.mem_cons_self ..)
  have hbt : ∀ c, c ∈ b :: t → b.1 ≤ c.1 := fun c hc => by
   rcases List.mem_cons.1 hc with rfl | hc
   ·grind
   exact (List.pairwise_cons.1 p2).1 c hc
  rw [runs]
  have hsplit : (∃ r, r ∈ (((a.1, b.1), s + a.2) :: runs (s + a.2) (b :: t)) ∧ r.1.1 < q ∧ q < r.1.2 ∧ fillsV r.2 rule = true) ↔
    (a.1 < q ∧ q < b.1 ∧ fillsV (s + a.2) rule = true) ∨ ∃ r, r ∈ runs (s + a.2) (b :: t) ∧ r.1.1 < q ∧ q < r.1.2 ∧ fillsV r.2 rule = true := by
   constructor
   ·rintro ⟨r, hr, k⟩
    rcases List.mem_cons.1 hr with rfl | hr
    ·exact Or.inl k
    exact Or.inr ⟨r, hr, k⟩
   rintro (k | ⟨r, hr, k⟩)
   ·exact ⟨_, List.mem_cons_self .., k⟩
   exact ⟨r, List.mem_cons_of_mem _ hr, k⟩
  rw [hsplit, ih]
  have hL : leftSum q (a :: b :: t) = (if a.1 < q then a.2 else 0) + leftSum q (b :: t) := rfl
  by_cases h1 : a.1 < q
  ·rw [hL, if_pos h1, show s + (a.2 + leftSum q (b :: t)) = s + a.2 + leftSum q (b :: t) by omega]
   by_cases h2 : q < b.1
   ·have hz : leftSum q (b :: t) = 0 := leftSum_none fun c hc => by have := hbt c hc; grind
    rw [hz, show s + a.2 + 0 = s + a.2 by omega]
    constructor
    ·rintro (k | ⟨⟨c, hc, k⟩, _⟩)
     ·exact ⟨⟨a, List.mem_cons_self .., h1⟩, ⟨b, List.mem_cons_of_mem _ (List.mem_cons_self ..), h2⟩, k.2.2⟩
     have := hbt c hc
     grind
    rintro ⟨_, _, k⟩
    exact Or.inl ⟨h1, h2, k⟩
   constructor
   ·rintro (k | ⟨⟨c, hc, k⟩, ⟨d, hd, k2⟩, k3⟩)
    ·exact absurd k.2.1 h2
    exact ⟨⟨a, List.mem_cons_self .., h1⟩, ⟨d, List.mem_cons_of_mem _ hd, k2⟩, k3⟩
   rintro ⟨_, ⟨d, hd, k2⟩, k3⟩
   refine Or.inr ⟨⟨b, List.mem_cons_self .., by grind⟩, ⟨d, ?_, k2⟩, k3⟩
   rcases List.mem_cons.1 hd with rfl | hd
   ·grind
   exact hd
  constructor
  ·rintro (k | ⟨⟨c, hc, k⟩, _⟩)
   ·exact absurd k.1 h1
   have := hbt c hc
   grind
  rintro ⟨⟨c, hc, k⟩, _⟩
  rcases List.mem_cons.1 hc with rfl | hc
  ·exact absurd k h1
  have := hbt c hc
  grind
theorem mstep_ends {P Q : Rat → Prop} {out : List QQ} {s : QQ} (h : ∀ p, p ∈ out → P p.1 ∧ Q p.2) (hs : P s.1 ∧ Q s.2) : ∀ p, p ∈ mstep out s → P p.1 ∧ Q p.2 := by
 have hsn : ∀ p, p ∈ out ++ [s] → P p.1 ∧ Q p.2 := fun p hp => by
  rcases List.mem_append.1 hp with hp | hp
  ·exact h p hp
  rw [List.mem_singleton] at hp
  subst hp
  exact hs
 intro p hp
 unfold mstep at hp
 split at hp
 ·exact hsn p hp
 rename_i l h0
 have e0 := last_of h0
 split at hp
 ·exact hsn p hp
 split at hp
 ·generalize out.dropLast = o at *
  subst e0
  rcases List.mem_append.1 hp with hp | hp
  ·exact h p (List.mem_append.2 (Or.inl hp))
  rw [List.mem_singleton] at hp
  subst hp
  exact ⟨(h l (by simp)).1, hs.2⟩
 exact h p hp
theorem fold_ends {P Q : Rat → Prop} (l : List QQ) : ∀ (out : List QQ), (∀ p, p ∈ out → P p.1 ∧ Q p.2) → (∀ p, p ∈ l → P p.1 ∧ Q p.2) → ∀ p, p ∈ l.foldl mstep out → P p.1 ∧ Q p.2 := by
  induction l with
  | nil => intro out h _; exact h
  | cons s l ih => intro out h k; rw [List.foldl_cons]; exact ih _ (mstep_ends h (k s (List.mem_cons_self ..))) fun p hp => k p (List.mem_cons_of_mem _ hp)
theorem mergeV_ends {P Q : Rat → Prop} {l : List QQ} (h : ∀ p, p ∈ l → P p.1 ∧ Q p.2) : ∀ p, p ∈ mergeV l → P p.1 ∧ Q p.2 := by
  unfold mergeV
  refine fold_ends _ [] (by simp) fun p hp => h p ?_
  unfold sortedV at hp
  exact (mem_some2.1 (Stb.mem_stab.1 hp)).1
theorem inL_merge {l : List QQ} {q : Rat} (h : ∀ p, p ∈ l → p.1 ≠ q ∧ p.2 ≠ q) : inL (mergeV l) q = true ↔ ∃ p, p ∈ l ∧ p.1 < q ∧ q < p.2 := by
 have he := mergeV_ends (P := fun x => x ≠ q) (Q := fun x => x ≠ q) h
 have hc := (mergeV_law l).2 q
 have e : inL (mergeV l) q = true ↔ Cov (mergeV l) q := by
  unfold inL
  rw [List.any_eq_true]
  constructor
  ·rintro ⟨p, hp, k⟩
   rw [Bool.and_eq_true, decide_eq_true_iff, decide_eq_true_iff] at k
   exact ⟨p, hp, by grind, by grind⟩
  rintro ⟨p, hp, k1, k2⟩
  have := he p hp
  refine ⟨p, hp, ?_⟩
  rw [Bool.and_eq_true, decide_eq_true_iff, decide_eq_true_iff]
  exact ⟨by grind, by grind⟩
 rw [e, hc]
 constructor
 ·rintro ⟨p, hp, k1, k2⟩
  have hp := (mem_some2.1 hp).1
  have := h p hp
  exact ⟨p, hp, by grind, by grind⟩
 rintro ⟨p, hp, k1, k2⟩
 exact ⟨p, mem_some2.2 ⟨hp, by grind⟩, by grind, by grind⟩

def AtN (q : Rat) (n : Int) (l : List (QQ × Int)) : Prop := ∃ p, p ∈ l ∧ p.1.1 < q ∧ q < p.1.2 ∧ p.2 = n
theorem atN_snoc {q : Rat} {n : Int} {l : List (QQ × Int)} {a : QQ × Int} : AtN q n (l ++ [a]) ↔ AtN q n l ∨ (a.1.1 < q ∧ q < a.1.2 ∧ a.2 = n) := by
  constructor
  · rintro ⟨p, hp, k⟩
    rcases List.mem_append.1 hp with hp | hp
    · exact Or.inl ⟨p, hp, k⟩
    rw [List.mem_singleton] at hp
    subst hp
    exact Or.inr k
  rintro (⟨p, hp, k⟩ | k)
  · exact ⟨p, List.mem_append.2 (Or.inl hp), k⟩
  exact ⟨a, List.mem_append.2 (Or.inr (List.mem_singleton.2 rfl)), k⟩
theorem lvstep_at {q : Rat} {n : Int} (hn : n ≠ 0) {out : List (QQ × Int)} {r : QQ × Int} (hq : r.1.1 ≠ q) (ho : ∀ p, p ∈ out → p.1.1 < p.1.2) :
  AtN q n (lvstep out r) ↔ AtN q n out ∨ (r.1.1 < q ∧ q < r.1.2 ∧ -r.2 = n) := by
 unfold lvstep
 split
 ·rename_i h
  refine ⟨Or.inl, fun k => k.elim id fun k => ?_⟩
  rcases h with h | h
  ·exact absurd k.2.2 (by omega)
  exact absurd (show r.1.1 < r.1.2 by grind) h
 rename_i h
 have hr : r.1.1 < r.1.2 := by
  by_cases k : r.1.1 < r.1.2
  ·exact k
  exact absurd (Or.inr k) h
 split
 ·exact atN_snoc
 rename_i l h0
 have e0 := lvlast h0
 split
 ·rename_i hl
  generalize out.dropLast = o at *
  subst e0
  have hll := ho l (by simp)
  obtain ⟨hl1, hl2⟩ := hl
  rw [atN_snoc, atN_snoc]
  dsimp only
  rw [hl1]
  constructor
  ·rintro (k | ⟨k1, k2, k3⟩)
   ·exact Or.inl (Or.inl k)
   by_cases h4 : q < l.1.2
   ·exact Or.inl (Or.inr ⟨k1, h4, k3⟩)
   exact Or.inr ⟨by grind, k2, k3⟩
  rintro ((k | ⟨k1, k2, k3⟩) | ⟨k1, k2, k3⟩)
  ·exact Or.inl k
  ·exact Or.inr ⟨k1, by grind, k3⟩
  exact Or.inr ⟨by grind, k2, k3⟩
 exact atN_snoc
theorem lvfold_at {q : Rat} {n : Int} (hn : n ≠ 0) (l : List (QQ × Int)) : ∀ (out : List (QQ × Int)), (∀ p, p ∈ out → p.1.1 < p.1.2) → (∀ r, r ∈ l → r.1.1 ≠ q) →
  (AtN q n (l.foldl lvstep out) ↔ AtN q n out ∨ ∃ r, r ∈ l ∧ r.1.1 < q ∧ q < r.1.2 ∧ -r.2 = n) := by
 induction l with
 | nil => intro out _ _; rw [List.foldl_nil]; simp
 | cons r l ih =>
  intro out h hq
  rw [List.foldl_cons, ih _ (lvstep_law 1 (r := r) h).1 fun r hr => hq r (List.mem_cons_of_mem _ hr), lvstep_at hn (hq r (List.mem_cons_self ..)) h, or_assoc]
  refine or_congr_right ⟨?_, ?_⟩
  ·rintro (k | ⟨s, hs, k⟩)
   ·exact ⟨r, List.mem_cons_self .., k⟩
   exact ⟨s, List.mem_cons_of_mem _ hs, k⟩
  rintro ⟨s, hs, k⟩
  rcases List.mem_cons.1 hs with rfl | hs
  ·exact Or.inl k
  exact Or.inr ⟨s, hs, k⟩
theorem levelsV_at {q : Rat} {n : Int} (hn : n ≠ 0) (ms : List QI) (hq : ∀ r, r ∈ runs 0 ms → r.1.1 ≠ q) : AtN q n (levelsV ms) ↔ ∃ r, r ∈ runs 0 ms ∧ r.1.1 < q ∧ q < r.1.2 ∧ -r.2 = n := by
  unfold levelsV
  rw [lvfold_at hn _ [] (by simp) hq]
  unfold AtN
  simp

def crossP (a b p : Int × Int) : Int := (b.1 - a.1) * (p.2 - a.2) - (b.2 - a.2) * (p.1 - a.1)
def cntV (p a b : Int × Int) : Int :=
  if a.2 ≤ p.2 ∧ p.2 < b.2 ∧ 0 < crossP a b p then 1 else if b.2 ≤ p.2 ∧ p.2 < a.2 ∧ 0 < crossP b a p then -1 else 0
def cntE (p : Int × Int) (r : Ring) (k : Nat) : Int :=
  match r[k]?, r[(k + 1) % r.length]? with
  | some a, some b => cntV p a b
  | _, _ => 0
def ringW (p : Int × Int) (r : Ring) (n : Nat) : Int := ((List.range n).map (cntE p r)).sum
def windV (p : Int × Int) (rs : List Ring) : Int := (rs.map fun r => ringW p r r.length).sum
theorem cntE_some {p : Int × Int} {r : Ring} {k : Nat} {a b : Int × Int} (ha : r[k]? = some a) (hb : r[(k + 1) % r.length]? = some b) : cntE p r k = cntV p a b := by
  unfold cntE
  rw [ha, hb]
theorem ringW_succ (p : Int × Int) (r : Ring) (n : Nat) : ringW p r (n + 1) = ringW p r n + cntE p r n := by
  unfold ringW
  rw [List.range_succ, List.map_append, List.sum_append]
  simp
theorem windV_take {p : Int × Int} {rs : List Ring} {k : Nat} {r : Ring} (h : rs[k]? = some r) : windV p (rs.take (k + 1)) = windV p (rs.take k) + ringW p r r.length := by
  unfold windV
  rw [take_snoc h, List.map_append, List.sum_append]
  simp
theorem cntV_le (p a b : Int × Int) : -1 ≤ cntV p a b ∧ cntV p a b ≤ 1 := by
  unfold cntV
  split
  · omega
  split <;> omega
theorem cntE_le (p : Int × Int) (r : Ring) (k : Nat) : -1 ≤ cntE p r k ∧ cntE p r k ≤ 1 := by
  unfold cntE
  split
  · exact cntV_le _ _ _
  omega
theorem ringW_le (p : Int × Int) (r : Ring) : ∀ n : Nat, -(n : Int) ≤ ringW p r n ∧ ringW p r n ≤ n
  | 0 => by unfold ringW; simp
  | n + 1 => by
    have h1 := ringW_le p r n
    have h2 := cntE_le p r n
    rw [ringW_succ]
    omega
theorem windV_le (p : Int × Int) : ∀ rs : List Ring, -((rs.map List.length).sum : Int) ≤ windV p rs ∧ windV p rs ≤ ((rs.map List.length).sum : Int)
  | [] => by unfold windV; simp
  | r :: rs => by
    have h1 := windV_le p rs
    have h2 := ringW_le p r r.length
    have e : windV p (r :: rs) = ringW p r r.length + windV p rs := by unfold windV; simp
    rw [e, List.map_cons, List.sum_cons]
    omega
theorem sum_fm {α β : Type} (f : α → Option β) (g : β → Int) : ∀ l : List α, ((l.filterMap f).map g).sum = (l.map fun e => ((f e).map g).getD 0).sum
  | [] => rfl
  | e :: l => by
    rw [List.filterMap_cons, List.map_cons, List.sum_cons, ← sum_fm f g l]
    cases f e with
    | none => simp
    | some b => simp
theorem sum_flat {α β : Type} (f : α → List β) (g : β → Int) : ∀ l : List α, ((l.flatMap f).map g).sum = (l.map fun e => ((f e).map g).sum).sum
  | [] => rfl
  | e :: l => by rw [List.flatMap_cons, List.map_append, List.sum_append, sum_flat f g l, List.map_cons, List.sum_cons]
theorem sum_ins {α : Type} (lt : α → α → Bool) (g : α → Int) (y : α) : ∀ l : List α, ((Stb.ins lt l y).map g).sum = (l.map g).sum + g y
  | [] => by simp [Stb.ins]
  | x :: l => by
    unfold Stb.ins
    split
    · simp only [List.map_cons, List.sum_cons]; omega
    simp only [List.map_cons, List.sum_cons]
    rw [sum_ins lt g y l]
    omega
theorem sum_fold {α : Type} (lt : α → α → Bool) (g : α → Int) : ∀ (l o : List α), ((l.foldl (Stb.ins lt) o).map g).sum = (o.map g).sum + (l.map g).sum
  | [], o => by simp
  | y :: l, o => by
    rw [List.foldl_cons, sum_fold lt g l, sum_ins, List.map_cons, List.sum_cons]
    omega
theorem sum_stab {α : Type} (lt : α → α → Bool) (g : α → Int) (l : List α) : ((Stb.stab lt l).map g).sum = (l.map g).sum := by
  unfold Stb.stab
  rw [sum_fold]
  simp
theorem sum_congr {α : Type} {f g : α → Int} : ∀ {l : List α}, (∀ a, a ∈ l → f a = g a) → (l.map f).sum = (l.map g).sum
  | [], _ => rfl
  | a :: l, h => by
    rw [List.map_cons, List.map_cons, List.sum_cons, List.sum_cons, h a (List.mem_cons_self ..), sum_congr fun b hb => h b (List.mem_cons_of_mem _ hb)]
theorem sum_zero {α : Type} {f : α → Int} {l : List α} (h : ∀ a, a ∈ l → f a = 0) : (l.map f).sum = 0 := by
  induction l with
  | nil => rfl
  | cons a l ih => rw [List.map_cons, List.sum_cons, h a (List.mem_cons_self ..), ih fun b hb => h b (List.mem_cons_of_mem _ hb)]; rfl
def rightSum (q : Rat) (l : List QI) : Int := (l.map fun a => if q < a.1 then a.2 else 0).sum
def allSum (l : List QI) : Int := (l.map fun a => a.2).sum
theorem left_right (q : Rat) : ∀ l : List QI, (∀ a, a ∈ l → a.1 ≠ q) → leftSum q l + rightSum q l = allSum l
 | [], _ => rfl
 | a :: l, h => by
  have ih := left_right q l fun b hb => h b (List.mem_cons_of_mem _ hb)
  have ha := h a (List.mem_cons_self ..)
  have e1 : rightSum q (a :: l) = (if q < a.1 then a.2 else 0) + rightSum q l := by unfold rightSum; rw [List.map_cons, List.sum_cons]
  have e2 : allSum (a :: l) = a.2 + allSum l := by unfold allSum; rw [List.map_cons, List.sum_cons]
  rw [leftSum, e1, e2]
  by_cases h1 : a.1 < q
  ·rw [if_pos h1, if_neg (by grind)]; omega
  rw [if_neg h1, if_pos (by grind)]; omega
def upV (y : Int) (v : Int × Int) : Int := if y < v.2 then 1 else 0
theorem rlt {a b : Int} : (a : Rat) < (b : Rat) ↔ a < b := Rat.intCast_lt_intCast
theorem cross_dir {y : Int} {e : (Int × Int) × (Int × Int)} (h1 : e.1.2 ≠ y) (h2 : e.2.2 ≠ y) : ((crossV (y : Rat) e).map fun a => a.2).getD 0 = upV y e.2 - upV y e.1 := by
  unfold crossV upV
  simp only [rlt]
  by_cases c1 : e.1.2 < y ∧ y < e.2.2
  · rw [if_pos c1, if_pos c1.2, if_neg (by omega)]; rfl
  rw [if_neg c1]
  by_cases c2 : e.2.2 < y ∧ y < e.1.2
  · rw [if_pos c2, if_neg (by omega), if_pos c2.2]; rfl
  rw [if_neg c2]
  show (0 : Int) = _
  split <;> split <;> omega
theorem xat_lt {ax ay bx bY px y : Int} (h : ay < bY) : (px : Rat) < xatV ax ay bx bY (y : Rat) ↔ 0 < crossP (ax, ay) (bx, bY) (px, y) := by
 have hd : (0 : Rat) < ((bY - ay : Int) : Rat) := by
  have := (Rat.intCast_lt_intCast (a := 0) (b := bY - ay)).2 (by omega)
  simpa using this
 have e1 : xatV ax ay bx bY (y : Rat) - (px : Rat) = ((crossP (ax, ay) (bx, bY) (px, y) : Int) : Rat) * (1 / ((bY - ay : Int) : Rat)) := by
  unfold xatV crossP
  have hne : ((bY - ay : Int) : Rat) ≠ 0 := by grind
  have hone : ((bY - ay : Int) : Rat) * (1 / ((bY - ay : Int) : Rat)) = 1 := by rw [Rat.div_def, Rat.one_mul]; exact Rat.mul_inv_cancel _ hne
  simp only [Rat.intCast_sub, Rat.intCast_mul] at *
  rw [show ((1 : Int) : Rat) = 1 from rfl]
  generalize (1 / ((bY : Rat) - (ay : Rat))) = z at *
  grind
 have hp : (0 : Rat) < 1 / ((bY - ay : Int) : Rat) := by
  rw [Rat.div_def, Rat.one_mul]
  exact Rat.inv_pos.2 hd
 have e2 : (0 : Rat) < ((crossP (ax, ay) (bx, bY) (px, y) : Int) : Rat) ↔ 0 < crossP (ax, ay) (bx, bY) (px, y) := by
  have := Rat.intCast_lt_intCast (a := 0) (b := crossP (ax, ay) (bx, bY) (px, y))
  simpa using this
 rw [← e2]
 generalize ((crossP (ax, ay) (bx, bY) (px, y) : Int) : Rat) = c at *
 generalize (1 / ((bY - ay : Int) : Rat)) = z at *
 constructor
 ·intro h1
  have h2 : 0 < c * z := by grind
  rcases rat_tri 0 c with k | k | k
  ·exact k
  ·rw [← k, Rat.zero_mul] at h2; grind
  have := Rat.mul_pos (a := -c) (b := z) (by grind) hp
  grind
 intro h1
 have := Rat.mul_pos h1 hp
 grind
theorem xat_swap {ax ay bx bY : Int} {y : Rat} (h : ay ≠ bY) : xatV ax ay bx bY y = xatV bx bY ax ay y := by
 unfold xatV
 have h1 : ((bY - ay : Int) : Rat) ≠ 0 := by
  intro k
  have : bY - ay = 0 := by exact_mod_cast k
  omega
 have h2 : ((ay - bY : Int) : Rat) ≠ 0 := by
  intro k
  have : ay - bY = 0 := by exact_mod_cast k
  omega
 have hone : ((bY - ay : Int) : Rat) * (1 / ((bY - ay : Int) : Rat)) = 1 := by rw [Rat.div_def, Rat.one_mul]; exact Rat.mul_inv_cancel _ h1
 have htwo : ((ay - bY : Int) : Rat) * (1 / ((ay - bY : Int) : Rat)) = 1 := by rw [Rat.div_def, Rat.one_mul]; exact Rat.mul_inv_cancel _ h2
 rw [show ((1 : Int) : Rat) = 1 from rfl]
 simp only [Rat.intCast_sub] at *
 generalize (1 / ((ay : Rat) - (bY : Rat))) = z2 at *
 generalize (1 / ((bY : Rat) - (ay : Rat))) = z at *
 have hz : z2 = -z := by grind
 subst hz
 grind
theorem cross_cnt {px y : Int} {e : (Int × Int) × (Int × Int)} (h1 : e.1.2 ≠ y) (h2 : e.2.2 ≠ y) : ((crossV (y : Rat) e).map fun a => if (px : Rat) < a.1 then a.2 else 0).getD 0 = cntV (px, y) e.1 e.2 := by
 obtain ⟨⟨ax, ay⟩, ⟨bx, bY⟩⟩ := e
 dsimp only at h1 h2
 unfold crossV cntV
 simp only [rlt]
 by_cases c1 : ay < y ∧ y < bY
 ·rw [if_pos c1]
  show (if (px : Rat) < xatV ax ay bx bY (y : Rat) then (1 : Int) else 0) = _
  by_cases c : 0 < crossP (ax, ay) (bx, bY) (px, y)
  ·rw [if_pos ((xat_lt (by omega)).2 c), if_pos ⟨by omega, by omega, c⟩]
  rw [if_neg (fun k => c ((xat_lt (by omega)).1 k)), if_neg (fun k => c k.2.2), if_neg (by omega)]
 rw [if_neg c1]
 by_cases c2 : bY < y ∧ y < ay
 ·rw [if_pos c2, if_neg (by omega)]
  show (if (px : Rat) < xatV ax ay bx bY (y : Rat) then (-1 : Int) else 0) = _
  rw [xat_swap (by omega)]
  by_cases c : 0 < crossP (bx, bY) (ax, ay) (px, y)
  ·rw [if_pos ((xat_lt (by omega)).2 c), if_pos ⟨by omega, by omega, c⟩]
  rw [if_neg (fun k => c ((xat_lt (by omega)).1 k)), if_neg (fun k => c k.2.2)]
 rw [if_neg c2, if_neg (by omega), if_neg (by omega)]
 rfl
theorem ring_sum (F : (Int × Int) × (Int × Int) → Int) (G : Nat → Int) (r : Ring) (n : Nat) (h : ∀ k a b, k < n → r[k]? = some a → r[(k + 1) % r.length]? = some b → G k = if a = b then 0 else F (a, b)) (hn : n ≤ r.length) :
  ((ringEn r n).map F).sum = ((List.range n).map G).sum := by
 unfold ringEn
 rw [sum_fm]
 refine sum_congr fun k hk => ?_
 have hk := List.mem_range.1 hk
 have hlt : k < r.length := by omega
 have hmod : (k + 1) % r.length < r.length := Nat.mod_lt _ (by omega)
 have ha := List.getElem?_eq_getElem hlt
 have hb := List.getElem?_eq_getElem hmod
 rw [h k _ _ hk ha hb, edgeAt_some ha hb]
 split <;> rfl
theorem ring_tele (g : Nat → Int) : ∀ n : Nat, ((List.range n).map fun k => g (k + 1) - g k).sum = g n - g 0
  | 0 => by simp
  | n + 1 => by
    rw [List.range_succ, List.map_append, List.sum_append, ring_tele g n]
    simp
    omega
theorem ring_dir {y : Int} {r : Ring} (h : ∀ v, v ∈ r → v.2 ≠ y) : ((ringEn r r.length).map fun e => ((crossV (y : Rat) e).map fun a => a.2).getD 0).sum = 0 := by
 rcases Nat.eq_zero_or_pos r.length with h0 | h0
 ·have : r = [] := List.length_eq_zero_iff.1 h0
  subst this
  rfl
 let g : Nat → Int := fun k => upV y (r.getD (k % r.length) (0, 0))
 have e : ((List.range r.length).map fun k => g (k + 1) - g k).sum = 0 := by
  rw [ring_tele]
  show upV y (r.getD (r.length % r.length) (0, 0)) - upV y (r.getD (0 % r.length) (0, 0)) = 0
  rw [Nat.mod_self, Nat.zero_mod]
  omega
 refine Eq.trans (ring_sum _ (fun k => g (k + 1) - g k) r r.length (fun k a b hk ha hb => ?_) (Nat.le_refl _)) e
 have e1 : g k = upV y a := by
  show upV y (r.getD (k % r.length) (0, 0)) = _
  rw [Nat.mod_eq_of_lt hk, List.getD_eq_getElem?_getD, ha]
  rfl
 have e2 : g (k + 1) = upV y b := by
  show upV y (r.getD ((k + 1) % r.length) (0, 0)) = _
  rw [List.getD_eq_getElem?_getD, hb]
  rfl
 show g (k + 1) - g k = _
 rw [e1, e2]
 split
 ·rename_i hab; subst hab; omega
 exact (cross_dir (e := (a, b)) (h a (List.mem_of_getElem? ha)) (h b (List.mem_of_getElem? hb))).symm
theorem cntV_self (p a : Int × Int) : cntV p a a = 0 := by
  unfold cntV
  rw [if_neg (by omega), if_neg (by omega)]
theorem ring_cnt {px y : Int} {r : Ring} (h : ∀ v, v ∈ r → v.2 ≠ y) : ((ringEn r r.length).map fun e => ((crossV (y : Rat) e).map fun a => if (px : Rat) < a.1 then a.2 else 0).getD 0).sum = ringW (px, y) r r.length := by
  refine ring_sum _ (cntE (px, y) r) r r.length (fun k a b hk ha hb => ?_) (Nat.le_refl _)
  rw [cntE_some ha hb]
  split
  · rename_i hab; subst hab; exact cntV_self _ _
  exact (cross_cnt (e := (a, b)) (h a (List.mem_of_getElem? ha)) (h b (List.mem_of_getElem? hb))).symm
theorem marks_all {y : Int} {rs : List Ring} (hok : okR rs = true) (h : ∀ r, r ∈ rs → ∀ v, v ∈ r → v.2 ≠ y) : allSum (marksV (y : Rat) rs) = 0 := by
  unfold marksV allSum
  rw [sum_stab, if_pos hok]
  unfold crossesV edgesV
  rw [sum_fm, sum_flat]
  exact sum_zero fun r hr => ring_dir (h r hr)
theorem marks_right {px y : Int} {rs : List Ring} (hok : okR rs = true) (h : ∀ r, r ∈ rs → ∀ v, v ∈ r → v.2 ≠ y) : rightSum (px : Rat) (marksV (y : Rat) rs) = windV (px, y) rs := by
  unfold marksV rightSum
  rw [sum_stab, if_pos hok]
  unfold crossesV edgesV windV
  rw [sum_fm, sum_flat]
  exact sum_congr fun r hr => ring_cnt (h r hr)
theorem wind_left {px y : Int} {rs : List Ring} (hok : okR rs = true) (h : ∀ r, r ∈ rs → ∀ v, v ∈ r → v.2 ≠ y) (hq : ∀ a, a ∈ marksV (y : Rat) rs → a.1 ≠ (px : Rat)) : windV (px, y) rs = -leftSum (px : Rat) (marksV (y : Rat) rs) := by
  have h1 := left_right (px : Rat) _ hq
  rw [marks_all hok h, marks_right hok h] at h1
  omega
theorem marks_sorted (y : Rat) (rs : List Ring) : (marksV y rs).Pairwise fun a b => a.1 ≤ b.1 := by
  have h := Stb.stab_srt wkM (crossesV y (if okR rs = true then rs else []))
  unfold Stb.Srt at h
  unfold marksV
  refine h.imp fun {a b} k => ?_
  have k2 : ¬ ltM b a = true := by rw [k]; decide
  rw [ltM_iff] at k2
  grind
theorem right_none {q : Rat} {l : List QI} (h : ∀ a, a ∈ l → ¬ q < a.1) : rightSum q l = 0 := sum_zero fun a ha => if_neg (h a ha)
theorem runs_ne {q : Rat} : ∀ {ms : List QI} {s : Int}, (∀ a, a ∈ ms → a.1 ≠ q) → ∀ r, r ∈ runs s ms → r.1.1 ≠ q ∧ r.1.2 ≠ q
  | [], s, _, r, hr => by rw [runs] at hr; simp at hr
  | [a], s, _, r, hr => by rw [runs] at hr; simp at hr
  | a :: b :: t, s, h, r, hr => by
    rw [runs] at hr
    rcases List.mem_cons.1 hr with rfl | hr
    · exact ⟨h a (List.mem_cons_self ..), h b (List.mem_cons_of_mem _ (List.mem_cons_self ..))⟩
    exact runs_ne (fun c hc => h c (List.mem_cons_of_mem _ hc)) r hr
theorem runs_lo : ∀ {ms : List QI} {s : Int} {m : Rat}, (∀ a, a ∈ ms → m ≤ a.1) → ∀ r, r ∈ runs s ms → m ≤ r.1.1
  | [], s, _, _, r, hr => by rw [runs] at hr; simp at hr
  | [a], s, _, _, r, hr => by rw [runs] at hr; simp at hr
  | a :: b :: t, s, m, h, r, hr => by
    rw [runs] at hr
    rcases List.mem_cons.1 hr with rfl | hr
    · exact h a (List.mem_cons_self ..)
    exact runs_lo (fun c hc => h c (List.mem_cons_of_mem _ hc)) r hr
theorem runs_at (q : Rat) : ∀ (ms : List QI) (s : Int), ms.Pairwise (fun a b => a.1 ≤ b.1) → (∀ a, a ∈ ms → a.1 ≠ q) → ∀ r, r ∈ runs s ms → r.1.1 < q → q < r.1.2 → r.2 = s + leftSum q ms
  | [], s, _, _, r, hr => by rw [runs] at hr; simp at hr
  | [a], s, _, _, r, hr => by rw [runs] at hr; simp at hr
  | a :: b :: t, s, hp, hq, r, hr => by
    obtain ⟨p1, p2⟩ := List.pairwise_cons.1 hp
    have hbt : ∀ c, c ∈ b :: t → b.1 ≤ c.1 := fun c hc => by
      rcases List.mem_cons.1 hc with rfl | hc
      · grind
      exact (List.pairwise_cons.1 p2).1 c hc
    intro h1 h2
    rw [runs] at hr
    rw [leftSum]
    rcases List.mem_cons.1 hr with rfl | hr
    · dsimp only at h1 h2 ⊢
      rw [if_pos h1, leftSum_none fun c hc => by have := hbt c hc; grind]
      omega
    have hab := p1 b (List.mem_cons_self ..)
    have hlo := runs_lo hbt r hr
    rw [runs_at q (b :: t) (s + a.2) p2 (fun c hc => hq c (List.mem_cons_of_mem _ hc)) r hr h1 h2, if_pos (by grind)]
    omega
theorem spans_wind {px y rule : Int} {rs : List Ring} (hok : okR rs = true) (h : ∀ r, r ∈ rs → ∀ v, v ∈ r → v.2 ≠ y) (hq : ∀ a, a ∈ marksV (y : Rat) rs → a.1 ≠ (px : Rat)) :
  inL (spansV rule (marksV (y : Rat) rs)) (px : Rat) = fillsV (windV (px, y) rs) rule := by
 have hw := wind_left hok h hq
 have hall := left_right (px : Rat) _ hq
 rw [marks_all hok h] at hall
 have hs := marks_sorted (y : Rat) rs
 generalize marksV (y : Rat) rs = ms at *
 rw [hw, fillsV_neg]
 have e1 : inL (spansV rule ms) (px : Rat) = true ↔ fillsV (leftSum (px : Rat) ms) rule = true := by
  unfold spansV
  rw [inL_merge]
  ·have k := runs_in rule (px : Rat) ms 0 hs hq
   rw [show (0 : Int) + leftSum (px : Rat) ms = leftSum (px : Rat) ms by omega] at k
   have k2 : (∃ p, p ∈ sel rule (runs 0 ms) ∧ p.1 < (px : Rat) ∧ (px : Rat) < p.2) ↔ ∃ r, r ∈ runs 0 ms ∧ r.1.1 < (px : Rat) ∧ (px : Rat) < r.1.2 ∧ fillsV r.2 rule = true := by
    unfold sel
    constructor
    ·rintro ⟨p, hp, a, b⟩
     obtain ⟨r, hr, rfl⟩ := List.mem_map.1 hp
     obtain ⟨h1, h2⟩ := List.mem_filter.1 hr
     exact ⟨r, h1, a, b, h2⟩
    rintro ⟨r, hr, a, b, c⟩
    exact ⟨r.1, List.mem_map.2 ⟨r, List.mem_filter.2 ⟨hr, c⟩, rfl⟩, a, b⟩
   rw [k2, k]
   constructor
   ·exact fun z => z.2.2
   intro z
   have hne : leftSum (px : Rat) ms ≠ 0 := by
    intro z0
    rw [z0, fillsV_zero] at z
    cases z
   refine ⟨?_, ?_, z⟩
   ·apply Classical.byContradiction
    intro hn
    exact hne (leftSum_none fun a ha hl => hn ⟨a, ha, hl⟩)
   apply Classical.byContradiction
   intro hn
   have := right_none (q := (px : Rat)) (l := ms) fun a ha hl => hn ⟨a, ha, hl⟩
   omega
  intro p hp
  unfold sel at hp
  obtain ⟨r, hr, rfl⟩ := List.mem_map.1 hp
  have hr := (List.mem_filter.1 hr).1
  exact runs_ne hq r hr
 cases e2 : fillsV (leftSum (px : Rat) ms) rule with
 | true => exact e1.2 e2
 | false =>
  rw [Bool.eq_false_iff]
  intro k
  rw [e1.1 k] at e2
  cases e2
def wantV (q : Rat) (l : List (QQ × Int)) : Int := l.foldl (fun n p => if p.1.1 < q ∧ q < p.1.2 then p.2 else n) 0
theorem wantV_snoc (q : Rat) (l : List (QQ × Int)) (p : QQ × Int) : wantV q (l ++ [p]) = if p.1.1 < q ∧ q < p.1.2 then p.2 else wantV q l := by
  unfold wantV
  rw [List.foldl_append]
  rfl
theorem wantV_take {q : Rat} {l : List (QQ × Int)} {k : Nat} {p : QQ × Int} (h : l[k]? = some p) : wantV q (l.take (k + 1)) = if p.1.1 < q ∧ q < p.1.2 then p.2 else wantV q (l.take k) := by rw [take_snoc h, wantV_snoc]
theorem wantV_eq {q : Rat} {n : Int} {l : List (QQ × Int)} (h : ∀ p, p ∈ l → p.1.1 < q → q < p.1.2 → p.2 = n) (h2 : n ≠ 0 → ∃ p, p ∈ l ∧ p.1.1 < q ∧ q < p.1.2) : wantV q l = n := by
 have key : ∀ l : List (QQ × Int), (∀ p, p ∈ l → p.1.1 < q → q < p.1.2 → p.2 = n) → wantV q l = 0 ∧ (∀ p, p ∈ l → ¬ (p.1.1 < q ∧ q < p.1.2)) ∨ wantV q l = n := by
  intro l
  refine Stb.rev_rec (motive := fun l => (∀ p, p ∈ l → p.1.1 < q → q < p.1.2 → p.2 = n) → wantV q l = 0 ∧ (∀ p, p ∈ l → ¬ (p.1.1 < q ∧ q < p.1.2)) ∨ wantV q l = n) ?_ ?_ l
  ·intro _
   exact Or.inl ⟨rfl, by simp⟩
  intro l p ih h
  rw [wantV_snoc]
  split
  ·rename_i c
   exact Or.inr (h p (by simp) c.1 c.2)
  rename_i c
  rcases ih (fun a ha => h a (List.mem_append.2 (Or.inl ha))) with ⟨a, b⟩ | a
  ·refine Or.inl ⟨a, fun x hx => ?_⟩
   rcases List.mem_append.1 hx with hx | hx
   ·exact b x hx
   rw [List.mem_singleton.1 hx]; exact c
  exact Or.inr a
 rcases key l h with ⟨a, b⟩ | a
 ·rw [a]
  by_cases hn : n = 0
  ·exact hn.symm
  obtain ⟨p, hp, k⟩ := h2 hn
  exact absurd k (b p hp)
 exact a
theorem lvstep_nz {out : List (QQ × Int)} {r : QQ × Int} (h : ∀ p, p ∈ out → p.2 ≠ 0) : ∀ p, p ∈ lvstep out r → p.2 ≠ 0 := by
 unfold lvstep
 split
 ·exact h
 rename_i c
 have hr : -r.2 ≠ 0 := fun k => c (Or.inl (by omega))
 have hmore : ∀ p, p ∈ out ++ [(r.1, -r.2)] → p.2 ≠ 0 := fun p hp => by
  rcases List.mem_append.1 hp with hp | hp
  ·exact h p hp
  rw [List.mem_singleton.1 hp]; exact hr
 split
 ·exact hmore
 rename_i l h0
 have e0 := lvlast h0
 split
 ·rename_i hl
  intro p hp
  rcases List.mem_append.1 hp with hp | hp
  ·exact h p (List.dropLast_subset _ hp)
  rw [List.mem_singleton.1 hp]
  show l.2 ≠ 0
  rw [hl.1]
  exact hr
 exact hmore
theorem levelsV_nz (ms : List QI) : ∀ p, p ∈ levelsV ms → p.2 ≠ 0 := by
  unfold levelsV
  have key : ∀ (l : List (QQ × Int)) (out : List (QQ × Int)), (∀ p, p ∈ out → p.2 ≠ 0) → ∀ p, p ∈ l.foldl lvstep out → p.2 ≠ 0 := by
    intro l
    induction l with
    | nil => intro out h; exact h
    | cons r l ih => intro out h; exact ih _ (lvstep_nz h)
  exact key _ [] (by simp)
theorem levels_wind {px y : Int} {rs : List Ring} (hok : okR rs = true) (h : ∀ r, r ∈ rs → ∀ v, v ∈ r → v.2 ≠ y) (hq : ∀ a, a ∈ marksV (y : Rat) rs → a.1 ≠ (px : Rat)) :
  wantV (px : Rat) (levelsV (marksV (y : Rat) rs)) = windV (px, y) rs := by
 have hw := wind_left hok h hq
 have hall := left_right (px : Rat) _ hq
 rw [marks_all hok h] at hall
 have hs := marks_sorted (y : Rat) rs
 generalize marksV (y : Rat) rs = ms at *
 rw [hw]
 have hne : ∀ r, r ∈ runs 0 ms → r.1.1 ≠ (px : Rat) := fun r hr => (runs_ne hq r hr).1
 refine wantV_eq (fun p hp a b => ?_) (fun hn => ?_)
 ·obtain ⟨r, hr, k1, k2, k3⟩ := (levelsV_at (q := (px : Rat)) (levelsV_nz ms p hp) ms hne).1 ⟨p, hp, a, b, rfl⟩
  rw [← k3, runs_at (px : Rat) ms 0 hs hq r hr k1 k2]
  omega
 have k := runs_in 1 (px : Rat) ms 0 hs hq
 obtain ⟨r, hr, k1, k2, _⟩ := k.2 ⟨by
  apply Classical.byContradiction
  intro hz
  exact hn (by rw [leftSum_none fun a ha hl => hz ⟨a, ha, hl⟩]; rfl), by
  apply Classical.byContradiction
  intro hz
  have := right_none (q := (px : Rat)) (l := ms) fun a ha hl => hz ⟨a, ha, hl⟩
  omega, by
  unfold fillsV
  simp
  omega⟩
 obtain ⟨p, hp, a, b, _⟩ := (levelsV_at (q := (px : Rat)) hn ms hne).2 ⟨r, hr, k1, k2, by rw [runs_at (px : Rat) ms 0 hs hq r hr k1 k2]; omega⟩
 exact ⟨p, hp, a, b⟩
end Go.Proofs.YtaeeeailoiioaacGreat
