/- The reference's solver in memory: a struct behind a pointer: its graph came in, its three rows are its own, each of its own colour; beside it blocks that are kept. -/
import Derived.Test.YtnffimpoekjkpaaZFnExactRoundsx33
namespace Go.Proofs.Ytnffimpoekjkpaa.QFnExactRounds
open Go.RowKit Go.Proofs.YtnffimpoekjkpaaW.PrintWords Go.Proofs.YtnffimpoekjkpaaW.PrintLast Go.Proofs.YtnffimpoekjkpaaW.PrintMore
set_option linter.unusedVariables false
set_option linter.unusedSimpArgs false
/-- What the reference's solver holds. -/
structure RI where
 y : List Int
 nd : List (S55)
 mt : List (S77)
 rn : Int
 dn : Bool
structure Rn (w0 W : World) (Z : Nat → Prop) (wz : World) (g : Nat) (N : Int) (Ae : Option Addr) (ce : Nat) (es : List (S51)) (col : Nat → Nat) (vy vn vm : Value) (s : RI) : Prop where
 blk : W.heap[g]? = some (.cells #[.int .i64 N,.slice Ae es.length ce,vy,vn,vm,.int .i64 s.rn,.bool s.dn] 39 (0,0))
 ge : w0.heap.size ≤ g
 hb : Below w0.heap.size w0 W
 he : Kd.C k51 w0 Ae es.length es
 hec : es.length ≤ ce
 ry : Kd.R (Kd.int .i64) 3 W w0.heap.size (fun k=>col k = 1) vy s.y
 rn : Kd.R k55 55 W w0.heap.size (fun k=>col k = 2) vn s.nd
 rm : Kd.R k77 77 W w0.heap.size (fun k=>col k = 3) vm s.mt
 hz : ∀ k,Z k → 4 ≤ col k ∧ k ≠ g ∧ k < W.heap.size ∧ W.heap[k]? = wz.heap[k]?
theorem t39_3 : ∀ q,q ∈ 3 :: (Kd.int .i64).E → q ≠ 39:=by intro q hq;obtain rfl : q = 3:=List.mem_singleton.1 hq;decide
theorem t39_77 : ∀ q,q ∈ 77 :: k77.E → q ≠ 39:=by
 intro q hq
 have hq : q ∈ ([77] : List Nat):=hq
 obtain rfl : q = 77:=List.mem_singleton.1 hq
 decide
theorem t39_55 : ∀ q,q ∈ 55 :: k55.E → q ≠ 39:=by
 intro q hq
 have hq : q ∈ ([55,3,77] : List Nat):=hq
 simp only [List.mem_cons,List.not_mem_nil,or_false] at hq
 rcases hq with rfl|rfl|rfl <;> decide
section
variable {w0 W W1 : World} {Z : Nat → Prop} {wz : World} {g : Nat} {N : Int} {Ae : Option Addr} {ce : Nat} {es : List (S51)} {col : Nat → Nat} {vy vn vm : Value} {s : RI}
/-- The kept blocks behind a step that leaves them. -/
theorem hz_to (h : ∀ k,Z k → 4 ≤ col k ∧ k ≠ g ∧ k < W.heap.size ∧ W.heap[k]? = wz.heap[k]?) (hs : W.heap.size ≤ W1.heap.size) (hk : ∀ k,4 ≤ col k → k ≠ g → k < W.heap.size → W1.heap[k]? = W.heap[k]?) : ∀ k,Z k → 4 ≤ col k ∧ k ≠ g ∧ k < W1.heap.size ∧ W1.heap[k]? = wz.heap[k]? :=
 fun k hz=>by obtain ⟨h1,h2,h3,h4⟩:=h k hz;exact ⟨h1,h2,Nat.lt_of_lt_of_le h3 hs,(hk k h1 h2 h3).trans h4⟩
theorem Rn.to (h : Rn w0 W Z wz g N Ae ce es col vy vn vm s) (hb : Below W.heap.size W W1:=by repeat (first|exact Below.refl _ _|apply qo|apply qd|apply qh)) : Rn w0 W1 Z wz g N Ae ce es col vy vn vm s :=
 ⟨qw h.blk hb,h.ge,qx h.hb hb,h.he,h.hec,Kd.R_below h.ry hb,Kd.R_below h.rn hb,Kd.R_below h.rm hb,hz_to h.hz hb.size fun k _ _ hk=>hb.block k hk⟩
theorem Rn.cells (h : Rn w0 W Z wz g N Ae ce es col vy vn vm s) : W.cell? ⟨g,0,none⟩ = some (.int .i64 N) ∧ W.cell? ⟨g,1,none⟩ = some (.slice Ae es.length ce) ∧ W.cell? ⟨g,2,none⟩ = some vy ∧ W.cell? ⟨g,3,none⟩ = some vn ∧ W.cell? ⟨g,4,none⟩ = some vm ∧ W.cell? ⟨g,5,none⟩ = some (.int .i64 s.rn) ∧ W.cell? ⟨g,6,none⟩ = some (.bool s.dn) :=
 ⟨(qq h.blk 0).trans rfl,(qq h.blk 1).trans rfl,(qq h.blk 2).trans rfl,(qq h.blk 3).trans rfl,(qq h.blk 4).trans rfl,(qq h.blk 5).trans rfl,(qq h.blk 6).trans rfl⟩
theorem Rn.frz (h : Rn w0 W Z wz g N Ae ce es col vy vn vm s) : W.frozen? ⟨g,2,none⟩ = false ∧ W.frozen? ⟨g,3,none⟩ = false ∧ W.frozen? ⟨g,4,none⟩ = false ∧ W.frozen? ⟨g,5,none⟩ = false ∧ W.frozen? ⟨g,6,none⟩ = false :=
 ⟨qs h.blk 2,qs h.blk 3,qs h.blk 4,qs h.blk 5,qs h.blk 6⟩
theorem hz_set {b o : Nat} {v : Value} (h : ∀ k,Z k → 4 ≤ col k ∧ k ≠ g ∧ k < W.heap.size ∧ W.heap[k]? = wz.heap[k]?) (hb : b = g ∨ col b < 4) : ∀ k,Z k → 4 ≤ col k ∧ k ≠ g ∧ k < (W.setCell ⟨b,o,none⟩ v).heap.size ∧ (W.setCell ⟨b,o,none⟩ v).heap[k]? = wz.heap[k]? :=
 fun k hz=>by
  obtain ⟨h1,h2,h3,h4⟩:=h k hz
  have hne : k ≠ b:=by rintro rfl;rcases hb with e|e <;> omega
  exact ⟨h1,h2,by simpa using h3,(Below.heap_setCell W ⟨b,o,none⟩ v k hne).trans h4⟩
/-- The struct's own fields stored. -/
theorem Rn.fy {v : Value} {ys : List Int} (h : Rn w0 W Z wz g N Ae ce es col vy vn vm s) (hv : Kd.R (Kd.int .i64) 3 W w0.heap.size (fun k=>col k = 1) v ys) : Rn w0 (W.setCell ⟨g,2,none⟩ v) Z wz g N Ae ce es col v vn vm { s with y:=ys } :=
 ⟨by simpa using blk_set h.blk 2 v,h.ge,qp h.hb h.ge,h.he,h.hec,Kd.R_set hv h.blk t39_3 _ _,Kd.R_set h.rn h.blk t39_55 _ _,Kd.R_set h.rm h.blk t39_77 _ _,hz_set h.hz (.inl rfl)⟩
theorem Rn.fm {v : Value} {ys : List (S77)} (h : Rn w0 W Z wz g N Ae ce es col vy vn vm s) (hv : Kd.R k77 77 W w0.heap.size (fun k=>col k = 3) v ys) : Rn w0 (W.setCell ⟨g,4,none⟩ v) Z wz g N Ae ce es col vy vn v { s with mt:=ys } :=
 ⟨by simpa using blk_set h.blk 4 v,h.ge,qp h.hb h.ge,h.he,h.hec,Kd.R_set h.ry h.blk t39_3 _ _,Kd.R_set h.rn h.blk t39_55 _ _,Kd.R_set hv h.blk t39_77 _ _,hz_set h.hz (.inl rfl)⟩
theorem Rn.fr (h : Rn w0 W Z wz g N Ae ce es col vy vn vm s) (x : Int) : Rn w0 (W.setCell ⟨g,5,none⟩ (.int .i64 x)) Z wz g N Ae ce es col vy vn vm { s with rn:=x } :=
 ⟨by simpa using blk_set h.blk 5 (.int .i64 x),h.ge,qp h.hb h.ge,h.he,h.hec,Kd.R_set h.ry h.blk t39_3 _ _,Kd.R_set h.rn h.blk t39_55 _ _,Kd.R_set h.rm h.blk t39_77 _ _,hz_set h.hz (.inl rfl)⟩
theorem Rn.fd (h : Rn w0 W Z wz g N Ae ce es col vy vn vm s) (x : Bool) : Rn w0 (W.setCell ⟨g,6,none⟩ (.bool x)) Z wz g N Ae ce es col vy vn vm { s with dn:=x } :=
 ⟨by simpa using blk_set h.blk 6 (.bool x),h.ge,qp h.hb h.ge,h.he,h.hec,Kd.R_set h.ry h.blk t39_3 _ _,Kd.R_set h.rn h.blk t39_55 _ _,Kd.R_set h.rm h.blk t39_77 _ _,hz_set h.hz (.inl rfl)⟩
/-- New colours, the same on the blocks that are there. -/
theorem Rn.recol {col' : Nat → Nat} (h : Rn w0 W Z wz g N Ae ce es col vy vn vm s) (hc : ∀ k,k < W.heap.size → col' k = col k) : Rn w0 W Z wz g N Ae ce es col' vy vn vm s :=
 ⟨h.blk,h.ge,h.hb,h.he,h.hec,row_recol h.ry hc,row_recol h.rn hc,row_recol h.rm hc,fun k hz=>by obtain ⟨h1,h2,h3,h4⟩:=h.hz k hz;exact ⟨by rw [hc k h3];exact h1,h2,h3,h4⟩⟩
theorem Rn.ahead (h : Rn w0 W Z wz g N Ae ce es col vy vn vm s) (c : Nat) : Rn w0 W Z wz g N Ae ce es (fun k=>if W.heap.size ≤ k then c else col k) vy vn vm s :=
 h.recol fun k hk=>by rw [if_neg (by omega)]
/-- Other blocks kept from here on. -/
theorem Rn.keep {Z' : Nat → Prop} (h : Rn w0 W Z wz g N Ae ce es col vy vn vm s) (hz : ∀ k,Z' k → 4 ≤ col k ∧ k ≠ g ∧ k < W.heap.size) : Rn w0 W Z' W g N Ae ce es col vy vn vm s :=
 ⟨h.blk,h.ge,h.hb,h.he,h.hec,h.ry,h.rn,h.rm,fun k hk=>⟨(hz k hk).1,(hz k hk).2.1,(hz k hk).2.2,rfl⟩⟩
/-- A store into the row of a colour. -/
theorem Rn.sy {b c : Nat} {n : Nat} (h : Rn w0 W Z wz g N Ae ce es col (.slice (some ⟨b,0,none⟩) n c) vn vm s) (i : Int) (x : Int) : Rn w0 (W.setCell ⟨b,i.toNat,none⟩ (.int .i64 x)) Z wz g N Ae ce es col (.slice (some ⟨b,0,none⟩) n c) vn vm { s with y:=s.y.set i.toNat x }:=by
 have hc : col b = 1:=h.ry.1 b rfl
 obtain ⟨ds,hd⟩:=row_blk h.ry
 exact ⟨far_blk h.blk hd (by decide),h.ge,qp h.hb (Kd.R_base h.ry b rfl),h.he,h.hec,Kd.R_putn h.ry i x,far_row h.rn hc (by decide),far_row h.rm hc (by decide),hz_set h.hz (.inr (by omega))⟩
/-- A node's number field stored: 2 base, 3 z, 4 up; its flag 5. -/
theorem Rn.sn {b c n : Nat} (h : Rn w0 W Z wz g N Ae ce es col vy (.slice (some ⟨b,0,none⟩) n c) vm s) (i : Int) (h0 : 0 ≤ i) (h1 : i < s.nd.length) (j : Nat) (u : Value) (x' : S55) (hj : j < 6) (hx : ∀ v0 v1 : Value,[v0,v1,.int .i64 x'.f2,.int .i64 x'.f3,.int .i64 x'.f4,.bool x'.f5] = ([v0,v1,.int .i64 (rd_T55 s.nd i).f2,.int .i64 (rd_T55 s.nd i).f3,.int .i64 (rd_T55 s.nd i).f4,.bool (rd_T55 s.nd i).f5]).take j ++ [u] ++ ([v0,v1,.int .i64 (rd_T55 s.nd i).f2,.int .i64 (rd_T55 s.nd i).f3,.int .i64 (rd_T55 s.nd i).f4,.bool (rd_T55 s.nd i).f5]).drop (j + 1)) (hm : x'.f0 = (rd_T55 s.nd i).f0 ∧ x'.f1 = (rd_T55 s.nd i).f1) :
  Rn w0 (W.setCell ⟨b,i.toNat * 6 + j,none⟩ u) Z wz g N Ae ce es col vy (.slice (some ⟨b,0,none⟩) n c) vm { s with nd:=s.nd.set i.toNat x' }:=by
 have hc : col b = 2:=h.rn.1 b rfl
 obtain ⟨ds,hd⟩:=row_blk h.rn
 have hn:=(Kd.R_reads' h.rn).1
 obtain ⟨cl,hcl,hM,hcc,hfr⟩:=Kd.R_elem h.rn z55 i h0 (by omega)
 have hM':=hM
 obtain ⟨v0,v1,e,g0,g1⟩:=k55_openM hM
 have hr:=(Kd.R_seg h.rn i h0 (by omega) (seg:=[u]) (j:=j) (x':=x') (okp:=fun k=>col k = 2 ∧ k ≠ b) hcl hcc (by show j + 1 ≤ 6;omega) (by
  have:=k55_mkM W w0.heap.size (fun k=>col k = 2 ∧ k ≠ b) x' (v0:=v0) (by rw [hm.1];exact g0) (v1:=v1) (by rw [hm.2];exact g1)
  rw [hx v0 v1] at this
  rw [e]
  exact this) (fun _ h=>h)).1
 exact ⟨far_blk h.blk hd (by decide),h.ge,qp h.hb (Kd.R_base h.rn b rfl),h.he,h.hec,far_row h.ry hc (by decide),hr,far_row h.rm hc (by decide),hz_set h.hz (.inr (by omega))⟩
theorem hz_grown {row : Option Nat} {w1 : World} (h : ∀ k,Z k → 4 ≤ col k ∧ k ≠ g ∧ k < W.heap.size ∧ W.heap[k]? = wz.heap[k]?) (hg : W.grownBy w1 row) (hs : W.heap.size ≤ w1.heap.size) (hr : ∀ k,row = some k → col k < 4) : ∀ k,Z k → 4 ≤ col k ∧ k ≠ g ∧ k < w1.heap.size ∧ w1.heap[k]? = wz.heap[k]? :=
 fun k hz=>by
  obtain ⟨h1,h2,h3,h4⟩:=h k hz
  have hne : some k ≠ row:=fun e=>by have:=hr k e.symm;omega
  exact ⟨h1,h2,Nat.lt_of_lt_of_le h3 hs,(hg.block k h3 hne).trans h4⟩
/-- A mate appended, and the new row stored. -/
theorem Rn.app_m {w1 : World} {v1 : Value} {ys : List (S77)} (h : Rn w0 W Z wz g N Ae ce es col vy vn vm s) (ho : Kd.R k77 77 w1 w0.heap.size (fun k=>col k = 3) v1 ys) (hb : Below w0.heap.size w0 w1) (hg : W.grownBy w1 vm.ownBlock) :
  Rn w0 (w1.setCell ⟨g,4,none⟩ v1) Z wz g N Ae ce es col vy vn v1 { s with mt:=ys } ∧ w1.cell? ⟨g,4,none⟩ = some vm ∧ w1.frozen? ⟨g,4,none⟩ = false:=by
 have b1:=blk_grown h.blk hg (Kd.R_ne h.rm h.blk (by decide))
 have hne : ∀ {c : Nat},c ≠ 3 → ∀ k,col k = c → some k ≠ vm.ownBlock:=fun hc k hk e=>hc (by rw [← hk];exact h.rm.1 k e.symm)
 exact ⟨⟨by simpa using blk_set b1 4 v1,h.ge,qp hb h.ge,h.he,h.hec,Kd.R_set (Kd.R_grown h.ry hg (hne (by decide))) b1 t39_3 _ _,Kd.R_set (Kd.R_grown h.rn hg (hne (by decide))) b1 t39_55 _ _,Kd.R_set ho b1 t39_77 _ _,hz_set (hz_grown h.hz hg hg.size fun k e=>by have:=h.rm.1 k e;omega) (.inl rfl)⟩,(qq b1 4).trans rfl,qs b1 4⟩
/-- A node appended, and the new row stored. -/
theorem Rn.app_n {w1 : World} {v1 : Value} {ys : List (S55)} (h : Rn w0 W Z wz g N Ae ce es col vy vn vm s) (ho : Kd.R k55 55 w1 w0.heap.size (fun k=>col k = 2) v1 ys) (hb : Below w0.heap.size w0 w1) (hg : W.grownBy w1 vn.ownBlock) :
  Rn w0 (w1.setCell ⟨g,3,none⟩ v1) Z wz g N Ae ce es col vy v1 vm { s with nd:=ys } ∧ w1.cell? ⟨g,3,none⟩ = some vn ∧ w1.frozen? ⟨g,3,none⟩ = false:=by
 have b1:=blk_grown h.blk hg (Kd.R_ne h.rn h.blk (by decide))
 have hne : ∀ {c : Nat},c ≠ 2 → ∀ k,col k = c → some k ≠ vn.ownBlock:=fun hc k hk e=>hc (by rw [← hk];exact h.rn.1 k e.symm)
 exact ⟨⟨by simpa using blk_set b1 3 v1,h.ge,qp hb h.ge,h.he,h.hec,Kd.R_set (Kd.R_grown h.ry hg (hne (by decide))) b1 t39_3 _ _,Kd.R_set ho b1 t39_55 _ _,Kd.R_set (Kd.R_grown h.rm hg (hne (by decide))) b1 t39_77 _ _,hz_set (hz_grown h.hz hg hg.size fun k e=>by have:=h.rn.1 k e;omega) (.inl rfl)⟩,(qq b1 3).trans rfl,qs b1 3⟩
end
/-- The reference's labels: a struct of three rows. -/
structure TI where
 lb : List Int
 ah : List (S77)
 rt : List Int
structure Tp (W : World) (base : Nat) (gt : Nat) (col : Nat → Nat) (vl va vr : Value) (t : TI) : Prop where
 blk : W.heap[gt]? = some (.cells #[vl,va,vr] 68 (0,0))
 ge : base ≤ gt
 cg : col gt = 7
 rl : Kd.R (Kd.int .i64) 3 W base (fun k=>col k = 4) vl t.lb
 ra : Kd.R k77 77 W base (fun k=>col k = 5) va t.ah
 rr : Kd.R (Kd.int .i64) 3 W base (fun k=>col k = 6) vr t.rt
section
variable {W W1 : World} {base gt : Nat} {col col' : Nat → Nat} {vl va vr : Value} {t : TI}
theorem Tp.to (h : Tp W base gt col vl va vr t) (hb : Below W.heap.size W W1:=by repeat (first|exact Below.refl _ _|apply qo|apply qd|apply qh)) : Tp W1 base gt col vl va vr t :=
 ⟨qw h.blk hb,h.ge,h.cg,Kd.R_below h.rl hb,Kd.R_below h.ra hb,Kd.R_below h.rr hb⟩
theorem Tp.cells (h : Tp W base gt col vl va vr t) : W.cell? ⟨gt,0,none⟩ = some vl ∧ W.cell? ⟨gt,1,none⟩ = some va ∧ W.cell? ⟨gt,2,none⟩ = some vr :=
 ⟨(qq h.blk 0).trans rfl,(qq h.blk 1).trans rfl,(qq h.blk 2).trans rfl⟩
theorem Tp.recol (h : Tp W base gt col vl va vr t) (hc : ∀ k,k < W.heap.size → col' k = col k) : Tp W base gt col' vl va vr t :=
 ⟨h.blk,h.ge,(hc gt (blk_lt h.blk)).trans h.cg,row_recol h.rl hc,row_recol h.ra hc,row_recol h.rr hc⟩
theorem Tp.ahead (h : Tp W base gt col vl va vr t) (c : Nat) : Tp W base gt (fun k=>if W.heap.size ≤ k then c else col k) vl va vr t :=
 h.recol fun k hk=>by rw [if_neg (by omega)]
/-- A store into a block of another colour. -/
theorem Tp.far {b o : Nat} {u : Value} (h : Tp W base gt col vl va vr t) (hb : col b < 4 ∨ 7 < col b) : Tp (W.setCell ⟨b,o,none⟩ u) base gt col vl va vr t:=by
 have hn : ∀ {c : Nat},4 ≤ c ∧ c ≤ 7 → ∀ k,col k = c → k ≠ b:=fun hc k hk e=>by subst e;omega
 exact ⟨(Below.heap_setCell W ⟨b,o,none⟩ u gt (hn (by decide) gt h.cg)).trans h.blk,h.ge,h.cg,Kd.R_far (p:=⟨b,o,none⟩) h.rl (hn (by decide)) u,Kd.R_far (p:=⟨b,o,none⟩) h.ra (hn (by decide)) u,Kd.R_far (p:=⟨b,o,none⟩) h.rr (hn (by decide)) u⟩
/-- A row of another colour grows. -/
theorem Tp.grown {row : Option Nat} (h : Tp W base gt col vl va vr t) (hg : W.grownBy W1 row) (hr : ∀ k,row = some k → col k < 4 ∨ 7 < col k) : Tp W1 base gt col vl va vr t:=by
 have hn : ∀ {c : Nat},4 ≤ c ∧ c ≤ 7 → ∀ k,col k = c → some k ≠ row:=fun hc k hk e=>by have:=hr k e.symm;omega
 exact ⟨blk_grown h.blk hg (hn (by decide) gt h.cg),h.ge,h.cg,Kd.R_grown h.rl hg (hn (by decide)),Kd.R_grown h.ra hg (hn (by decide)),Kd.R_grown h.rr hg (hn (by decide))⟩
theorem Tp.sl {b c n : Nat} (h : Tp W base gt col (.slice (some ⟨b,0,none⟩) n c) va vr t) (i x : Int) : Tp (W.setCell ⟨b,i.toNat,none⟩ (.int .i64 x)) base gt col (.slice (some ⟨b,0,none⟩) n c) va vr { t with lb:=t.lb.set i.toNat x }:=by
 have hc : col b = 4:=h.rl.1 b rfl
 have hne : gt ≠ b:=fun e=>by have:=h.cg;rw [e,hc] at this;cases this
 exact ⟨(Below.heap_setCell W ⟨b,i.toNat,none⟩ _ gt hne).trans h.blk,h.ge,h.cg,Kd.R_putn h.rl i x,far_row h.ra hc (by decide),far_row h.rr hc (by decide)⟩
theorem Tp.sr {b c n : Nat} (h : Tp W base gt col vl va (.slice (some ⟨b,0,none⟩) n c) t) (i x : Int) : Tp (W.setCell ⟨b,i.toNat,none⟩ (.int .i64 x)) base gt col vl va (.slice (some ⟨b,0,none⟩) n c) { t with rt:=t.rt.set i.toNat x }:=by
 have hc : col b = 6:=h.rr.1 b rfl
 have hne : gt ≠ b:=fun e=>by have:=h.cg;rw [e,hc] at this;cases this
 exact ⟨(Below.heap_setCell W ⟨b,i.toNat,none⟩ _ gt hne).trans h.blk,h.ge,h.cg,far_row h.rl hc (by decide),far_row h.ra hc (by decide),Kd.R_putn h.rr i x⟩
end
theorem k77_seg {W : World} {base b n c : Nat} {ok : Nat → Prop} {xs : List (S77)} (h : Kd.R k77 77 W base ok (.slice (some ⟨b,0,none⟩) n c) xs) (i : Int) (h0 : 0 ≤ i) (h1 : i < xs.length) (u v : Int) :
  Kd.R k77 77 ((W.setCell ⟨b,i.toNat * 2,none⟩ (.int .i64 u)).setCell ⟨b,i.toNat * 2 + 1,none⟩ (.int .i64 v)) base ok (.slice (some ⟨b,0,none⟩) n c) (xs.set i.toNat ⟨u,v⟩):=by
 have hn:=(Kd.R_reads' h).1
 obtain ⟨cl,hcl,hM,hcc,hfr⟩:=Kd.R_elem h z77 i h0 (by omega)
 have e:=k77_openM hM
 have hr:=(Kd.R_seg h i h0 (by omega) (seg:=[.int .i64 u,.int .i64 v]) (j:=0) (x':=(⟨u,v⟩ : S77)) (okp:=fun k=>ok k ∧ k ≠ b) hcl hcc (Nat.le_refl 2) (by rw [e];exact k77_mkM W base _ (⟨u,v⟩ : S77)) (fun _ h=>h)).1
 exact hr
section
variable {W : World} {base gt : Nat} {col : Nat → Nat} {vl va vr : Value} {t : TI}
theorem Tp.sa {b c n : Nat} (h : Tp W base gt col vl (.slice (some ⟨b,0,none⟩) n c) vr t) (i : Int) (h0 : 0 ≤ i) (h1 : i < t.ah.length) (u v : Int) :
  Tp ((W.setCell ⟨b,i.toNat * 2,none⟩ (.int .i64 u)).setCell ⟨b,i.toNat * 2 + 1,none⟩ (.int .i64 v)) base gt col vl (.slice (some ⟨b,0,none⟩) n c) vr { t with ah:=t.ah.set i.toNat ⟨u,v⟩ }:=by
 have hc : col b = 5:=h.ra.1 b rfl
 have hne : gt ≠ b:=fun e=>by have:=h.cg;rw [e,hc] at this;cases this
 exact ⟨((Below.heap_setCell _ ⟨b,i.toNat * 2 + 1,none⟩ _ gt hne).trans (Below.heap_setCell W ⟨b,i.toNat * 2,none⟩ _ gt hne)).trans h.blk,h.ge,h.cg,far_row (far_row h.rl hc (by decide)) hc (by decide),k77_seg h.ra i h0 h1 u v,far_row (far_row h.rr hc (by decide)) hc (by decide)⟩
end
end Go.Proofs.Ytnffimpoekjkpaa.QFnExactRounds
