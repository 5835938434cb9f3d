import Derived.Test.YtnffimpoekjkpaaGreatZFnExactSolvex0
set_option linter.all false
namespace Go.Proofs.YtnffimpoekjkpaaGreat.QFnExactSolve
open Go.RowKit Go.Proofs.YtnffimpoekjkpaaGreatW.PrintWords Go.Proofs.YtnffimpoekjkpaaGreatW.PrintLast Go.Proofs.YtnffimpoekjkpaaGreatW.PrintMore
theorem kf' {W W1 : World} (h : re' W W1) : Below W.heap.size W W1:=by
 obtain ⟨n,rfl⟩:=h
 exact qd (Below.refl _ _) n
theorem fe' {α : Type} {d : Kd α} {e base : Nat} {ok : Nat → Prop} {v : Value} {xs : List α} {W : World} (h : d.R e W base ok v xs) (h0 : 0 < xs.length) : ∃ b c,v = .slice (some ⟨b,0,none⟩) xs.length c ∧ ok b ∧ base ≤ b ∧ xs.length ≤ c:=by
 obtain ⟨A,c,e1,hc,_⟩:=Kd.R_reads h
 obtain ⟨inner,ho,-⟩:=h.2
 rcases ho.2 with ⟨e2,-⟩|⟨b,cap,cur,e2,hb,-⟩
 ·rw [e1] at e2
  injection e2 with _ hl _
  omega
 rw [e1] at e2
 injection e2 with ha _ _
 subst ha
 exact ⟨b,c,e1,h.1 b (by rw [e1];rfl),hb,hc⟩
structure SI where
 y : List Int
 nd : List (S89)
 lb : List Int
 ah : List Int
 bk : List Int
 rn : Int
structure Sol (w0 W : World) (g : Nat) (N : Int) (Ae : Option Addr) (ce : Nat) (es : List (S73)) (col : Nat → Nat) (vy vn vl va vb : Value) (s : SI) : Prop where
 blk : W.heap[g]? = some (.cells #[.int .i64 N,.slice Ae es.length ce,vy,vn,vl,va,vb,.int .i64 s.rn] 87 (0,0))
 ge : w0.heap.size ≤ g
 hb : Below w0.heap.size w0 W
 he : Kd.C k73 w0 Ae es.length es
 hec : es.length ≤ ce
 ry : Kd.R (Kd.int .i64) 3 W w0.heap.size (fun k=>col k = 1) vy s.y
 rn : Kd.R k89 89 W w0.heap.size (fun k=>col k = 2) vn s.nd
 rl : Kd.R (Kd.int .i64) 3 W w0.heap.size (fun k=>col k = 3) vl s.lb
 ra : Kd.R (Kd.int .i64) 3 W w0.heap.size (fun k=>col k = 4) va s.ah
 rb : Kd.R (Kd.int .i64) 3 W w0.heap.size (fun k=>col k = 5) vb s.bk
def Mj' (w0 W : World) (g : Nat) (N : Int) (Ae : Option Addr) (ce : Nat) (es : List (S73)) (s : SI) : Prop:=∃ col vy vn vl va vb,Sol w0 W g N Ae ce es col vy vn vl va vb s
theorem Te' : ∀ q,q ∈ 3 :: (Kd.int .i64).E → q ≠ 87:=by intro q hq;obtain rfl : q = 3:=List.mem_singleton.1 hq;decide
theorem Fi' : ∀ q,q ∈ 89 :: k89.E → q ≠ 87:=by
 intro q hq
 have hq : q ∈ ([89,3,3] : List Nat):=hq
 simp only [List.mem_cons,List.not_mem_nil,or_false] at hq
 rcases hq with rfl|rfl|rfl <;> decide
section
variable {w0 W W1 : World} {g : Nat} {N : Int} {Ae : Option Addr} {ce : Nat} {es : List (S73)} {col : Nat → Nat} {vy vn vl va vb : Value} {s : SI}
theorem Sol.to (h : Sol w0 W g N Ae ce es col vy vn vl va vb s) (hb : Below W.heap.size W W1:=by repeat (first|exact Below.refl _ _|apply qo|apply qd|apply qh)) : Sol w0 W1 g N Ae ce es col vy vn vl va vb s :=
 ⟨qx h.blk hb,h.ge,qy h.hb hb,h.he,h.hec,Kd.R_below h.ry hb,Kd.R_below h.rn hb,Kd.R_below h.rl hb,Kd.R_below h.ra hb,Kd.R_below h.rb hb⟩
theorem Sol.cells (h : Sol w0 W g N Ae ce es col vy vn vl va vb s) : W.cell? ⟨g,0,none⟩ = some (.int .i64 N) ∧ W.cell? ⟨g,1,none⟩ = some (.slice Ae es.length ce) ∧ W.cell? ⟨g,2,none⟩ = some vy ∧ W.cell? ⟨g,3,none⟩ = some vn ∧ W.cell? ⟨g,4,none⟩ = some vl ∧ W.cell? ⟨g,5,none⟩ = some va ∧ W.cell? ⟨g,6,none⟩ = some vb ∧ W.cell? ⟨g,7,none⟩ = some (.int .i64 s.rn) :=
 ⟨(qq h.blk 0).trans rfl,(qq h.blk 1).trans rfl,(qq h.blk 2).trans rfl,(qq h.blk 3).trans rfl,(qq h.blk 4).trans rfl,(qq h.blk 5).trans rfl,(qq h.blk 6).trans rfl,(qq h.blk 7).trans rfl⟩
theorem Sol.frz (h : Sol w0 W g N Ae ce es col vy vn vl va vb s) : W.frozen? ⟨g,2,none⟩ = false ∧ W.frozen? ⟨g,3,none⟩ = false ∧ W.frozen? ⟨g,4,none⟩ = false ∧ W.frozen? ⟨g,5,none⟩ = false ∧ W.frozen? ⟨g,6,none⟩ = false ∧ W.frozen? ⟨g,7,none⟩ = false :=
 ⟨qu h.blk 2,qu h.blk 3,qu h.blk 4,qu h.blk 5,qu h.blk 6,qu h.blk 7⟩
theorem Sol.fl {v : Value} {ys : List Int} (h : Sol w0 W g N Ae ce es col vy vn vl va vb s) (hv : Kd.R (Kd.int .i64) 3 W w0.heap.size (fun k=>col k = 3) v ys) : Sol w0 (W.setCell ⟨g,4,none⟩ v) g N Ae ce es col vy vn v va vb { s with lb:=ys } :=
 ⟨by simpa using be' h.blk 4 v,h.ge,qp h.hb h.ge,h.he,h.hec,Kd.R_set h.ry h.blk Te' _ _,Kd.R_set h.rn h.blk Fi' _ _,Kd.R_set hv h.blk Te' _ _,Kd.R_set h.ra h.blk Te' _ _,Kd.R_set h.rb h.blk Te' _ _⟩
theorem Sol.fa {v : Value} {ys : List Int} (h : Sol w0 W g N Ae ce es col vy vn vl va vb s) (hv : Kd.R (Kd.int .i64) 3 W w0.heap.size (fun k=>col k = 4) v ys) : Sol w0 (W.setCell ⟨g,5,none⟩ v) g N Ae ce es col vy vn vl v vb { s with ah:=ys } :=
 ⟨by simpa using be' h.blk 5 v,h.ge,qp h.hb h.ge,h.he,h.hec,Kd.R_set h.ry h.blk Te' _ _,Kd.R_set h.rn h.blk Fi' _ _,Kd.R_set h.rl h.blk Te' _ _,Kd.R_set hv h.blk Te' _ _,Kd.R_set h.rb h.blk Te' _ _⟩
theorem Sol.fb {v : Value} {ys : List Int} (h : Sol w0 W g N Ae ce es col vy vn vl va vb s) (hv : Kd.R (Kd.int .i64) 3 W w0.heap.size (fun k=>col k = 5) v ys) : Sol w0 (W.setCell ⟨g,6,none⟩ v) g N Ae ce es col vy vn vl va v { s with bk:=ys } :=
 ⟨by simpa using be' h.blk 6 v,h.ge,qp h.hb h.ge,h.he,h.hec,Kd.R_set h.ry h.blk Te' _ _,Kd.R_set h.rn h.blk Fi' _ _,Kd.R_set h.rl h.blk Te' _ _,Kd.R_set h.ra h.blk Te' _ _,Kd.R_set hv h.blk Te' _ _⟩
theorem Sol.fr (h : Sol w0 W g N Ae ce es col vy vn vl va vb s) (x : Int) : Sol w0 (W.setCell ⟨g,7,none⟩ (.int .i64 x)) g N Ae ce es col vy vn vl va vb { s with rn:=x } :=
 ⟨by simpa using be' h.blk 7 (.int .i64 x),h.ge,qp h.hb h.ge,h.he,h.hec,Kd.R_set h.ry h.blk Te' _ _,Kd.R_set h.rn h.blk Fi' _ _,Kd.R_set h.rl h.blk Te' _ _,Kd.R_set h.ra h.blk Te' _ _,Kd.R_set h.rb h.blk Te' _ _⟩
theorem Sol.recol {col' : Nat → Nat} (h : Sol w0 W g N Ae ce es col vy vn vl va vb s) (hc : ∀ k,k < W.heap.size → col' k = col k) : Sol w0 W g N Ae ce es col' vy vn vl va vb s:=by
 refine ⟨h.blk,h.ge,h.hb,h.he,h.hec,Kd.R_mono (Kd.R_bound h.ry) ?_,Kd.R_mono (Kd.R_bound h.rn) ?_,Kd.R_mono (Kd.R_bound h.rl) ?_,Kd.R_mono (Kd.R_bound h.ra) ?_,Kd.R_mono (Kd.R_bound h.rb) ?_⟩ <;> (rintro k ⟨h1,_,h2,_⟩;rw [hc k h2];exact h1)
theorem Oe' {b : Nat} {x : Value} {o : Nat} {t e : TypeId} {cs ds : Array Value} (hg : W.heap[g]? = some (.cells cs t (0,0))) (hb : W.heap[b]? = some (.cells ds e (0,0))) (ht : t ≠ e) : (W.setCell ⟨b,o,none⟩ x).heap[g]? = some (.cells cs t (0,0)) :=
 (Below.heap_setCell W ⟨b,o,none⟩ x g (sm' hg hb ht)).trans hg
theorem je' {α : Type} {d : Kd α} {e base b c c' o : Nat} {v x : Value} {xs : List α} (h : d.R e W base (fun k=>col k = c) v xs) (hb : col b = c') (hc : c ≠ c') : d.R e (W.setCell ⟨b,o,none⟩ x) base (fun k=>col k = c) v xs :=
 Kd.R_far (p:=⟨b,o,none⟩) h (fun k hk e=>hc (by rw [← hk,e];exact hb)) x
theorem row_blk {α : Type} {d : Kd α} {e base b n c : Nat} {ok : Nat → Prop} {xs : List α} (h : d.R e W base ok (.slice (some ⟨b,0,none⟩) n c) xs) : ∃ cells,W.heap[b]? = some (.cells cells e (0,0)):=Kd.R_typed h b rfl
theorem Sol.sy {b c : Nat} {n : Nat} (h : Sol w0 W g N Ae ce es col (.slice (some ⟨b,0,none⟩) n c) vn vl va vb s) (i : Int) (x : Int) : Sol w0 (W.setCell ⟨b,i.toNat,none⟩ (.int .i64 x)) g N Ae ce es col (.slice (some ⟨b,0,none⟩) n c) vn vl va vb { s with y:=s.y.set i.toNat x }:=by
 have hc : col b = 1:=h.ry.1 b rfl
 obtain ⟨ds,hd⟩:=row_blk h.ry
 exact ⟨Oe' h.blk hd ba',h.ge,qp h.hb (Kd.R_base h.ry b rfl),h.he,h.hec,Kd.R_putn h.ry i x,je' h.rn hc ba',je' h.rl hc ba',je' h.ra hc ba',je' h.rb hc ba'⟩
theorem Sol.sl {b c : Nat} {n : Nat} (h : Sol w0 W g N Ae ce es col vy vn (.slice (some ⟨b,0,none⟩) n c) va vb s) (i : Int) (x : Int) : Sol w0 (W.setCell ⟨b,i.toNat,none⟩ (.int .i64 x)) g N Ae ce es col vy vn (.slice (some ⟨b,0,none⟩) n c) va vb { s with lb:=s.lb.set i.toNat x }:=by
 have hc : col b = 3:=h.rl.1 b rfl
 obtain ⟨ds,hd⟩:=row_blk h.rl
 exact ⟨Oe' h.blk hd ba',h.ge,qp h.hb (Kd.R_base h.rl b rfl),h.he,h.hec,je' h.ry hc ba',je' h.rn hc ba',Kd.R_putn h.rl i x,je' h.ra hc ba',je' h.rb hc ba'⟩
theorem Sol.sa {b c : Nat} {n : Nat} (h : Sol w0 W g N Ae ce es col vy vn vl (.slice (some ⟨b,0,none⟩) n c) vb s) (i : Int) (x : Int) : Sol w0 (W.setCell ⟨b,i.toNat,none⟩ (.int .i64 x)) g N Ae ce es col vy vn vl (.slice (some ⟨b,0,none⟩) n c) vb { s with ah:=s.ah.set i.toNat x }:=by
 have hc : col b = 4:=h.ra.1 b rfl
 obtain ⟨ds,hd⟩:=row_blk h.ra
 exact ⟨Oe' h.blk hd ba',h.ge,qp h.hb (Kd.R_base h.ra b rfl),h.he,h.hec,je' h.ry hc ba',je' h.rn hc ba',je' h.rl hc ba',Kd.R_putn h.ra i x,je' h.rb hc ba'⟩
theorem Sol.sb {b c : Nat} {n : Nat} (h : Sol w0 W g N Ae ce es col vy vn vl va (.slice (some ⟨b,0,none⟩) n c) s) (i : Int) (x : Int) : Sol w0 (W.setCell ⟨b,i.toNat,none⟩ (.int .i64 x)) g N Ae ce es col vy vn vl va (.slice (some ⟨b,0,none⟩) n c) { s with bk:=s.bk.set i.toNat x }:=by
 have hc : col b = 5:=h.rb.1 b rfl
 obtain ⟨ds,hd⟩:=row_blk h.rb
 exact ⟨Oe' h.blk hd ba',h.ge,qp h.hb (Kd.R_base h.rb b rfl),h.he,h.hec,je' h.ry hc ba',je' h.rn hc ba',je' h.rl hc ba',je' h.ra hc ba',Kd.R_putn h.rb i x⟩
theorem Sol.sn {b c n : Nat} (h : Sol w0 W g N Ae ce es col vy (.slice (some ⟨b,0,none⟩) n c) vl va vb s) (i : Int) (h0 : 0 ≤ i) (h1 : i < s.nd.length) (j : Nat) (u : Value) (x' : S89) (hj : j < 7) (hx : ∀ v0 v1 : Value,[v0,v1,.int .i64 x'.f2,.int .i64 x'.f3,.int .i64 x'.f4,.int .i64 x'.f5,.bool x'.f6] = ([v0,v1,.int .i64 (td' s.nd i).f2,.int .i64 (td' s.nd i).f3,.int .i64 (td' s.nd i).f4,.int .i64 (td' s.nd i).f5,.bool (td' s.nd i).f6]).take j ++ [u] ++ ([v0,v1,.int .i64 (td' s.nd i).f2,.int .i64 (td' s.nd i).f3,.int .i64 (td' s.nd i).f4,.int .i64 (td' s.nd i).f5,.bool (td' s.nd i).f6]).drop (j + 1)) (hm : x'.f0 = (td' s.nd i).f0 ∧ x'.f1 = (td' s.nd i).f1) :
  Sol w0 (W.setCell ⟨b,i.toNat * 7 + j,none⟩ u) g N Ae ce es col vy (.slice (some ⟨b,0,none⟩) n c) vl va vb { s with nd:=s.nd.set i.toNat x' }:=by
 have hc : col b = 2:=h.rn.1 b rfl
 obtain ⟨ds,hd⟩:=row_blk h.rn
 have hn:=(Kd.R_reads' h.rn).1
 obtain ⟨cl,hcl,hM,hcc,hfr⟩:=Kd.R_elem h.rn z89 i h0 aa'
 have hM':=hM
 obtain ⟨v0,v1,e,g0,g1⟩:=Hl' hM
 have hr:=(Kd.R_seg h.rn i h0 aa' (seg:=[u]) (j:=j) (x':=x') (okp:=fun k=>col k = 2 ∧ k ≠ b) hcl hcc (by show j + 1 ≤ 7;omega) (by
  have:=pl' W w0.heap.size (fun k=>col k = 2 ∧ k ≠ b) x' (v0:=v0) (by rw [hm.1];exact g0) (v1:=v1) (by rw [hm.2];exact g1)
  rw [hx v0 v1] at this
  rw [e]
  exact this) (fun _ h=>h)).1
 exact ⟨Oe' h.blk hd ba',h.ge,qp h.hb (Kd.R_base h.rn b rfl),h.he,h.hec,je' h.ry hc ba',hr,je' h.rl hc ba',je' h.ra hc ba',je' h.rb hc ba'⟩
end
end Go.Proofs.YtnffimpoekjkpaaGreat.QFnExactSolve
