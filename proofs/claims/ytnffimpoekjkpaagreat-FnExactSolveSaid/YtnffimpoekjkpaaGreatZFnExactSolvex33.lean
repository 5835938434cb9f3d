import Derived.Test.YtnffimpoekjkpaaGreatZFnExactSolvex32
import Derived.Test.YtnffimpoekjkpaaGreatZFnExactSolvex5g
set_option linter.all false
namespace Go.Proofs.YtnffimpoekjkpaaGreat.QFnExactSolve
open Go.RowKit Go.Proofs.YtnffimpoekjkpaaGreatW.PrintWords Go.Proofs.YtnffimpoekjkpaaGreatW.PrintLast Go.Proofs.YtnffimpoekjkpaaGreatW.PrintMore
section
variable {w0 W w1 : World} {g : Nat} {N : Int} {Ae : Option Addr} {ce : Nat} {es : List (S73)} {col col' : Nat → Nat} {vy vn vl va vb v1 : Value} {s : SI} {row : Option Nat} {b o : Nat} {ds : Array Value} {u : Value}
theorem Sol.grown (h : Sol w0 W g N Ae ce es col vy vn vl va vb s) (hb : Below w0.heap.size w0 w1) (hg : W.grownBy w1 row) (hne : some g ≠ row) (hc : ∀ k,row = some k → 6 ≤ col k) : Sol w0 w1 g N Ae ce es col vy vn vl va vb s:=by
 have hn : ∀ {c : Nat},c < 6 → ∀ k,col k = c → some k ≠ row:=fun hl k hk e=>by have:=hc k e.symm;omega
 exact ⟨le' h.blk hg hne,h.ge,hb,h.he,h.hec,Kd.R_grown h.ry hg (hn ba'),Kd.R_grown h.rn hg (hn ba'),Kd.R_grown h.rl hg (hn ba'),Kd.R_grown h.ra hg (hn ba'),Kd.R_grown h.rb hg (hn ba')⟩
theorem Sol.far (h : Sol w0 W g N Ae ce es col vy vn vl va vb s) (hd : W.heap[b]? = some (.cells ds 89 (0,0))) (hge : w0.heap.size ≤ b) (hc : 6 ≤ col b) : Sol w0 (W.setCell ⟨b,o,none⟩ u) g N Ae ce es col vy vn vl va vb s:=by
 have hn : ∀ {c : Nat},c < 6 → ∀ k,col k = c → k ≠ b:=fun hl k hk e=>by subst e;omega
 exact ⟨Oe' h.blk hd ba',h.ge,qp h.hb hge,h.he,h.hec,Kd.R_far (p:=⟨b,o,none⟩) h.ry (hn ba') u,Kd.R_far (p:=⟨b,o,none⟩) h.rn (hn ba') u,Kd.R_far (p:=⟨b,o,none⟩) h.rl (hn ba') u,Kd.R_far (p:=⟨b,o,none⟩) h.ra (hn ba') u,Kd.R_far (p:=⟨b,o,none⟩) h.rb (hn ba') u⟩
theorem Sol.mono (h : Sol w0 W g N Ae ce es col vy vn vl va vb s) (hc : ∀ k,col k < 6 → col' k = col k) : Sol w0 W g N Ae ce es col' vy vn vl va vb s:=by
 have hn : ∀ {c : Nat},c < 6 → ∀ k,col k = c → col' k = c:=fun hl k hk=>by rw [hc k aa'];exact hk
 exact ⟨h.blk,h.ge,h.hb,h.he,h.hec,Kd.R_mono h.ry (hn ba'),Kd.R_mono h.rn (hn ba'),Kd.R_mono h.rl (hn ba'),Kd.R_mono h.ra (hn ba'),Kd.R_mono h.rb (hn ba')⟩
end
structure Fd (w0 W : World) (g : Nat) (N : Int) (Ae : Option Addr) (ce : Nat) (es : List (S73)) (col : Nat → Nat) (vy vn vl va vb : Value) (s : SI) (gr : Nat) (vm vk : Value) (mem lk : List Int) (mt bs : Int) (vx vw : Value) (xs ws : List Int) : Prop where
 S : Sol w0 W g N Ae ce es col vy vn vl va vb s
 bx : W.heap[gr]? = some (.cells #[vm,vk,.int .i64 (-1),.int .i64 mt,.int .i64 bs,.int .i64 0,.bool false] 89 (0,0))
 cg : col gr = 8
 ge : w0.heap.size ≤ gr
 rm : Kd.R (Kd.int .i64) 3 W w0.heap.size (fun k=>col k = 6) vm mem
 rk : Kd.R (Kd.int .i64) 3 W w0.heap.size (fun k=>col k = 7) vk lk
 rx : Kd.R (Kd.int .i64) 3 W w0.heap.size (fun k=>col k = 9) vx xs
 rw : Kd.R (Kd.int .i64) 3 W w0.heap.size (fun k=>col k = 10) vw ws
section
variable {w0 W w1 : World} {g : Nat} {N : Int} {Ae : Option Addr} {ce : Nat} {es : List (S73)} {col : Nat → Nat} {vy vn vl va vb v1 : Value} {s : SI} {gr : Nat} {vm vk : Value} {mem lk ms : List Int} {mt bs : Int} {vx vw : Value} {xs ws : List Int}
theorem Fd.to (h : Fd w0 W g N Ae ce es col vy vn vl va vb s gr vm vk mem lk mt bs vx vw xs ws) (hb : Below W.heap.size W w1:=by repeat (first|exact Below.refl _ _|apply qo|apply qd|apply qh)) : Fd w0 w1 g N Ae ce es col vy vn vl va vb s gr vm vk mem lk mt bs vx vw xs ws :=
 ⟨h.S.to hb,qx h.bx hb,h.cg,h.ge,Kd.R_below h.rm hb,Kd.R_below h.rk hb,Kd.R_below h.rx hb,Kd.R_below h.rw hb⟩
theorem ve' {col' : Nat → Nat} {α : Type} {d : Kd α} {e base c : Nat} {v : Value} {xs : List α} (h : d.R e W base (fun k=>col k = c) v xs) (hc : ∀ k,k < W.heap.size → col' k = col k) : d.R e W base (fun k=>col' k = c) v xs :=
 Kd.R_mono (Kd.R_bound h) Qb'
theorem Fd.ahead (h : Fd w0 W g N Ae ce es col vy vn vl va vb s gr vm vk mem lk mt bs vx vw xs ws) (c : Nat) : Fd w0 W g N Ae ce es (fun k=>if W.heap.size ≤ k then c else col k) vy vn vl va vb s gr vm vk mem lk mt bs vx vw xs ws:=by
 have hc : ∀ k,k < W.heap.size → (if W.heap.size ≤ k then c else col k) = col k:=fun k hk=>by rw [if_neg aa']
 exact ⟨h.S.recol hc,h.bx,(hc gr (ke' h.bx)).trans h.cg,h.ge,ve' h.rm hc,ve' h.rk hc,ve' h.rx hc,ve' h.rw hc⟩
theorem Fd.cells (h : Fd w0 W g N Ae ce es col vy vn vl va vb s gr vm vk mem lk mt bs vx vw xs ws) : W.cell? ⟨gr,0,none⟩ = some vm ∧ W.cell? ⟨gr,1,none⟩ = some vk ∧ W.cell? ⟨gr,2,none⟩ = some (.int .i64 (-1)) ∧ W.cell? ⟨gr,3,none⟩ = some (.int .i64 mt) ∧ W.cell? ⟨gr,4,none⟩ = some (.int .i64 bs) ∧ W.cell? ⟨gr,5,none⟩ = some (.int .i64 0) ∧ W.cell? ⟨gr,6,none⟩ = some (.bool false) ∧ W.frozen? ⟨gr,0,none⟩ = false ∧ W.frozen? ⟨gr,1,none⟩ = false :=
 ⟨(qq h.bx 0).trans rfl,(qq h.bx 1).trans rfl,(qq h.bx 2).trans rfl,(qq h.bx 3).trans rfl,(qq h.bx 4).trans rfl,(qq h.bx 5).trans rfl,(qq h.bx 6).trans rfl,qu h.bx 0,qu h.bx 1⟩
theorem Fd.app_m (h : Fd w0 W g N Ae ce es col vy vn vl va vb s gr vm vk mem lk mt bs vx vw xs ws) (ho : Kd.R (Kd.int .i64) 3 w1 w0.heap.size (fun k=>col k = 6) v1 ms) (hb : Below w0.heap.size w0 w1) (hg : W.grownBy w1 vm.ownBlock) :
  Fd w0 (w1.setCell ⟨gr,0,none⟩ v1) g N Ae ce es col vy vn vl va vb s gr v1 vk ms lk mt bs vx vw xs ws ∧ w1.cell? ⟨gr,0,none⟩ = some vm ∧ w1.frozen? ⟨gr,0,none⟩ = false:=by
 have b1:=le' h.bx hg (Kd.R_ne h.rm h.bx ba')
 have s1:=h.S.grown hb hg (Kd.R_ne h.rm h.S.blk ba') (fun k hk=>by have:=h.rm.1 k hk;omega)
 have hne : ∀ {c : Nat},c ≠ 6 → ∀ k,col k = c → some k ≠ vm.ownBlock:=fun hc k hk e=>hc (by rw [← hk];exact h.rm.1 k e.symm)
 have hn8 : ∀ {c : Nat},c ≠ 8 → ∀ k,col k = c → k ≠ gr:=fun hc k hk e=>hc (by rw [← hk,e];exact h.cg)
 exact ⟨⟨s1.far b1 h.ge (by rw [h.cg];decide),by simpa using be' b1 0 v1,h.cg,h.ge,Kd.R_far (p:=⟨gr,0,none⟩) ho (hn8 ba') v1,Kd.R_far (p:=⟨gr,0,none⟩) (Kd.R_grown h.rk hg (hne ba')) (hn8 ba') v1,Kd.R_far (p:=⟨gr,0,none⟩) (Kd.R_grown h.rx hg (hne ba')) (hn8 ba') v1,Kd.R_far (p:=⟨gr,0,none⟩) (Kd.R_grown h.rw hg (hne ba')) (hn8 ba') v1⟩,(qq b1 0).trans rfl,qu b1 0⟩
theorem Fd.app_k (h : Fd w0 W g N Ae ce es col vy vn vl va vb s gr vm vk mem lk mt bs vx vw xs ws) (ho : Kd.R (Kd.int .i64) 3 w1 w0.heap.size (fun k=>col k = 7) v1 ms) (hb : Below w0.heap.size w0 w1) (hg : W.grownBy w1 vk.ownBlock) :
  Fd w0 (w1.setCell ⟨gr,1,none⟩ v1) g N Ae ce es col vy vn vl va vb s gr vm v1 mem ms mt bs vx vw xs ws ∧ w1.cell? ⟨gr,1,none⟩ = some vk ∧ w1.frozen? ⟨gr,1,none⟩ = false:=by
 have b1:=le' h.bx hg (Kd.R_ne h.rk h.bx ba')
 have s1:=h.S.grown hb hg (Kd.R_ne h.rk h.S.blk ba') (fun k hk=>by have:=h.rk.1 k hk;omega)
 have hne : ∀ {c : Nat},c ≠ 7 → ∀ k,col k = c → some k ≠ vk.ownBlock:=fun hc k hk e=>hc (by rw [← hk];exact h.rk.1 k e.symm)
 have hn8 : ∀ {c : Nat},c ≠ 8 → ∀ k,col k = c → k ≠ gr:=fun hc k hk e=>hc (by rw [← hk,e];exact h.cg)
 exact ⟨⟨s1.far b1 h.ge (by rw [h.cg];decide),by simpa using be' b1 1 v1,h.cg,h.ge,Kd.R_far (p:=⟨gr,1,none⟩) (Kd.R_grown h.rm hg (hne ba')) (hn8 ba') v1,Kd.R_far (p:=⟨gr,1,none⟩) ho (hn8 ba') v1,Kd.R_far (p:=⟨gr,1,none⟩) (Kd.R_grown h.rx hg (hne ba')) (hn8 ba') v1,Kd.R_far (p:=⟨gr,1,none⟩) (Kd.R_grown h.rw hg (hne ba')) (hn8 ba') v1⟩,(qq b1 1).trans rfl,qu b1 1⟩
theorem Fd.sn {b c n : Nat} (h : Fd w0 W g N Ae ce es col vy (.slice (some ⟨b,0,none⟩) n c) vl va vb s gr vm vk mem lk mt bs vx vw xs ws) {u : Value} {o : Nat} {s' : SI} (hS : Sol w0 (W.setCell ⟨b,o,none⟩ u) g N Ae ce es col vy (.slice (some ⟨b,0,none⟩) n c) vl va vb s') : Fd w0 (W.setCell ⟨b,o,none⟩ u) g N Ae ce es col vy (.slice (some ⟨b,0,none⟩) n c) vl va vb s' gr vm vk mem lk mt bs vx vw xs ws:=by
 have hc : col b = 2:=h.S.rn.1 b rfl
 have hn : ∀ {c : Nat},c ≠ 2 → ∀ k,col k = c → k ≠ b:=fun hl k hk e=>hl (by rw [← hk,e];exact hc)
 exact ⟨hS,(Below.heap_setCell W ⟨b,o,none⟩ u gr (hn ba' gr h.cg)).trans h.bx,h.cg,h.ge,Kd.R_far (p:=⟨b,o,none⟩) h.rm (hn ba') u,Kd.R_far (p:=⟨b,o,none⟩) h.rk (hn ba') u,Kd.R_far (p:=⟨b,o,none⟩) h.rx (hn ba') u,Kd.R_far (p:=⟨b,o,none⟩) h.rw (hn ba') u⟩
theorem Fd.join (h : Fd w0 W g N Ae ce es col vy vn vl va vb s gr vm vk mem lk mt bs vx vw xs ws) : ∃ col',Sol w0 W g N Ae ce es col' vy vn vl va vb s ∧ (∀ k,W.heap.size ≤ k → col' k = 2) ∧ Kd.R (Kd.int .i64) 3 W w0.heap.size (fun k=>col' k = 2 ∧ some k ≠ vn.ownBlock) vm mem ∧ Kd.R (Kd.int .i64) 3 W w0.heap.size (fun k=>col' k = 2 ∧ some k ≠ vn.ownBlock) vk lk:=by
 have hn : ∀ {c : Nat},c ≠ 2 → ∀ k,col k = c → some k ≠ vn.ownBlock:=fun hl k hk e=>hl (by rw [← hk];exact h.S.rn.1 k e.symm)
 refine ⟨fun k=>if W.heap.size ≤ k then 2 else if col k < 6 then col k else 2,(h.S.mono (col':=fun k=>if col k < 6 then col k else 2) (fun k hk=>if_pos hk)).ahead 2,fun k hk=>if_pos hk,Kd.R_mono (Kd.R_bound h.rm) ?_,Kd.R_mono (Kd.R_bound h.rk) ?_⟩ <;>
 ·rintro k ⟨h1,_,h2,_⟩
  exact ⟨by dsimp only;rw [if_neg aa',if_neg aa'],hn ba' k h1⟩
end
end Go.Proofs.YtnffimpoekjkpaaGreat.QFnExactSolve
