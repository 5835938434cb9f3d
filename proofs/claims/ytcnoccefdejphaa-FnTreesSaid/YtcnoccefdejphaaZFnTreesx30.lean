/- impl's walker: a struct behind a pointer: its device came in, the map read so far and the sectors used are rows of its own. -/
import Derived.Test.YtcnoccefdejphaaZFnTreesx25
namespace Go.Proofs.Ytcnoccefdejphaa.QFnTrees
open Go.RowKit Go.Proofs.YtcnoccefdejphaaW.PrintWords Go.Proofs.YtcnoccefdejphaaW.PrintLast Go.Proofs.YtcnoccefdejphaaW.PrintMore
set_option linter.unusedVariables false
set_option linter.unusedSimpArgs false
structure StW (w0 W : World) (g : Nat) (d0 d1 vm vu : Value) (m : List (S69)) (u : List Int) (rd lf : Int) : Prop where
 blk : W.heap[g]? = some (.cells #[d0,d1,vm,vu,.int .i64 rd,.int .i64 lf] 99 (0,0))
 ge : w0.heap.size ≤ g
 hb : Below w0.heap.size w0 W
 rm : Kd.R k69 69 W w0.heap.size (fun _=>True) vm m
 ru : Kd.R (Kd.int .i64) 3 W w0.heap.size (fun _=>True) vu u
/-- All blocks are as they were, but the walker's and rows of pairs. -/
def Kw (w W : World) (g : Nat) : Prop:=Kept w W (fun k=>k = g ∨ ∃ cells,w.heap[k]? = some (.cells cells 69 (0,0)))
section
variable {w0 w W W1 : World} {g gp : Nat} {d0 d1 vm vu vi : Value} {m : List (S69)} {u : List Int} {rd lf kind : Int} {its : List (S71)}
theorem t99_69 : ∀ q,q ∈ 69 :: k69.E → q ≠ 99:=by intro q hq;obtain rfl : q = 69:=List.mem_singleton.1 (show q ∈ ([69] : List Nat) from hq);decide
theorem t99_3 : ∀ q,q ∈ 3 :: (Kd.int .i64).E → q ≠ 99:=by intro q hq;obtain rfl : q = 3:=List.mem_singleton.1 hq;decide
theorem t99_71 : ∀ q,q ∈ 71 :: k71.E → q ≠ 99:=by intro q hq;obtain rfl : q = 71:=List.mem_singleton.1 (show q ∈ ([71] : List Nat) from hq);decide
theorem t69_71 : ∀ q,q ∈ 71 :: k71.E → q ≠ 69:=by intro q hq;obtain rfl : q = 71:=List.mem_singleton.1 (show q ∈ ([71] : List Nat) from hq);decide
theorem StW.to (h : StW w0 W g d0 d1 vm vu m u rd lf) (hb : Below W.heap.size W W1:=by repeat (first|exact Below.refl _ _|apply qf|apply qa|apply qd)) : StW w0 W1 g d0 d1 vm vu m u rd lf :=
 ⟨qm h.blk hb,h.ge,qn h.hb hb,Kd.R_below h.rm hb,Kd.R_below h.ru hb⟩
theorem StW.set4 (h : StW w0 W g d0 d1 vm vu m u rd lf) (x : Int) : StW w0 (W.setCell ⟨g,4,none⟩ (.int .i64 x)) g d0 d1 vm vu m u x lf :=
 ⟨by simpa using blk_set h.blk 4 (.int .i64 x),h.ge,qg h.hb h.ge,Kd.R_set h.rm h.blk t99_69 _ _,Kd.R_set h.ru h.blk t99_3 _ _⟩
theorem StW.set5 (h : StW w0 W g d0 d1 vm vu m u rd lf) (x : Int) : StW w0 (W.setCell ⟨g,5,none⟩ (.int .i64 x)) g d0 d1 vm vu m u rd x :=
 ⟨by simpa using blk_set h.blk 5 (.int .i64 x),h.ge,qg h.hb h.ge,Kd.R_set h.rm h.blk t99_69 _ _,Kd.R_set h.ru h.blk t99_3 _ _⟩
theorem StW.set3 {v : Value} {ys : List Int} (h : StW w0 W g d0 d1 vm vu m u rd lf) (hv : Kd.R (Kd.int .i64) 3 W w0.heap.size (fun _=>True) v ys) : StW w0 (W.setCell ⟨g,3,none⟩ v) g d0 d1 vm v m ys rd lf :=
 ⟨by simpa using blk_set h.blk 3 v,h.ge,qg h.hb h.ge,Kd.R_set h.rm h.blk t99_69 _ _,Kd.R_set hv h.blk t99_3 _ _⟩
theorem StW.grown (h : StW w0 W g d0 d1 vm vu m u rd lf) (hg : W.grownBy W1 vm.ownBlock) : W1.heap[g]? = some (.cells #[d0,d1,vm,vu,.int .i64 rd,.int .i64 lf] 99 (0,0)):=blk_grown h.blk hg (Kd.R_ne h.rm h.blk (by decide))
/-- An append to the map, stored. -/
theorem StW.app {v : Value} {ys : List (S69)} (h : StW w0 W g d0 d1 vm vu m u rd lf) (hb : Below w0.heap.size w0 W1) (hg : W.grownBy W1 vm.ownBlock) (hv : Kd.R k69 69 W1 w0.heap.size (fun _=>True) v ys) : StW w0 (W1.setCell ⟨g,2,none⟩ v) g d0 d1 v vu ys u rd lf:=by
 have hty:=Kd.R_typed h.rm
 have hbk:=h.grown hg
 exact ⟨by simpa using blk_set hbk 2 v,h.ge,qg hb h.ge,Kd.R_set hv hbk t99_69 _ _,Kd.R_set (Kd.R_over' h.ru hty (by intro q hq;obtain rfl : q = 3:=List.mem_singleton.1 hq;decide) hg) hbk t99_3 _ _⟩
theorem Kw.refl (w : World) (g : Nat) : Kw w w g:=Kept.refl _ _
theorem Kw.to (h : Kw w W g) (hb : Below W.heap.size W W1:=by repeat (first|exact Below.refl _ _|apply qf|apply qa|apply qd)) : Kw w W1 g:=Kept.below h hb
theorem Kw.set (h : Kw w W g) (j : Nat) (x : Value) : Kw w (W.setCell ⟨g,j,none⟩ x) g:=Kept.setCell h (.inl (.inl rfl)) x
theorem Kw.trans (h : Kw w W g) (k : Kw W W1 g) : Kw w W1 g:=by
 refine Kept.then_ h k ?_
 rintro i (rfl|⟨cells,hc⟩)
 ·exact .inl (.inl rfl)
 by_cases hs : i < w.heap.size
 ·by_cases hn : i = g ∨ ∃ cells,w.heap[i]? = some (.cells cells 69 (0,0))
  ·exact .inl hn
  exact absurd (.inr ⟨cells,(h.2 i hs hn).symm.trans hc⟩) hn
 exact .inr (Nat.le_of_not_lt hs)
theorem Kw.app {base : Nat} {ok : Nat → Prop} (h1 : Kd.R k69 69 W base ok vm m) (hg : W.grownBy W1 vm.ownBlock) : Kw W W1 g :=
 ⟨hg.size,fun i hi hn=>hg.block i hi (fun e=>hn (.inr (Kd.R_typed h1 i e.symm)))⟩
theorem Kw.blk {a : Nat} {cs : Array Value} {t : TypeId} (h : Kw W W1 g) (hb : W.heap[a]? = some (.cells cs t (0,0))) (hg : a ≠ g) (ht : t ≠ 69:=by decide) : W1.heap[a]? = some (.cells cs t (0,0)):=by
 refine blk_kept hb h ?_
 rintro (e|⟨cells,hc⟩)
 ·exact hg e
 rw [hb] at hc
 injection hc with hc
 injection hc with _ h2
 exact ht h2
theorem Kw.row {α : Type} {d : Kd α} {e base : Nat} {v : Value} {xs : List α} {ok : Nat → Prop} {cs : Array Value} (h : Kw W W1 g) (hr : d.R e W base ok v xs) (hb : W.heap[g]? = some (.cells cs 99 (0,0))) (h9 : ∀ q,q ∈ e :: d.E → q ≠ 99) (h6 : ∀ q,q ∈ e :: d.E → q ≠ 69) : d.R e W1 base ok v xs:=by
 refine Kd.R_mono (Kd.R_kept (Kd.R_bound hr) h ?_) (fun _ h=>h.1)
 rintro k ⟨h1,_,_,q,hq,cells,hc⟩ (rfl|⟨cells',hc'⟩)
 ·rw [hb] at hc
  injection hc with hc
  injection hc with _ h2
  exact h9 q hq h2.symm
 rw [hc] at hc'
 injection hc' with hc'
 injection hc' with _ h2
 exact h6 q hq h2
/-- What the walk of a page carries: the walker, what is kept, the page's box and its items. -/
structure PgL (w0 w W : World) (g : Nat) (d0 d1 vm vu : Value) (m : List (S69)) (u : List Int) (rd lf : Int) (gp : Nat) (kind : Int) (vi : Value) (its : List (S71)) : Prop where
 s : StW w0 W g d0 d1 vm vu m u rd lf
 k : Kw w W g
 b : W.heap[gp]? = some (.cells #[.int .i64 kind,vi] 76 (0,0))
 r : Kd.R k71 71 W w0.heap.size (fun _=>True) vi its
theorem PgL.to (h : PgL w0 w W g d0 d1 vm vu m u rd lf gp kind vi its) (hb : Below W.heap.size W W1:=by repeat (first|exact Below.refl _ _|apply qf|apply qa|apply qd)) : PgL w0 w W1 g d0 d1 vm vu m u rd lf gp kind vi its :=
 ⟨h.s.to hb,h.k.to hb,qm h.b hb,Kd.R_below h.r hb⟩
theorem PgL.ne (h : PgL w0 w W g d0 d1 vm vu m u rd lf gp kind vi its) : gp ≠ g:=blk_ne h.b h.s.blk (by decide)
/-- Behind what changes the walker alone. -/
theorem PgL.by_ {vm' vu' : Value} {m' : List (S69)} {u' : List Int} {rd' lf' : Int} (h : PgL w0 w W g d0 d1 vm vu m u rd lf gp kind vi its) (hs : StW w0 W1 g d0 d1 vm' vu' m' u' rd' lf') (hk : Kw W W1 g) : PgL w0 w W1 g d0 d1 vm' vu' m' u' rd' lf' gp kind vi its :=
 ⟨hs,h.k.trans hk,hk.blk h.b h.ne,hk.row h.r h.s.blk t99_71 t69_71⟩
theorem StW.cells (h : StW w0 W g d0 d1 vm vu m u rd lf) : W.cell? ⟨g,0,none⟩ = some d0 ∧ W.cell? ⟨g,1,none⟩ = some d1 ∧ W.cell? ⟨g,2,none⟩ = some vm ∧ W.cell? ⟨g,3,none⟩ = some vu ∧ W.cell? ⟨g,4,none⟩ = some (.int .i64 rd) ∧ W.cell? ⟨g,5,none⟩ = some (.int .i64 lf) ∧ W.frozen? ⟨g,2,none⟩ = false ∧ W.frozen? ⟨g,3,none⟩ = false ∧ W.frozen? ⟨g,4,none⟩ = false ∧ W.frozen? ⟨g,5,none⟩ = false :=
 ⟨(qh h.blk 0).trans rfl,(qh h.blk 1).trans rfl,(qh h.blk 2).trans rfl,(qh h.blk 3).trans rfl,(qh h.blk 4).trans rfl,(qh h.blk 5).trans rfl,qj h.blk 2,qj h.blk 3,qj h.blk 4,qj h.blk 5⟩
theorem PgL.cells (h : PgL w0 w W g d0 d1 vm vu m u rd lf gp kind vi its) : W.cell? ⟨gp,0,none⟩ = some (.int .i64 kind) ∧ W.cell? ⟨gp,1,none⟩ = some vi:=⟨(qh h.b 0).trans rfl,(qh h.b 1).trans rfl⟩
end
end Go.Proofs.Ytcnoccefdejphaa.QFnTrees
