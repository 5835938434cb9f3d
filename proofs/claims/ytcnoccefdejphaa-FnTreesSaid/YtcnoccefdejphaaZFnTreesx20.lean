/- The reference's l05Place: what it puts on the device that it builds, walked by hand: the builder is a struct behind a pointer whose slices are its own rows. -/
import Derived.Test.YtcnoccefdejphaaZFnTreesx0
namespace Go.Proofs.Ytcnoccefdejphaa.QFnTrees
open Go.RowKit Go.Proofs.YtcnoccefdejphaaW.PrintWords Go.Proofs.YtcnoccefdejphaaW.PrintLast Go.Proofs.YtcnoccefdejphaaW.PrintMore
set_option linter.unusedVariables false
set_option linter.unusedSimpArgs false
/-- The builder at block g of W, with its slices' headers: its sectors, what is pending, what is free, what is used, whether it is bad; each slice a row of its own. -/
structure StV (w0 W : World) (g : Nat) (v0 v1 v2 v3 : Value) (f0 : List ByteArray) (f1 : List (S96)) (f2 : List Int) (f3 : List Int) (f4 : Bool) : Prop where
 blk : W.heap[g]? = some (.cells #[v0,v1,v2,v3,.bool f4] 67 (0,0))
 ge : w0.heap.size ≤ g
 r0 : Kd.R Kd.string 9 W w0.heap.size (fun _=>True) v0 f0
 r1 : Kd.R k96 96 W w0.heap.size (fun _=>True) v1 f1
 r2 : Kd.Q (Kd.int .i64) 3 W w0.heap.size (fun _=>True) v2 f2
 r3 : Kd.R (Kd.int .i64) 3 W w0.heap.size (fun _=>True) v3 f3
def IsS67 (w0 W : World) (g : Nat) (f0 : List ByteArray) (f1 : List (S96)) (f2 : List Int) (f3 : List Int) (f4 : Bool) : Prop:=∃ v0 v1 v2 v3 : Value,StV w0 W g v0 v1 v2 v3 f0 f1 f2 f3 f4
section
variable {w0 W W1 : World} {g : Nat} {f0 : List ByteArray} {f1 : List (S96)} {f2 f3 : List Int} {f4 : Bool}
theorem IsS67.grown {v : Value} {e : TypeId} (h : IsS67 w0 W g f0 f1 f2 f3 f4) (hw : W.grownBy W1 v.ownBlock) (hty : ∀ k,v.ownBlock = some k → ∃ cells,W.heap[k]? = some (.cells cells e (0,0))) (he : e ≠ 67 ∧ e ≠ 9 ∧ e ≠ 96 ∧ e ≠ 3) : IsS67 w0 W1 g f0 f1 f2 f3 f4:=by
 obtain ⟨v0,v1,v2,v3,hb,hg,h0,h1,h2,h3⟩:=h
 refine ⟨v0,v1,v2,v3,?_,hg,Kd.R_over' h0 hty ?_ hw,Kd.R_over' h1 hty ?_ hw,Kd.Q_over' h2 hty ?_ hw,Kd.R_over' h3 hty ?_ hw⟩
 ·rw [hw.block g (blk_lt hb) ?_]
  ·exact hb
  intro hr
  obtain ⟨cells,hc⟩:=hty g hr.symm
  rw [hb] at hc
  injection hc with hc
  injection hc with _ ht
  exact he.1 ht.symm
 ·intro q hq
  have : q = 9:=List.mem_singleton.1 (show q ∈ ([9] : List Nat) from hq)
  subst this
  exact fun h=>he.2.1 h.symm
 ·intro q hq
  have : q = 96:=List.mem_singleton.1 (show q ∈ ([96] : List Nat) from hq)
  subst this
  exact fun h=>he.2.2.1 h.symm
 ·intro q hq
  have : q = 3:=List.mem_singleton.1 (show q ∈ ([3] : List Nat) from hq)
  subst this
  exact fun h=>he.2.2.2 h.symm
 intro q hq
 have : q = 3:=List.mem_singleton.1 (show q ∈ ([3] : List Nat) from hq)
 subst this
 exact fun h=>he.2.2.2 h.symm
theorem IsS67.below (h : IsS67 w0 W g f0 f1 f2 f3 f4) (hw : Below W.heap.size W W1) : IsS67 w0 W1 g f0 f1 f2 f3 f4:=by
 obtain ⟨v0,v1,v2,v3,hb,hg,h0,h1,h2,h3⟩:=h
 exact ⟨v0,v1,v2,v3,qm hb hw,hg,Kd.R_below h0 hw,Kd.R_below h1 hw,Kd.Q_below h2 hw,Kd.R_below h3 hw⟩
theorem IsS67.alloc (h : IsS67 w0 W g f0 f1 f2 f3 f4) (o : Obj) : IsS67 w0 (W.alloc o) g f0 f1 f2 f3 f4:=h.below (qf (Below.refl _ _) o)
theorem IsS67.drewN (h : IsS67 w0 W g f0 f1 f2 f3 f4) (m : Nat) : IsS67 w0 (W.drewN m) g f0 f1 f2 f3 f4:=h.below (qa (Below.refl _ _) m)
theorem IsS67.drew (h : IsS67 w0 W g f0 f1 f2 f3 f4) : IsS67 w0 W.drew g f0 f1 f2 f3 f4:=h.below (below_drew (Below.refl _ _))
theorem IsS67.apart {α : Type} {d : Kd α} {e : Nat} {base : Nat} {ok : Nat → Prop} {v : Value} {xs : List α} (h : IsS67 w0 W g f0 f1 f2 f3 f4) (ho : d.R e W base ok v xs) (ht : ∀ q,q ∈ e :: d.E → q ≠ 67) : d.R e W base (fun k=>ok k ∧ k ≠ g) v xs:=by
 obtain ⟨v0,v1,v2,v3,hb,-⟩:=h
 exact Kd.R_types ho hb ht
theorem IsS67.apartS {α : Type} {d : Kd α} {e : Nat} {base : Nat} {ok : Nat → Prop} {v : Value} {xs : List α} (h : IsS67 w0 W g f0 f1 f2 f3 f4) (ho : d.S e W base ok v xs) (ht : ∀ q,q ∈ e :: d.E → q ≠ 67) : d.S e W base (fun k=>ok k ∧ k ≠ g) v xs:=by
 obtain ⟨v0,v1,v2,v3,hb,-⟩:=h
 exact Kd.S_types ho hb ht
theorem IsS67.lt (h : IsS67 w0 W g f0 f1 f2 f3 f4) : g < W.heap.size:=by
 obtain ⟨v0,v1,v2,v3,hb,-⟩:=h
 exact blk_lt hb
theorem IsS67.ge (h : IsS67 w0 W g f0 f1 f2 f3 f4) : w0.heap.size ≤ g:=by
 obtain ⟨v0,v1,v2,v3,hb,hg,-⟩:=h
 exact hg
theorem IsS67.ne_blk {a : Nat} {cs : Array Value} {t : TypeId} {fr : Nat × Nat} (h : IsS67 w0 W g f0 f1 f2 f3 f4) (hb2 : W.heap[a]? = some (.cells cs t fr)) (ht : t ≠ 67) : g ≠ a:=by
 obtain ⟨v0,v1,v2,v3,hb,-⟩:=h
 rintro rfl
 rw [hb] at hb2
 injection hb2 with hb2
 injection hb2 with _ ht2
 exact ht ht2.symm
theorem t67_9 : ∀ q,q ∈ 9 :: Kd.string.E → q ≠ 67:=by intro q hq;obtain rfl : q = 9:=List.mem_singleton.1 hq;decide
theorem t67_96 : ∀ q,q ∈ 96 :: k96.E → q ≠ 67:=by intro q hq;obtain rfl : q = 96:=List.mem_singleton.1 (show q ∈ ([96] : List Nat) from hq);decide
theorem t67_3 : ∀ q,q ∈ 3 :: (Kd.int .i64).E → q ≠ 67:=by intro q hq;obtain rfl : q = 3:=List.mem_singleton.1 hq;decide
theorem StV.below {v0 v1 v2 v3 : Value} (h : StV w0 W g v0 v1 v2 v3 f0 f1 f2 f3 f4) (hw : Below W.heap.size W W1) : StV w0 W1 g v0 v1 v2 v3 f0 f1 f2 f3 f4 :=
 ⟨qm h.blk hw,h.ge,Kd.R_below h.r0 hw,Kd.R_below h.r1 hw,Kd.Q_below h.r2 hw,Kd.R_below h.r3 hw⟩
theorem StV.alloc {v0 v1 v2 v3 : Value} (h : StV w0 W g v0 v1 v2 v3 f0 f1 f2 f3 f4) (o : Obj) : StV w0 (W.alloc o) g v0 v1 v2 v3 f0 f1 f2 f3 f4:=h.below (qf (Below.refl _ _) o)
theorem StV.drewN {v0 v1 v2 v3 : Value} (h : StV w0 W g v0 v1 v2 v3 f0 f1 f2 f3 f4) (m : Nat) : StV w0 (W.drewN m) g v0 v1 v2 v3 f0 f1 f2 f3 f4:=h.below (qa (Below.refl _ _) m)
theorem StV.drew {v0 v1 v2 v3 : Value} (h : StV w0 W g v0 v1 v2 v3 f0 f1 f2 f3 f4) : StV w0 W.drew g v0 v1 v2 v3 f0 f1 f2 f3 f4:=h.below (below_drew (Below.refl _ _))
theorem StV.set4 {v0 v1 v2 v3 : Value} (h : StV w0 W g v0 v1 v2 v3 f0 f1 f2 f3 f4) (x : Bool) : StV w0 (W.setCell ⟨g,4,none⟩ (.bool x)) g v0 v1 v2 v3 f0 f1 f2 f3 x :=
 ⟨by simpa using blk_set h.blk 4 (.bool x),h.ge,Kd.R_set h.r0 h.blk t67_9 _ _,Kd.R_set h.r1 h.blk t67_96 _ _,Kd.Q_set h.r2 h.blk t67_3 _ _,Kd.R_set h.r3 h.blk t67_3 _ _⟩
theorem StV.set3 {v0 v1 v2 v3 v : Value} {ys : List Int} (h : StV w0 W g v0 v1 v2 v3 f0 f1 f2 f3 f4) (hv : Kd.R (Kd.int .i64) 3 W w0.heap.size (fun _=>True) v ys) : StV w0 (W.setCell ⟨g,3,none⟩ v) g v0 v1 v2 v f0 f1 f2 ys f4 :=
 ⟨by simpa using blk_set h.blk 3 v,h.ge,Kd.R_set h.r0 h.blk t67_9 _ _,Kd.R_set h.r1 h.blk t67_96 _ _,Kd.Q_set h.r2 h.blk t67_3 _ _,Kd.R_set hv h.blk t67_3 _ _⟩
theorem StV.c0 {A : Option Addr} {n c : Nat} {v1 v2 v3 : Value} (h : StV w0 W g (.slice A n c) v1 v2 v3 f0 f1 f2 f3 f4) : Kd.C Kd.string W A f0.length f0:=(Kd.R_reads' h.r0).2.2
theorem StV.c1 {A : Option Addr} {n c : Nat} {v0 v2 v3 : Value} (h : StV w0 W g v0 (.slice A n c) v2 v3 f0 f1 f2 f3 f4) : Kd.C k96 W A f1.length f1:=(Kd.R_reads' h.r1).2.2
theorem StV.c2 {A : Option Addr} {n c : Nat} {v0 v1 v3 : Value} (h : StV w0 W g v0 v1 (.slice A n c) v3 f0 f1 f2 f3 f4) : Kd.C (Kd.int .i64) W A f2.length f2:=(Kd.Q_reads' h.r2).2.2
theorem StV.c3 {A : Option Addr} {n c : Nat} {v0 v1 v2 : Value} (h : StV w0 W g v0 v1 v2 (.slice A n c) f0 f1 f2 f3 f4) : Kd.C (Kd.int .i64) W A f3.length f3:=(Kd.R_reads' h.r3).2.2
theorem row_len {α : Type} {d : Kd α} {e base : Nat} {ok : Nat → Prop} {v : Value} {xs : List α} {W : World} (h : d.R e W base ok v xs) : xs.length ≤ 9223372036854775807:=by
 obtain ⟨inner,-,h1⟩:=Kd.R_own h
 rcases h1 with ⟨-,h2⟩|⟨g,cap,cur,-,-,-,h3,h4,-⟩
 ·omega
 simp only [maxLen] at h4
 omega
/-- All blocks are as they were, but the builder's and rows of what is pending. -/
def Kp (w W : World) (g : Nat) : Prop:=Kept w W (fun k=>k = g ∨ ∃ cells,w.heap[k]? = some (.cells cells 96 (0,0)))
/-- An append to the row of what is pending, behind steps that left all blocks but the builder's. -/
theorem Kp.app {w W W1 : World} {g : Nat} {v1 : Value} {base : Nat} {ok : Nat → Prop} {f1 : List (S96)} (hk : KeepBut w W g none) (h1 : Kd.R k96 96 w base ok v1 f1) (hg : W.grownBy W1 v1.ownBlock) : Kp w W1 g:=by
 refine ⟨Nat.le_trans hk.1 hg.size,fun i hi hn=>?_⟩
 rw [hg.block i (Nat.lt_of_lt_of_le hi hk.1) ?_]
 ·exact hk.2 i hi (fun e=>hn (.inl e)) (by simp)
 intro e
 exact hn (.inr (Kd.R_typed h1 i e.symm))
theorem Kp.set {w W : World} {g : Nat} (h : Kp w W g) (j : Nat) (u : Value) : Kp w (W.setCell ⟨g,j,none⟩ u) g:=Kept.setCell h (.inl (.inl rfl)) u
theorem Kp.below {w W W1 : World} {g : Nat} (h : Kp w W g) (hb : Below W.heap.size W W1) : Kp w W1 g:=Kept.below h hb
theorem keep_step {w W W1 : World} {g : Nat} (h : KeepBut w W g none) (hb : Below W.heap.size W W1) : KeepBut w W1 g none:=h.trans (KeepBut.of_below hb g none) (.inl rfl)
theorem Kp.blk {w W : World} {g g' : Nat} {cs : Array Value} {t : TypeId} (hk : Kp w W g) (hb : w.heap[g']? = some (.cells cs t (0,0))) (hg : g' ≠ g) (ht : t ≠ 96) : W.heap[g']? = some (.cells cs t (0,0)):=by
 rw [hk.2 g' (blk_lt hb) ?_]
 ·exact hb
 rintro (h|⟨cells,hc⟩)
 ·exact hg h
 rw [hb] at hc
 injection hc with hc
 injection hc with _ ht2
 exact ht ht2
end
/-- What a function with rounds comes to. -/
noncomputable def lim {α : Type} (f : Nat → Option α) : Option α := open Classical in if h : ∃ r, Ev f r then some (Classical.choose h) else none
theorem lim_ev {α : Type} {f : Nat → Option α} {r : α} (h : lim f = some r) : Ev f r:=by
 unfold lim at h
 split at h
 ·rename_i h'
  rw [← Option.some.inj h]
  exact Classical.choose_spec h'
 cases h
theorem ev_lim {α : Type} {f : Nat → Option α} {r : α} (h : Ev f r) : lim f = some r:=by
 have h' : ∃ r,Ev f r:=⟨r,h⟩
 unfold lim
 rw [dif_pos h']
 congr 1
 obtain ⟨K,hK⟩:=Classical.choose_spec h'
 obtain ⟨L,hL⟩:=h
 have e1:=hK (K + L) (by omega)
 have e2:=hL (K + L) (by omega)
 exact Option.some.inj (e1.symm.trans e2)
end Go.Proofs.Ytcnoccefdejphaa.QFnTrees
