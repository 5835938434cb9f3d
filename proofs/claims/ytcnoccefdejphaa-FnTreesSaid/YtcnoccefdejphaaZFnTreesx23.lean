/- impl's placer: a struct behind a pointer: the device's slices are rows of its own, what is free came in, what is used is a row of its own. -/
import Derived.Test.YtcnoccefdejphaaZFnTreesx22
namespace Go.Proofs.Ytcnoccefdejphaa.QFnTrees
open Go.RowKit Go.Proofs.YtcnoccefdejphaaW.PrintWords Go.Proofs.YtcnoccefdejphaaW.PrintLast Go.Proofs.YtcnoccefdejphaaW.PrintMore
set_option linter.unusedVariables false
set_option linter.unusedSimpArgs false
structure StP (w0 W : World) (g : Nat) (v0 v1 : Value) (A2 : Option Addr) (c2 : Nat) (A3 : Option Addr) (c3 : Nat) (v4 : Value) (f0 : List ByteArray) (f1 : List (S96)) (f2 f3 f4 : List Int) : Prop where
 blk : W.heap[g]? = some (.cells #[v0,v1,.slice A2 f2.length c2,.slice A3 f3.length c3,v4] 82 (0,0))
 ge : w0.heap.size ≤ g
 r0 : Kd.R Kd.string 9 W w0.heap.size (fun _=>True) v0 f0
 r1 : Kd.R k96 96 W w0.heap.size (fun _=>True) v1 f1
 r2 : Kd.C (Kd.int .i64) w0 A2 f2.length f2
 l2 : f2.length ≤ c2
 r3 : Kd.C (Kd.int .i64) w0 A3 f3.length f3
 l3 : f3.length ≤ c3
 r4 : Kd.R (Kd.int .i64) 3 W w0.heap.size (fun _=>True) v4 f4
def IsP (w0 W : World) (g : Nat) (f0 : List ByteArray) (f1 : List (S96)) (f2 f3 f4 : List Int) : Prop:=∃ v0 v1 A2 c2 A3 c3 v4,StP w0 W g v0 v1 A2 c2 A3 c3 v4 f0 f1 f2 f3 f4
section
variable {w0 W W1 : World} {g : Nat} {v0 v1 v4 : Value} {A2 A3 : Option Addr} {c2 c3 : Nat} {f0 : List ByteArray} {f1 : List (S96)} {f2 f3 f4 : List Int}
theorem t82_9 : ∀ q,q ∈ 9 :: Kd.string.E → q ≠ 82:=by intro q hq;obtain rfl : q = 9:=List.mem_singleton.1 hq;decide
theorem t82_96 : ∀ q,q ∈ 96 :: k96.E → q ≠ 82:=by intro q hq;obtain rfl : q = 96:=List.mem_singleton.1 (show q ∈ ([96] : List Nat) from hq);decide
theorem t82_3 : ∀ q,q ∈ 3 :: (Kd.int .i64).E → q ≠ 82:=by intro q hq;obtain rfl : q = 3:=List.mem_singleton.1 hq;decide
theorem StP.below (h : StP w0 W g v0 v1 A2 c2 A3 c3 v4 f0 f1 f2 f3 f4) (hw : Below W.heap.size W W1) : StP w0 W1 g v0 v1 A2 c2 A3 c3 v4 f0 f1 f2 f3 f4 :=
 ⟨qm h.blk hw,h.ge,Kd.R_below h.r0 hw,Kd.R_below h.r1 hw,h.r2,h.l2,h.r3,h.l3,Kd.R_below h.r4 hw⟩
theorem StP.alloc (h : StP w0 W g v0 v1 A2 c2 A3 c3 v4 f0 f1 f2 f3 f4) (o : Obj) : StP w0 (W.alloc o) g v0 v1 A2 c2 A3 c3 v4 f0 f1 f2 f3 f4:=h.below (qf (Below.refl _ _) o)
theorem StP.drewN (h : StP w0 W g v0 v1 A2 c2 A3 c3 v4 f0 f1 f2 f3 f4) (m : Nat) : StP w0 (W.drewN m) g v0 v1 A2 c2 A3 c3 v4 f0 f1 f2 f3 f4:=h.below (qa (Below.refl _ _) m)
theorem StP.drew (h : StP w0 W g v0 v1 A2 c2 A3 c3 v4 f0 f1 f2 f3 f4) : StP w0 W.drew g v0 v1 A2 c2 A3 c3 v4 f0 f1 f2 f3 f4:=h.below (below_drew (Below.refl _ _))
theorem StP.set4 {v : Value} {ys : List Int} (h : StP w0 W g v0 v1 A2 c2 A3 c3 v4 f0 f1 f2 f3 f4) (hv : Kd.R (Kd.int .i64) 3 W w0.heap.size (fun _=>True) v ys) : StP w0 (W.setCell ⟨g,4,none⟩ v) g v0 v1 A2 c2 A3 c3 v f0 f1 f2 f3 ys :=
 ⟨by simpa using blk_set h.blk 4 v,h.ge,Kd.R_set h.r0 h.blk t82_9 _ _,Kd.R_set h.r1 h.blk t82_96 _ _,h.r2,h.l2,h.r3,h.l3,Kd.R_set hv h.blk t82_3 _ _⟩
theorem StP.set3 {A : Option Addr} {c : Nat} {ys : List Int} (h : StP w0 W g v0 v1 A2 c2 A3 c3 v4 f0 f1 f2 f3 f4) (hv : Kd.C (Kd.int .i64) w0 A ys.length ys) (hc : ys.length ≤ c) : StP w0 (W.setCell ⟨g,3,none⟩ (.slice A ys.length c)) g v0 v1 A2 c2 A c v4 f0 f1 f2 ys f4 :=
 ⟨by simpa using blk_set h.blk 3 (.slice A ys.length c),h.ge,Kd.R_set h.r0 h.blk t82_9 _ _,Kd.R_set h.r1 h.blk t82_96 _ _,h.r2,h.l2,hv,hc,Kd.R_set h.r4 h.blk t82_3 _ _⟩
theorem StP.set1 {v : Value} {ys : List (S96)} (h : StP w0 W g v0 v1 A2 c2 A3 c3 v4 f0 f1 f2 f3 f4) (hv : Kd.R k96 96 W w0.heap.size (fun _=>True) v ys) : StP w0 (W.setCell ⟨g,1,none⟩ v) g v0 v A2 c2 A3 c3 v4 f0 ys f2 f3 f4 :=
 ⟨by simpa using blk_set h.blk 1 v,h.ge,Kd.R_set h.r0 h.blk t82_9 _ _,Kd.R_set hv h.blk t82_96 _ _,h.r2,h.l2,h.r3,h.l3,Kd.R_set h.r4 h.blk t82_3 _ _⟩
theorem StP.set0 {v : Value} {ys : List ByteArray} (h : StP w0 W g v0 v1 A2 c2 A3 c3 v4 f0 f1 f2 f3 f4) (hv : Kd.R Kd.string 9 W w0.heap.size (fun _=>True) v ys) : StP w0 (W.setCell ⟨g,0,none⟩ v) g v v1 A2 c2 A3 c3 v4 ys f1 f2 f3 f4 :=
 ⟨by simpa using blk_set h.blk 0 v,h.ge,Kd.R_set hv h.blk t82_9 _ _,Kd.R_set h.r1 h.blk t82_96 _ _,h.r2,h.l2,h.r3,h.l3,Kd.R_set h.r4 h.blk t82_3 _ _⟩
/-- The three stores of a page that is written. -/
theorem StP.put {u0 u1 u4 : Value} {A : Option Addr} {c : Nat} {y0 : List ByteArray} {y1 : List (S96)} {y3 y4 : List Int} (h : StP w0 W g v0 v1 A2 c2 A3 c3 v4 f0 f1 f2 f3 f4) (h0 : Kd.R Kd.string 9 W w0.heap.size (fun _=>True) u0 y0) (h1 : Kd.R k96 96 W w0.heap.size (fun _=>True) u1 y1) (h3 : Kd.C (Kd.int .i64) w0 A y3.length y3) (hc : y3.length ≤ c) (h4 : Kd.R (Kd.int .i64) 3 W w0.heap.size (fun _=>True) u4 y4) :
  StP w0 ((((W.setCell ⟨g,0,none⟩ u0).setCell ⟨g,1,none⟩ u1).setCell ⟨g,3,none⟩ (.slice A y3.length c)).setCell ⟨g,4,none⟩ u4) g u0 u1 A2 c2 A c u4 y0 y1 f2 y3 y4:=by
 have e0:=h.set0 h0
 have e1:=e0.set1 (Kd.R_set h1 h.blk t82_96 0 u0)
 have e3:=e1.set3 h3 hc
 exact e3.set4 (Kd.R_set (Kd.R_set (Kd.R_set h4 h.blk t82_3 _ _) e0.blk t82_3 _ _) e1.blk t82_3 _ _)
theorem StP.c0 {A : Option Addr} {n c : Nat} (h : StP w0 W g (.slice A n c) v1 A2 c2 A3 c3 v4 f0 f1 f2 f3 f4) : Kd.C Kd.string W A f0.length f0:=(Kd.R_reads' h.r0).2.2
theorem StP.c1 {A : Option Addr} {n c : Nat} (h : StP w0 W g v0 (.slice A n c) A2 c2 A3 c3 v4 f0 f1 f2 f3 f4) : Kd.C k96 W A f1.length f1:=(Kd.R_reads' h.r1).2.2
theorem StP.c4 {A : Option Addr} {n c : Nat} (h : StP w0 W g v0 v1 A2 c2 A3 c3 (.slice A n c) f0 f1 f2 f3 f4) : Kd.C (Kd.int .i64) W A f4.length f4:=(Kd.R_reads' h.r4).2.2
/-- What impl.with answers is a row of the caller's own where what it was handed was one. -/
theorem RetW.own {w w' : World} {base : Nat} {A : Option Addr} {c : Nat} {l r : List Int} {v : Value} (h : RetW w' w.heap.size A c l v r) (hb : Below w.heap.size w w') (hr : Kd.R (Kd.int .i64) 3 w base (fun _=>True) (.slice A l.length c) l) (hl : base ≤ w.heap.size) : Kd.R (Kd.int .i64) 3 w' base (fun _=>True) v r:=by
 rcases h with ⟨rfl,rfl⟩|h
 ·exact Kd.R_below hr hb
 exact Kd.R_lower h hl
end
end Go.Proofs.Ytcnoccefdejphaa.QFnTrees
