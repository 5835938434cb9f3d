/- PlaceTree: what both builders' walks carry: the box of the device, the cell of the result, what is below. -/
import Derived.Test.YtcnoccefdejphaaZFnTreesx24
namespace Go.Proofs.Ytcnoccefdejphaa.QFnTrees
open Go.RowKit Go.Proofs.YtcnoccefdejphaaW.PrintWords Go.Proofs.YtcnoccefdejphaaW.PrintLast Go.Proofs.YtcnoccefdejphaaW.PrintMore
set_option linter.unusedVariables false
set_option linter.unusedSimpArgs false
structure CB (w W : World) (g3 g6 : Nat) (a b : Value) : Prop where
 hb : Below w.heap.size w W
 b3 : W.heap[g3]? = some (.cells #[a,b] 32 (0,0))
 b6 : W.heap[g6]? = some (.cells #[.slice none 0 0,.slice none 0 0] 32 (0,0))
 ge6 : w.heap.size ≤ g6
 ne : g3 ≠ g6
section
variable {w W W1 : World} {g3 g6 g : Nat} {a b : Value}
theorem CB.to (h : CB w W g3 g6 a b) (hb : Below W.heap.size W W1:=by repeat (first|exact Below.refl _ _|apply qf|apply qa|apply qd)) : CB w W1 g3 g6 a b:=⟨qn h.hb hb,qm h.b3 hb,qm h.b6 hb,h.ge6,h.ne⟩
theorem CB.keep (h : CB w W g3 g6 a b) (hb : Below w.heap.size w W1) (hk : KeepBut W W1 g none) (h3 : g3 ≠ g) (h6 : g6 ≠ g) : CB w W1 g3 g6 a b:=⟨hb,KeepBut.blk hk h.b3 h3 (by simp),KeepBut.blk hk h.b6 h6 (by simp),h.ge6,h.ne⟩
theorem CB.grown {row : Option Nat} (h : CB w W g3 g6 a b) (hb : Below w.heap.size w W1) (hg : W.grownBy W1 row) (h3 : some g3 ≠ row) (h6 : some g6 ≠ row) : CB w W1 g3 g6 a b:=⟨hb,blk_grown h.b3 hg h3,blk_grown h.b6 hg h6,h.ge6,h.ne⟩
theorem CB.cells (h : CB w W g3 g6 a b) : W.cell? ⟨g3,0,none⟩ = some a ∧ W.cell? ⟨g3,1,none⟩ = some b ∧ W.cell? ⟨g6,0,none⟩ = some (.slice none 0 0) ∧ W.cell? ⟨g6,1,none⟩ = some (.slice none 0 0) ∧ W.frozen? ⟨g3,0,none⟩ = false ∧ W.frozen? ⟨g3,1,none⟩ = false ∧ W.frozen? ⟨g6,0,none⟩ = false ∧ W.frozen? ⟨g6,1,none⟩ = false :=
 ⟨(qh h.b3 0).trans rfl,(qh h.b3 1).trans rfl,(qh h.b6 0).trans rfl,(qh h.b6 1).trans rfl,qj h.b3 0,qj h.b3 1,qj h.b6 0,qj h.b6 1⟩
theorem CB.c {α : Type} {d : Kd α} {A : Option Addr} {n : Nat} {xs : List α} (h : CB w W g3 g6 a b) (hc : d.C w A n xs) : d.C W A n xs:=Kd.C_below hc h.hb
/-- What was stored into the result's cell. -/
theorem CB.put {u v : Value} (h : CB w W g3 g6 a b) : ((W.setCell ⟨g6,0,none⟩ u).setCell ⟨g6,1,none⟩ v).heap[g6]? = some (.cells #[u,v] 32 (0,0)):=by
 have e:=blk_put (blk_put h.b6 0 u rfl) 1 v rfl
 simpa using e
theorem CB.putB {u v : Value} (h : CB w W g3 g6 a b) : Below w.heap.size w ((W.setCell ⟨g6,0,none⟩ u).setCell ⟨g6,1,none⟩ v):=qg (qg h.hb h.ge6) h.ge6
theorem row_ne {α : Type} {d : Kd α} {e base : Nat} {ok : Nat → Prop} {v : Value} {xs : List α} {cs : Array Value} {t : TypeId} (h : d.R e W base ok v xs) (hb : W.heap[g]? = some (.cells cs t (0,0))) (ht : e ≠ t) : some g ≠ v.ownBlock:=Kd.R_ne h hb ht
end
section
variable {w0 W W1 : World} {g : Nat} {f0 : List ByteArray} {f1 : List (S96)} {f2 f3 f4 : List Int}
theorem IsP.below (h : IsP w0 W g f0 f1 f2 f3 f4) (hb : Below W.heap.size W W1:=by repeat (first|exact Below.refl _ _|apply qf|apply qa|apply qd)) : IsP w0 W1 g f0 f1 f2 f3 f4:=by
 obtain ⟨_,_,_,_,_,_,_,h⟩:=h
 exact ⟨_,_,_,_,_,_,_,h.below hb⟩
theorem IsP.grown {v : Value} (h : IsP w0 W g f0 f1 f2 f3 f4) (hty : ∀ k,v.ownBlock = some k → ∃ cells,W.heap[k]? = some (.cells cells 71 (0,0))) (hg : W.grownBy W1 v.ownBlock) : IsP w0 W1 g f0 f1 f2 f3 f4:=by
 obtain ⟨v0,v1,A2,c2,A3,c3,v4,h⟩:=h
 refine ⟨v0,v1,A2,c2,A3,c3,v4,blk_grown h.blk hg ?_,h.ge,Kd.R_over' h.r0 hty ?_ hg,Kd.R_over' h.r1 hty ?_ hg,h.r2,h.l2,h.r3,h.l3,Kd.R_over' h.r4 hty ?_ hg⟩
 ·intro e
  obtain ⟨cells,hc⟩:=hty g e.symm
  rw [h.blk] at hc
  injection hc with hc
  injection hc with _ ht
  revert ht
  decide
 ·intro q hq;obtain rfl : q = 9:=List.mem_singleton.1 hq;decide
 ·intro q hq;obtain rfl : q = 96:=List.mem_singleton.1 (show q ∈ ([96] : List Nat) from hq);decide
 intro q hq;obtain rfl : q = 3:=List.mem_singleton.1 hq;decide
theorem IsP.apart {α : Type} {d : Kd α} {e base : Nat} {ok : Nat → Prop} {v : Value} {xs : List α} (h : IsP w0 W g f0 f1 f2 f3 f4) (ho : d.R e W base ok v xs) (ht : ∀ q,q ∈ e :: d.E → q ≠ 82) : d.R e W base (fun k=>ok k ∧ k ≠ g) v xs:=by
 obtain ⟨_,_,_,_,_,_,_,h⟩:=h
 exact Kd.R_types ho h.blk ht
theorem IsP.apartS {α : Type} {d : Kd α} {e base : Nat} {ok : Nat → Prop} {v : Value} {xs : List α} (h : IsP w0 W g f0 f1 f2 f3 f4) (ho : d.S e W base ok v xs) (ht : ∀ q,q ∈ e :: d.E → q ≠ 82) : d.S e W base (fun k=>ok k ∧ k ≠ g) v xs:=by
 obtain ⟨_,_,_,_,_,_,_,h⟩:=h
 exact Kd.S_types ho h.blk ht
theorem IsP.ne {cs : Array Value} {a : Nat} (h : IsP w0 W g f0 f1 f2 f3 f4) (hb : W.heap[a]? = some (.cells cs 32 (0,0))) : a ≠ g:=by
 obtain ⟨_,_,_,_,_,_,_,h⟩:=h
 exact blk_ne hb h.blk (by decide)
theorem IsP.keepR {α : Type} {d : Kd α} {e base : Nat} {ok : Nat → Prop} {v : Value} {xs : List α} (h : IsP w0 W g f0 f1 f2 f3 f4) (hk : KeepBut W W1 g none) (ho : d.R e W base ok v xs) (ht : ∀ q,q ∈ e :: d.E → q ≠ 82) : d.R e W1 base ok v xs:=Kd.R_mono (Kd.R_keep (h.apart ho ht) hk (fun _ h=>h.2)) (fun _ h=>h.1)
theorem IsP.keepS {α : Type} {d : Kd α} {e base : Nat} {ok : Nat → Prop} {v : Value} {xs : List α} (h : IsP w0 W g f0 f1 f2 f3 f4) (hk : KeepBut W W1 g none) (ho : d.S e W base ok v xs) (ht : ∀ q,q ∈ e :: d.E → q ≠ 82) : d.S e W1 base ok v xs:=Kd.S_mono (Kd.S_keep (h.apartS ho ht) hk (fun _ h=>h.2)) (fun _ h=>h.1)
end
theorem e82_71 : ∀ q,q ∈ 71 :: k71.E → q ≠ 82:=by intro q hq;obtain rfl : q = 71:=List.mem_singleton.1 (show q ∈ ([71] : List Nat) from hq);decide
theorem e82_68 : ∀ q,q ∈ 68 :: (Kd.slice 71 k71).E → q ≠ 82:=by
 intro q hq
 have hq : q ∈ ([68,71] : List Nat):=hq
 simp only [List.mem_cons,List.not_mem_nil,or_false] at hq
 rcases hq with rfl|rfl <;> decide
/-- A group out of the groups: its place, and its row. -/
theorem grp_at {W : World} {base : Nat} {ok : Nat → Prop} {A : Option Addr} {c : Nat} {gs : List (List (S71))} (h : Kd.S (Kd.slice 71 k71) 68 W base ok (.slice A gs.length c) gs) (j : Nat) (hj : j < gs.length) : ∃ ad A1 c1,A = some ad ∧ W.cell? (ad.add j) = some (.slice A1 (rd_L6 gs (j : Int)).length c1) ∧ (rd_L6 gs (j : Int)).length ≤ c1 ∧ Kd.R k71 71 W base (fun k=>ok k ∧ some k ≠ (Value.slice A gs.length c).ownBlock) (.slice A1 (rd_L6 gs (j : Int)).length c1) (rd_L6 gs (j : Int)):=by
 obtain ⟨ad,A1,c1,rfl,hx,hl,hi⟩:=at_L6 (Kd.S_reads' h).2.2 (j : Int) (Int.natCast_nonneg j) (by omega)
 obtain ⟨ce,hce,hM,hcc⟩:=Kd.S_get h [] (j : Int) (Int.natCast_nonneg j) (by omega)
 obtain ⟨ve,rfl,ge⟩:=hM
 have hv:=hcc 0 _ rfl
 rw [Nat.add_zero,show ((Kd.slice 71 k71)).sz = 1 from rfl,Nat.mul_one] at hv
 have hv:=Option.some.inj (hv.symm.trans hx)
 rw [hv] at ge
 rw [Int.toNat_natCast] at hx
 exact ⟨ad,A1,c1,rfl,hx,hl,ge⟩
end Go.Proofs.Ytcnoccefdejphaa.QFnTrees
