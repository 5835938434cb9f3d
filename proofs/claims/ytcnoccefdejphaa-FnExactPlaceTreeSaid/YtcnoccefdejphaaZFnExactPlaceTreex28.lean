/- The law of PlaceTree: what its walk carries: the argument's box, the reference's answer, the copies handed to the program, the program's answer; each row in blocks of its own. -/
import Derived.Test.YtcnoccefdejphaaZFnExactPlaceTreex27
import Derived.Test.YtcnoccefdejphaaZFnExactPlaceTreex16
import Derived.Test.YtcnoccefdejphaaZFnExactPlaceTreex17
import Derived.Test.YtcnoccefdejphaaZFnExactPlaceTreex18
namespace Go.Proofs.Ytcnoccefdejphaa.QFnExactPlaceTree
open Go.RowKit Go.Proofs.YtcnoccefdejphaaW.PrintWords Go.Proofs.YtcnoccefdejphaaW.PrintLast Go.Proofs.YtcnoccefdejphaaW.PrintMore
set_option linter.unusedVariables false
set_option linter.unusedSimpArgs false
/-- What every step from W on may do without touching what is there. -/
abbrev Bl (W W1 : World) : Prop:=Below W.heap.size W W1
theorem row_kept {α : Type} {d : Kd α} {e base : Nat} {ok P : Nat → Prop} {v : Value} {xs : List α} {W W1 : World} (h : d.R e W base ok v xs) (hk : Kept W W1 P) (hd : ∀ k q,ok k → q ∈ e :: d.E → (∃ cells,W.heap[k]? = some (.cells cells q (0,0))) → ¬ P k) : d.R e W1 base ok v xs:=by
 refine Kd.R_mono (Kd.R_kept (Kd.R_bound h) hk ?_) (fun _ h=>h.1)
 rintro k ⟨h1,_,_,q,hq,hc⟩ hp
 exact hd k q h1 hq hc hp
theorem blk_kept {g : Nat} {cs : Array Value} {t : TypeId} {P : Nat → Prop} {W W1 : World} (hb : W.heap[g]? = some (.cells cs t (0,0))) (hk : Kept W W1 P) (hd : ∀ k,P k → ∃ q,q ≠ t ∧ ∃ cells,W.heap[k]? = some (.cells cells q (0,0))) : W1.heap[g]? = some (.cells cs t (0,0)):=by
 rw [hk.2 g (blk_lt hb) ?_]
 ·exact hb
 intro hp
 obtain ⟨q,hq,cells,hc⟩:=hd g hp
 rw [hb] at hc
 injection hc with hc
 injection hc with _ ht
 exact hq ht.symm
/-- The blocks of a row of these types, within a range. -/
def PT (W : World) (lo hi : Nat) (ts : List Nat) (k : Nat) : Prop:=(lo ≤ k ∧ k < hi) ∧ ∃ q,q ∈ ts ∧ ∃ cells,W.heap[k]? = some (.cells cells q (0,0))
theorem row_pt {α : Type} {d : Kd α} {e base lo hi : Nat} {v : Value} {xs : List α} {W : World} (h : d.R e W base (fun k=>lo ≤ k ∧ k < hi) v xs) : d.R e W base (PT W lo hi (e :: d.E)) v xs:=Kd.R_mono (Kd.R_bound h) (fun k hk=>⟨hk.1,hk.2.2.2⟩)
theorem row_rg' {α : Type} {d : Kd α} {e base : Nat} {v : Value} {xs : List α} {W W1 : World} {lo hi : Nat} (h : d.R e W1 W.heap.size (fun _=>True) v xs) (hb : base ≤ W.heap.size) (h1 : lo ≤ W.heap.size) (h2 : W1.heap.size ≤ hi) : d.R e W1 base (fun k=>lo ≤ k ∧ k < hi) v xs:=Kd.R_lower (Kd.R_mono (Kd.R_bound h) (fun k hk=>⟨Nat.le_trans h1 hk.2.1,Nat.lt_of_lt_of_le hk.2.2.1 h2⟩)) hb
structure L0 (w W : World) (g3 : Nat) (a b : Value) : Prop where
 hb : Below w.heap.size w W
 b3 : W.heap[g3]? = some (.cells #[a,b] 25 (0,0))
structure LV (base : Nat) (W : World) (g8 : Nat) (v0 v1 v3 : Value) (r1 : List ByteArray) (r2 : List (S96)) (r4 : List Int) (N1 : Nat) : Prop where
 b : W.heap[g8]? = some (.cells #[v0,v1] 32 (0,0))
 r0 : Kd.R Kd.string 9 W base (fun k=>0 ≤ k ∧ k < N1) v0 r1
 r1 : Kd.R k96 96 W base (fun k=>0 ≤ k ∧ k < N1) v1 r2
 r3 : Kd.R (Kd.int .i64) 3 W base (fun k=>0 ≤ k ∧ k < N1) v3 r4
 n : N1 ≤ W.heap.size
structure LG (base : Nat) (W : World) (g15 : Nat) (y0 y1 y2 : Value) (r1 : List ByteArray) (r2 : List (S96)) (r4 : List Int) (N4 N5 : Nat) : Prop where
 b : W.heap[g15]? = some (.cells #[y0,y1] 32 (0,0))
 r0 : Kd.R Kd.string 9 W base (fun k=>N4 ≤ k ∧ k < N5) y0 r1
 r1 : Kd.R k96 96 W base (fun k=>N4 ≤ k ∧ k < N5) y1 r2
 r2 : Kd.R (Kd.int .i64) 3 W base (fun k=>N4 ≤ k ∧ k < N5) y2 r4
 n : N5 ≤ W.heap.size
section
variable {w W W1 : World} {base g N1 N2 N3 N4 N5 : Nat} {a b v0 v1 v3 x0 x1 x2 x3 y0 y1 y2 : Value} {r1 D1 : List ByteArray} {r2 D2 : List (S96)} {r4 u : List Int} {M : List (S69)} {P : Nat → Prop}
theorem L0.to (h : L0 w W g a b) (hb : Bl W W1:=by repeat (first|exact Below.refl _ _|apply qf|apply qa|apply qd)) : L0 w W1 g a b:=⟨qn h.hb hb,qm h.b3 hb⟩
theorem LV.to (h : LV base W g v0 v1 v3 r1 r2 r4 N1) (hb : Bl W W1:=by repeat (first|exact Below.refl _ _|apply qf|apply qa|apply qd)) : LV base W1 g v0 v1 v3 r1 r2 r4 N1:=⟨qm h.b hb,Kd.R_below h.r0 hb,Kd.R_below h.r1 hb,Kd.R_below h.r3 hb,Nat.le_trans h.n hb.size⟩
theorem LG.to (h : LG base W g y0 y1 y2 r1 r2 r4 N4 N5) (hb : Bl W W1:=by repeat (first|exact Below.refl _ _|apply qf|apply qa|apply qd)) : LG base W1 g y0 y1 y2 r1 r2 r4 N4 N5:=⟨qm h.b hb,Kd.R_below h.r0 hb,Kd.R_below h.r1 hb,Kd.R_below h.r2 hb,Nat.le_trans h.n hb.size⟩
theorem two_cells {g : Nat} {t : TypeId} (h : W.heap[g]? = some (.cells #[a,b] t (0,0))) : W.cell? ⟨g,0,none⟩ = some a ∧ W.cell? ⟨g,1,none⟩ = some b ∧ W.frozen? ⟨g,0,none⟩ = false ∧ W.frozen? ⟨g,1,none⟩ = false:=⟨(qh h 0).trans rfl,(qh h 1).trans rfl,qj h 0,qj h 1⟩
theorem L0.c {α : Type} {d : Kd α} {A : Option Addr} {n : Nat} {xs : List α} (h : L0 w W g a b) (hc : d.C w A n xs) : d.C W A n xs:=Kd.C_below hc h.hb
/-- What a mark may touch is of a row's types. -/
def Rows (W : World) (P : Nat → Prop) : Prop:=∀ k,P k → ∃ q,(q ≠ 25 ∧ q ≠ 32) ∧ ∃ cells,W.heap[k]? = some (.cells cells q (0,0))
theorem L0.kept (h : L0 w W g a b) (hb : Below w.heap.size w W1) (hk : Kept W W1 P) (hP : Rows W P) : L0 w W1 g a b:=⟨hb,blk_kept h.b3 hk (fun k hp=>by obtain ⟨q,hq,hc⟩:=hP k hp;exact ⟨q,hq.1,hc⟩)⟩
theorem LV.kept (h : LV base W g v0 v1 v3 r1 r2 r4 N1) (hk : Kept W W1 P) (hP : Rows W P) (hr : ∀ k,P k → N1 ≤ k) : LV base W1 g v0 v1 v3 r1 r2 r4 N1 :=
 ⟨blk_kept h.b hk (fun k hp=>by obtain ⟨q,hq,hc⟩:=hP k hp;exact ⟨q,hq.2,hc⟩),row_kept h.r0 hk (fun k _ ho _ _ hp=>by have:=hr k hp;omega),row_kept h.r1 hk (fun k _ ho _ _ hp=>by have:=hr k hp;omega),row_kept h.r3 hk (fun k _ ho _ _ hp=>by have:=hr k hp;omega),Nat.le_trans h.n hk.1⟩
theorem LG.kept (h : LG base W g y0 y1 y2 r1 r2 r4 N4 N5) (hk : Kept W W1 P) (hP : Rows W P) (hr : ∀ k,P k → k < N4) : LG base W1 g y0 y1 y2 r1 r2 r4 N4 N5 :=
 ⟨blk_kept h.b hk (fun k hp=>by obtain ⟨q,hq,hc⟩:=hP k hp;exact ⟨q,hq.2,hc⟩),row_kept h.r0 hk (fun k _ ho _ _ hp=>by have:=hr k hp;omega),row_kept h.r1 hk (fun k _ ho _ _ hp=>by have:=hr k hp;omega),row_kept h.r2 hk (fun k _ ho _ _ hp=>by have:=hr k hp;omega),Nat.le_trans h.n hk.1⟩
theorem rows_pt {lo hi : Nat} {ts : List Nat} (ht : ∀ q,q ∈ ts → q ≠ 25 ∧ q ≠ 32) : Rows W (PT W lo hi ts):=by
 rintro k ⟨_,q,hq,hc⟩
 exact ⟨q,ht q hq,hc⟩
theorem rows_or {P Q : Nat → Prop} (h1 : Rows W P) (h2 : Rows W Q) : Rows W (fun k=>P k ∨ Q k):=by
 rintro k (h|h)
 ·exact h1 k h
 exact h2 k h
theorem ts9 : ∀ q,q ∈ 9 :: Kd.string.E → q ≠ 25 ∧ q ≠ 32:=by intro q hq;obtain rfl : q = 9:=List.mem_singleton.1 hq;decide
theorem ts96 : ∀ q,q ∈ 96 :: k96.E → q ≠ 25 ∧ q ≠ 32:=by intro q hq;obtain rfl : q = 96:=List.mem_singleton.1 (show q ∈ ([96] : List Nat) from hq);decide
theorem ts3 : ∀ q,q ∈ 3 :: (Kd.int .i64).E → q ≠ 25 ∧ q ≠ 32:=by intro q hq;obtain rfl : q = 3:=List.mem_singleton.1 hq;decide
theorem ts69 : ∀ q,q ∈ 69 :: k69.E → q ≠ 25 ∧ q ≠ 32:=by intro q hq;obtain rfl : q = 69:=List.mem_singleton.1 (show q ∈ ([69] : List Nat) from hq);decide
/-- A row of which a mark touches none by its types. -/
theorem row_ty {α : Type} {d : Kd α} {e base : Nat} {ok : Nat → Prop} {v : Value} {xs : List α} {W W1 : World} {P : Nat → Prop} (h : d.R e W base ok v xs) (hk : Kept W W1 P) (hd : ∀ k,P k → ∃ q,q ∉ e :: d.E ∧ ∃ cells,W.heap[k]? = some (.cells cells q (0,0))) : d.R e W1 base ok v xs :=
 row_kept h hk (fun k q _ hq hc hp=>by
  obtain ⟨cells,hc⟩:=hc
  obtain ⟨q',hq',cells',hc'⟩:=hd k hp
  rw [hc] at hc'
  injection hc' with hc'
  injection hc' with _ ht
  exact hq' (ht ▸ hq))
theorem pt_ty {W : World} {lo hi : Nat} {ts us : List Nat} (h : ∀ q,q ∈ ts → q ∉ us) : ∀ k,PT W lo hi ts k → ∃ q,q ∉ us ∧ ∃ cells,W.heap[k]? = some (.cells cells q (0,0)):=by
 rintro k ⟨_,q,hq,hc⟩
 exact ⟨q,h q hq,hc⟩
theorem or_ty {W : World} {P Q : Nat → Prop} {us : List Nat} (h1 : ∀ k,P k → ∃ q,q ∉ us ∧ ∃ cells,W.heap[k]? = some (.cells cells q (0,0))) (h2 : ∀ k,Q k → ∃ q,q ∉ us ∧ ∃ cells,W.heap[k]? = some (.cells cells q (0,0))) : ∀ k,P k ∨ Q k → ∃ q,q ∉ us ∧ ∃ cells,W.heap[k]? = some (.cells cells q (0,0)):=by
 rintro k (h|h)
 ·exact h1 k h
 exact h2 k h
theorem d9_3 : ∀ q,q ∈ 9 :: Kd.string.E → q ∉ 3 :: (Kd.int .i64).E:=by intro q hq;obtain rfl : q = 9:=List.mem_singleton.1 hq;decide
theorem d96_3 : ∀ q,q ∈ 96 :: k96.E → q ∉ 3 :: (Kd.int .i64).E:=by intro q hq;obtain rfl : q = 96:=List.mem_singleton.1 (show q ∈ ([96] : List Nat) from hq);decide
theorem d3_9 : ∀ q,q ∈ 3 :: (Kd.int .i64).E → q ∉ 9 :: Kd.string.E:=by intro q hq;obtain rfl : q = 3:=List.mem_singleton.1 hq;decide
theorem d3_96 : ∀ q,q ∈ 3 :: (Kd.int .i64).E → q ∉ 96 :: k96.E:=by intro q hq;obtain rfl : q = 3:=List.mem_singleton.1 hq;decide
/-- A row's blocks lie below the heap's size. -/
theorem row_all {α : Type} {d : Kd α} {e base : Nat} {ok : Nat → Prop} {v : Value} {xs : List α} {W : World} (h : d.R e W base ok v xs) : d.R e W base (fun k=>0 ≤ k ∧ k < W.heap.size) v xs:=Kd.R_mono (Kd.R_bound h) (fun k hk=>⟨Nat.zero_le _,hk.2.2.1⟩)
end
/-- What the law asks of Lean: the functions' answers, one behind another. -/
structure Main (l0 : List ByteArray) (p0 : List (S102)) (u : List Int) (m0 : List (S60)) (D1 : List ByteArray) (D2 : List (S96)) (M : List (S69)) (r1 : List ByteArray) (r2 : List (S96)) (r3 : Int) (r4 : List Int) (r5 : Bool) (a1 a2 a3 : Int) (X1 : List ByteArray) (X2 : List (S96)) (X3 : List Int) (X4 : List (S69)) (b1 b2 : Int) (Y1 : List ByteArray) (Y2 : List (S96)) (Y3 : List Int) : Prop where
 td : Ev (fun k=>laws_toDevice.f k l0 p0) (D1,D2)
 tu : Ev (fun k=>laws_toIntS.f k u) u
 tm : Ev (fun k=>laws_toPairS.f k m0) M
 sp : spec_tree.f D1 D2 u M = some (r1,r2,r3,r4,r5)
 im : impl_tree.f D1 D2 u M = some (r1,r2,r3,r4,r5)
 ed : Ev (fun k=>laws_eqDevice.f k r1 r2 r1 r2) true
 ei : Ev (fun k=>laws_eqIntS.f k r4 r4) true
 e0 : Ev (fun k=>laws_eqDevice.f k D1 D2 D1 D2) true
 eu : Ev (fun k=>laws_eqIntS.f k u u) true
 em : Ev (fun k=>laws_eqPairS.f k M M) true
 k1 : Ev (fun k=>laws_markDevice.f k D1 D2 1) (a1,X1,X2)
 k2 : Ev (fun k=>laws_markIntS.f k u a1) (a2,X3)
 k3 : Ev (fun k=>laws_markPairS.f k M a2) (a3,X4)
 n3 : ¬ a3 < 0
 m1 : Ev (fun k=>laws_markDevice.f k r1 r2 1) (b1,Y1,Y2)
 m2 : Ev (fun k=>laws_markIntS.f k r4 b1) (b2,Y3)
 h1 : Ev (fun k=>laws_heldDevice.f k Y1 Y2 1) b1
 h2 : Ev (fun k=>laws_heldIntS.f k Y3 b1) b2
 q1 : ¬ b1 < 0
 q2 : ¬ b2 < 0
/-- The ways of the law that answer true. -/
inductive LawOk (l0 : List ByteArray) (p0 : List (S102)) (u : List Int) (m0 : List (S60)) : Prop
 | long (h : (u.length : Int) > 1048576)
 | dev (h : ¬ (u.length : Int) > 1048576) (r : Int) (hr : Ev (fun k=>laws_szDevice.f k l0 p0 1048576) r) (hn : r < 0)
 | map (h : ¬ (u.length : Int) > 1048576) (r : Int) (hr : Ev (fun k=>laws_szDevice.f k l0 p0 1048576) r) (hn : ¬ r < 0) (r' : Int) (hr' : Ev (fun k=>laws_szPairS.f k m0 r) r') (hn' : r' < 0)
 | main (h : ¬ (u.length : Int) > 1048576) (r : Int) (hr : Ev (fun k=>laws_szDevice.f k l0 p0 1048576) r) (hn : ¬ r < 0) (r' : Int) (hr' : Ev (fun k=>laws_szPairS.f k m0 r) r') (hn' : ¬ r' < 0)
   (D1 : List ByteArray) (D2 : List (S96)) (M : List (S69)) (r1 : List ByteArray) (r2 : List (S96)) (r3 : Int) (r4 : List Int) (r5 : Bool) (a1 a2 a3 : Int) (X1 : List ByteArray) (X2 : List (S96)) (X3 : List Int) (X4 : List (S69)) (b1 b2 : Int) (Y1 : List ByteArray) (Y2 : List (S96)) (Y3 : List Int) (hm : Main l0 p0 u m0 D1 D2 M r1 r2 r3 r4 r5 a1 a2 a3 X1 X2 X3 X4 b1 b2 Y1 Y2 Y3)
end Go.Proofs.Ytcnoccefdejphaa.QFnExactPlaceTree
