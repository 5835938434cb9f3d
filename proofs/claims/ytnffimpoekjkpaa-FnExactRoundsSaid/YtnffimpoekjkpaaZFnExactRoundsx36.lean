/- The program's Rounds. -/
import Derived.Test.YtnffimpoekjkpaaZFnExactRoundsx35
import Derived.Test.YtnffimpoekjkpaaZFnExactRoundsx4
namespace Go.Proofs.Ytnffimpoekjkpaa.QFnExactRounds
open Go.RowKit Go.Proofs.YtnffimpoekjkpaaW.PrintWords Go.Proofs.YtnffimpoekjkpaaW.PrintLast Go.Proofs.YtnffimpoekjkpaaW.PrintMore
attribute [local go_sem] max2_int min2_int max_two min_two max_three min_three max_four min_four
set_option linter.unusedVariables false
set_option linter.unusedSimpArgs false
set_option maxHeartbeats 8000000 in
set_option maxRecDepth 100000 in
theorem impl_Rounds_no (w : World) (N : Int) (Ae : Option Addr) (ce : Nat) (es : List (S51)) (hC : Kd.C k51 w Ae es.length es) (hec : es.length ≤ ce) (k : Nat) (h : impl_GraphOk.f k N es = some false) :
  Calls Try.prog 7 #[.agg #[.int .i64 N,.slice Ae es.length ce]] w fun e w'=>e = .returned (.int .i64 (-1)) ∧ Below w.heap.size w w':=by
 have hu29:=Try.underlying29
 have HC:=qy.mk hC
 have HEC:=qy.mk hec
 have HG:=qy.mk h
 clear hC hec h
 go_enter Try.func7,Try.ntmps7
 go_upto_region 1 with fail
 have BX1 : qy ((w.alloc (.cells #[.int .i64 N,.slice Ae es.length ce] 29)).heap[w.heap.size]? = some (.cells #[.int .i64 N,.slice Ae es.length ce] 29 (0,0))):=⟨blk_new w _⟩
 have HB1 : qy (Below w.heap.size w (w.alloc (.cells #[.int .i64 N,.slice Ae es.length ce] 29))):=⟨qo (Below.refl _ _) _⟩
 generalize w.alloc (.cells #[.int .i64 N,.slice Ae es.length ce] 29) = W1 at *
 generalize hgb : w.heap.size = gb at BX1 ⊢
 have hb0 : W1.cell? ⟨gb,0,none⟩ = some (.int .i64 N):=(qq BX1.out 0).trans rfl
 have hb1 : W1.cell? ⟨gb,1,none⟩ = some (.slice Ae es.length ce):=(qq BX1.out 1).trans rfl
 go_wp2_with (first|(go_at_call 13;refine (impl_GraphOk.calls k N Ae ce es false W1 (Kd.C_below HC.out HB1.out) HEC.out HG.out).mono ?_;rintro e w2 ⟨rfl,hb⟩;have HB2:=qy.mk (qx HB1.out hb);clear hb))
 go_ret
 subst hgb
 exact ⟨rfl,HB2.out⟩
set_option maxHeartbeats 8000000 in
set_option maxRecDepth 100000 in
theorem impl_Rounds_yes (w : World) (N : Int) (Ae : Option Addr) (ce : Nat) (es : List (S51)) (hC : Kd.C k51 w Ae es.length es) (hec : es.length ≤ ce) (k : Nat) (h : impl_GraphOk.f k N es = some true) (hN : 0 ≤ N ∧ N ≤ 1000) (kr : Nat) (s' : SI) (hr : RunR N es kr (newI N es) s') :
  Calls Try.prog 7 #[.agg #[.int .i64 N,.slice Ae es.length ce]] w fun e w'=>e = .returned (.int .i64 s'.rn) ∧ Below w.heap.size w w':=by
 have hu29:=Try.underlying29
 have hu47:=Try.underlying47
 have HC:=qy.mk hC
 have HEC:=qy.mk hec
 have HG:=qy.mk h
 have HN:=qy.mk hN
 have HR:=qy.mk hr
 clear hC hec h hN hr
 go_enter Try.func7,Try.ntmps7
 go_upto_region 1 with fail
 have BX1 : qy ((w.alloc (.cells #[.int .i64 N,.slice Ae es.length ce] 29)).heap[w.heap.size]? = some (.cells #[.int .i64 N,.slice Ae es.length ce] 29 (0,0))):=⟨blk_new w _⟩
 have HB1 : qy (Below w.heap.size w (w.alloc (.cells #[.int .i64 N,.slice Ae es.length ce] 29))):=⟨qo (Below.refl _ _) _⟩
 generalize w.alloc (.cells #[.int .i64 N,.slice Ae es.length ce] 29) = W1 at *
 generalize hgb : w.heap.size = gb at BX1 ⊢
 have hb0 : W1.cell? ⟨gb,0,none⟩ = some (.int .i64 N):=(qq BX1.out 0).trans rfl
 have hb1 : W1.cell? ⟨gb,1,none⟩ = some (.slice Ae es.length ce):=(qq BX1.out 1).trans rfl
 go_upto_region 3 with (first|(go_at_call 13;refine (impl_GraphOk.calls k N Ae ce es true W1 (Kd.C_below HC.out HB1.out) HEC.out HG.out).mono ?_;rintro e w2 ⟨rfl,hb⟩;have BX2:=qy.mk (qw BX1.out (Below.mono hb (by have:=blk_lt BX1.out;omega)));have HB2:=qy.mk (qx HB1.out hb);clear hb))
 clear hb0 hb1
 subst hgb
 have hb0 : w2.cell? ⟨w.heap.size,0,none⟩ = some (.int .i64 N):=(qq BX2.out 0).trans rfl
 have hb1 : w2.cell? ⟨w.heap.size,1,none⟩ = some (.slice Ae es.length ce):=(qq BX2.out 1).trans rfl
 go_upto_region 5 with (first|(go_at_call 14;refine (newSolver_calls w2 N Ae ce es (Kd.C_below HC.out HB2.out) HEC.out HN.out).mono ?_;rintro e w3 ⟨g,col,vy,vn,vl,va,vb,rfl,hs⟩;have HS : qy (IsSol w2 w3 g N Ae ce es (newI N es)):=⟨⟨col,vy,vn,vl,va,vb,hs⟩⟩;clear hs)|(go_at_call 15;refine (run_calls HS.out HR.out).mono ?_;rintro e w4 ⟨rfl,col,vy,vn,vl,va,vb,hs⟩;have HS4:=qy.mk hs;clear hs))
 have hc7:=HS4.out.cells.2.2.2.2.2.2.2
 go_wp2_with fail
 go_ret
 exact ⟨rfl,qx HB2.out HS4.out.hb⟩
end Go.Proofs.Ytnffimpoekjkpaa.QFnExactRounds
