/- How every pairing is gone through (impl.every), with the closure that counts or keeps the best: by contracts; the world changes in the captured variable's block alone. -/
import Derived.Test.YtfmemcffbfahhaaZFnExactBestSumsx5
import Derived.RegionTactic
import Derived.BigRegion
import Derived.RegionCalls
import Derived.ChangeAlike
import Derived.OneCell
import Derived.OwnWalk
import Derived.Outline
namespace Go.Proofs.Ytfmemcffbfahhaa.QFnExactBestSums
open Go.RowKit Go.Proofs.YtfmemcffbfahhaaW.PrintWords Go.Proofs.YtfmemcffbfahhaaW.PrintLast Go.Proofs.YtfmemcffbfahhaaW.PrintMore
set_option linter.unusedVariables false
set_option linter.unusedSimpArgs false

/-- The mask of an edge's two ends. -/
def bothM (e : S36) : Int:=Go.bits .or .i64 (wrap64 (2 ^ min e.f0.toNat 64)) (wrap64 (2 ^ min e.f1.toNat 64))
def plus3 (s : Int × Int × Int) (e : S36) : Int × Int × Int:=(wrap64 (s.1 + e.f2),wrap64 (s.2.1 + e.f3),wrap64 (s.2.2 + e.f4))
/-- What is told of all pairings that go on from here. -/
def evG {α : Type} (step : Int × Int × Int → α → α) : List S36 → Int → Int × Int × Int → α → α
  | [],_,s,x=>step s x
  | e :: E,m,s,x=>if Go.bits .and .i64 m (bothM e) = 0 then evG step E (Go.bits .or .i64 m (bothM e)) (plus3 s e) (evG step E m s x) else evG step E m s x

theorem new_ (w : World) (o : Obj) : (w.alloc o).heap[w.heap.size]? = some o:=heap_alloc_new w o
theorem new2_ (w : World) (o o' : Obj) : ((w.alloc o).alloc o').heap[w.heap.size + 1]? = some o':=by
  have:=new_ (w.alloc o) o'
  rwa [show (w.alloc o).heap.size = w.heap.size + 1 from by simp] at this
theorem grown_set (w : World) (p i : Nat) (u : Value) : w.grownBy (w.setCell ⟨p,i,none⟩ u) (some p) :=
  ⟨rfl,rfl,rfl,by simp [World.setCell],fun k hk hne=>Below.heap_setCell w ⟨p,i,none⟩ u k (fun e=>hne (by rw [e]))⟩
abbrev encB (x : Int × Int × Int) : Array Value:=#[.int .i64 x.1,.int .i64 x.2.1,.int .i64 x.2.2]
/-- Whether sums are better than others (as impl.Better says). -/
def better3 (s x : Int × Int × Int) : Bool:=if s.1 = x.1 then (if s.2.1 = x.2.1 then decide (s.2.2 > x.2.2) else decide (s.2.1 > x.2.1)) else decide (s.1 > x.1)
def bstep (s x : Int × Int × Int) : Int × Int × Int:=if better3 s x = true then s else x
def impl_Better.f (a0_0 : Int) (a0_1 : Int) (a0_2 : Int) (a1_0 : Int) (a1_1 : Int) (a1_2 : Int) : Option (Bool):=if a0_0 = a1_0 then (if a0_1 = a1_1 then (some (decide (a0_2 > a1_2))) else (some (decide (a0_1 > a1_1)))) else (some (decide (a0_0 > a1_0)))
set_option maxHeartbeats 8000000 in
set_option maxRecDepth 100000 in
theorem impl_Better.calls (a0_0 : Int) (a0_1 : Int) (a0_2 : Int) (a1_0 : Int) (a1_1 : Int) (a1_2 : Int) (r : Bool) (w : World) (h : impl_Better.f a0_0 a0_1 a0_2 a1_0 a1_1 a1_2 = some r) :
    Calls Try.prog 43 #[.agg #[.int .i64 a0_0,.int .i64 a0_1,.int .i64 a0_2],.agg #[.int .i64 a1_0,.int .i64 a1_1,.int .i64 a1_2]] w fun e w'=>e = .returned (.bool r) ∧ Below w.heap.size w w':=by
  have hu72:=Try.underlying72
  have HB:=qn.mk (Below.refl w.heap.size w)
  have H : (if a0_0 = a1_0 then (if a0_1 = a1_1 then (some (decide (a0_2 > a1_2))) else (some (decide (a0_1 > a1_1)))) else (some (decide (a0_0 > a1_0)))) = some r:=h
  clear h
  by_cases c3 : a0_0 = a1_0
  · rw [if_pos c3] at H
    have c3b0 : (a0_0 == a1_0) = true:=beq_iff_eq.mpr c3
    have c3b1 : (a0_0 != a1_0) = false:=bne_eq_false_iff_eq.mpr c3
    clear c3
    by_cases c4 : a0_1 = a1_1
    · rw [if_pos c4] at H
      have c4b0 : (a0_1 == a1_1) = true:=beq_iff_eq.mpr c4
      have c4b1 : (a0_1 != a1_1) = false:=bne_eq_false_iff_eq.mpr c4
      clear c4
      obtain rfl:=Option.some.inj H
      go_enter Try.func43,Try.ntmps43
      go_wp2_with (first|((with_reducible refine gate_dst (N:=2) rfl ?_);refine box_event ?hg (N:=2) ?hd (cs:=#[.int .i64 a0_0,.int .i64 a0_1,.int .i64 a0_2]) (t:=72) ?hr ?_;(case hd=>rfl);(case hg=>rfl);(case hr=>first|(go_simp;done)|(go_simp;rfl));intro gb106 hg w5 hbox hb;have n0_:=hs_ HB hb;have n1_:=qn.mk (hbox);have n2_:=qn.mk ((by rw [hg];exact (qj (by repeat (first|(with_reducible first|exact HB.out|apply qf|apply qa|apply qd)|exact HB.out))) : w.heap.size ≤ gb106));have n3_:=qn.mk ((by rw [hg];exact (qj (by repeat (first|(with_reducible first|exact HB.out|apply qf|apply qa|apply qd)|exact HB.out))) : w.heap.size ≤ gb106));clear HB;have HB:=n0_;have BK106:=n1_;have GW106:=n2_;have GE106:=n3_;clear n0_ n1_ n2_ n3_;clear hb hbox hg)|((with_reducible refine gate_dst (N:=3) rfl ?_);refine box_event ?hg (N:=3) ?hd (cs:=#[.int .i64 a1_0,.int .i64 a1_1,.int .i64 a1_2]) (t:=72) ?hr ?_;(case hd=>rfl);(case hg=>rfl);(case hr=>first|(go_simp;done)|(go_simp;rfl));intro gb107 hg w6 hbox hb;have n0_:=bb_ BK106 hb;have n1_:=hs_ HB hb;have n2_:=qn.mk (hbox);have n3_:=qn.mk ((by rw [hg];exact (qj (by repeat (first|(with_reducible first|exact HB.out|apply qf|apply qa|apply qd|refine qg ?_ GE106.out)|exact HB.out))) : w.heap.size ≤ gb107));have n4_:=qn.mk ((by rw [hg];exact (qj (by repeat (first|(with_reducible first|exact HB.out|apply qf|apply qa|apply qd|refine qg ?_ GE106.out)|exact HB.out))) : w.heap.size ≤ gb107));have n5_:=qn.mk ((by rw [hg];exact nl_ BK106 : gb106 ≠ gb107));have n6_:=qn.mk ((by rw [hg];exact ng_ BK106 : gb107 ≠ gb106));clear BK106;clear HB;have BK106:=n0_;have HB:=n1_;have BK107:=n2_;have GW107:=n3_;have GE107:=n4_;have NB106_107:=n5_;have NB107_106:=n6_;clear n0_ n1_ n2_ n3_ n4_ n5_ n6_;clear hb hbox hg;have hnb7:=NB106_107.out;have hnc7:=NB107_106.out;have hcz8_0 : w6.cell? ⟨gb106,0,none⟩ = some (.int .i64 a0_0):=(qh BK106.out 0).trans rfl;have hcz8_1 : w6.cell? ⟨gb106,1,none⟩ = some (.int .i64 a0_1):=(qh BK106.out 1).trans rfl;have hcz8_2 : w6.cell? ⟨gb106,2,none⟩ = some (.int .i64 a0_2):=(qh BK106.out 2).trans rfl;have hfz8_0:=qi BK106.out 0;have hfz8_1:=qi BK106.out 1;have hfz8_2:=qi BK106.out 2;have hcz9_0 : w6.cell? ⟨gb107,0,none⟩ = some (.int .i64 a1_0):=(qh BK107.out 0).trans rfl;have hcz9_1 : w6.cell? ⟨gb107,1,none⟩ = some (.int .i64 a1_1):=(qh BK107.out 1).trans rfl;have hcz9_2 : w6.cell? ⟨gb107,2,none⟩ = some (.int .i64 a1_2):=(qh BK107.out 2).trans rfl;have hfz9_0:=qi BK107.out 0;have hfz9_1:=qi BK107.out 1;have hfz9_2:=qi BK107.out 2))
      go_ret
      exact ⟨by first|rfl|(simp [errW_none,errW_some] <;> rfl)|(simp [*,errW_none,errW_some] <;> rfl),by repeat (first|(with_reducible first|exact HB.out|apply qf|apply qa|apply qd|refine qg ?_ GE106.out|refine qg ?_ GE107.out)|exact HB.out)⟩
    · rw [if_neg c4] at H
      have c4b0 : (a0_1 == a1_1) = false:=beq_eq_false_iff_ne.mpr c4
      have c4b1 : (a0_1 != a1_1) = true:=bne_iff_ne.mpr c4
      obtain rfl:=Option.some.inj H
      go_enter Try.func43,Try.ntmps43
      go_wp2_with (first|((with_reducible refine gate_dst (N:=2) rfl ?_);refine box_event ?hg (N:=2) ?hd (cs:=#[.int .i64 a0_0,.int .i64 a0_1,.int .i64 a0_2]) (t:=72) ?hr ?_;(case hd=>rfl);(case hg=>rfl);(case hr=>first|(go_simp;done)|(go_simp;rfl));intro gb106 hg w10 hbox hb;have n0_:=hs_ HB hb;have n1_:=qn.mk (hbox);have n2_:=qn.mk ((by rw [hg];exact (qj (by repeat (first|(with_reducible first|exact HB.out|apply qf|apply qa|apply qd)|exact HB.out))) : w.heap.size ≤ gb106));have n3_:=qn.mk ((by rw [hg];exact (qj (by repeat (first|(with_reducible first|exact HB.out|apply qf|apply qa|apply qd)|exact HB.out))) : w.heap.size ≤ gb106));clear HB;have HB:=n0_;have BK106:=n1_;have GW106:=n2_;have GE106:=n3_;clear n0_ n1_ n2_ n3_;clear hb hbox hg)|((with_reducible refine gate_dst (N:=3) rfl ?_);refine box_event ?hg (N:=3) ?hd (cs:=#[.int .i64 a1_0,.int .i64 a1_1,.int .i64 a1_2]) (t:=72) ?hr ?_;(case hd=>rfl);(case hg=>rfl);(case hr=>first|(go_simp;done)|(go_simp;rfl));intro gb107 hg w11 hbox hb;have n0_:=bb_ BK106 hb;have n1_:=hs_ HB hb;have n2_:=qn.mk (hbox);have n3_:=qn.mk ((by rw [hg];exact (qj (by repeat (first|(with_reducible first|exact HB.out|apply qf|apply qa|apply qd|refine qg ?_ GE106.out)|exact HB.out))) : w.heap.size ≤ gb107));have n4_:=qn.mk ((by rw [hg];exact (qj (by repeat (first|(with_reducible first|exact HB.out|apply qf|apply qa|apply qd|refine qg ?_ GE106.out)|exact HB.out))) : w.heap.size ≤ gb107));have n5_:=qn.mk ((by rw [hg];exact nl_ BK106 : gb106 ≠ gb107));have n6_:=qn.mk ((by rw [hg];exact ng_ BK106 : gb107 ≠ gb106));clear BK106;clear HB;have BK106:=n0_;have HB:=n1_;have BK107:=n2_;have GW107:=n3_;have GE107:=n4_;have NB106_107:=n5_;have NB107_106:=n6_;clear n0_ n1_ n2_ n3_ n4_ n5_ n6_;clear hb hbox hg;have hnb12:=NB106_107.out;have hnc12:=NB107_106.out;have hcz13_0 : w11.cell? ⟨gb106,0,none⟩ = some (.int .i64 a0_0):=(qh BK106.out 0).trans rfl;have hcz13_1 : w11.cell? ⟨gb106,1,none⟩ = some (.int .i64 a0_1):=(qh BK106.out 1).trans rfl;have hcz13_2 : w11.cell? ⟨gb106,2,none⟩ = some (.int .i64 a0_2):=(qh BK106.out 2).trans rfl;have hfz13_0:=qi BK106.out 0;have hfz13_1:=qi BK106.out 1;have hfz13_2:=qi BK106.out 2;have hcz14_0 : w11.cell? ⟨gb107,0,none⟩ = some (.int .i64 a1_0):=(qh BK107.out 0).trans rfl;have hcz14_1 : w11.cell? ⟨gb107,1,none⟩ = some (.int .i64 a1_1):=(qh BK107.out 1).trans rfl;have hcz14_2 : w11.cell? ⟨gb107,2,none⟩ = some (.int .i64 a1_2):=(qh BK107.out 2).trans rfl;have hfz14_0:=qi BK107.out 0;have hfz14_1:=qi BK107.out 1;have hfz14_2:=qi BK107.out 2))
      go_ret
      exact ⟨by first|rfl|(simp [errW_none,errW_some] <;> rfl)|(simp [*,errW_none,errW_some] <;> rfl),by repeat (first|(with_reducible first|exact HB.out|apply qf|apply qa|apply qd|refine qg ?_ GE106.out|refine qg ?_ GE107.out)|exact HB.out)⟩
  · rw [if_neg c3] at H
    have c3b0 : (a0_0 == a1_0) = false:=beq_eq_false_iff_ne.mpr c3
    have c3b1 : (a0_0 != a1_0) = true:=bne_iff_ne.mpr c3
    obtain rfl:=Option.some.inj H
    go_enter Try.func43,Try.ntmps43
    go_wp2_with (first|((with_reducible refine gate_dst (N:=2) rfl ?_);refine box_event ?hg (N:=2) ?hd (cs:=#[.int .i64 a0_0,.int .i64 a0_1,.int .i64 a0_2]) (t:=72) ?hr ?_;(case hd=>rfl);(case hg=>rfl);(case hr=>first|(go_simp;done)|(go_simp;rfl));intro gb106 hg w15 hbox hb;have n0_:=hs_ HB hb;have n1_:=qn.mk (hbox);have n2_:=qn.mk ((by rw [hg];exact (qj (by repeat (first|(with_reducible first|exact HB.out|apply qf|apply qa|apply qd)|exact HB.out))) : w.heap.size ≤ gb106));have n3_:=qn.mk ((by rw [hg];exact (qj (by repeat (first|(with_reducible first|exact HB.out|apply qf|apply qa|apply qd)|exact HB.out))) : w.heap.size ≤ gb106));clear HB;have HB:=n0_;have BK106:=n1_;have GW106:=n2_;have GE106:=n3_;clear n0_ n1_ n2_ n3_;clear hb hbox hg)|((with_reducible refine gate_dst (N:=3) rfl ?_);refine box_event ?hg (N:=3) ?hd (cs:=#[.int .i64 a1_0,.int .i64 a1_1,.int .i64 a1_2]) (t:=72) ?hr ?_;(case hd=>rfl);(case hg=>rfl);(case hr=>first|(go_simp;done)|(go_simp;rfl));intro gb107 hg w16 hbox hb;have n0_:=bb_ BK106 hb;have n1_:=hs_ HB hb;have n2_:=qn.mk (hbox);have n3_:=qn.mk ((by rw [hg];exact (qj (by repeat (first|(with_reducible first|exact HB.out|apply qf|apply qa|apply qd|refine qg ?_ GE106.out)|exact HB.out))) : w.heap.size ≤ gb107));have n4_:=qn.mk ((by rw [hg];exact (qj (by repeat (first|(with_reducible first|exact HB.out|apply qf|apply qa|apply qd|refine qg ?_ GE106.out)|exact HB.out))) : w.heap.size ≤ gb107));have n5_:=qn.mk ((by rw [hg];exact nl_ BK106 : gb106 ≠ gb107));have n6_:=qn.mk ((by rw [hg];exact ng_ BK106 : gb107 ≠ gb106));clear BK106;clear HB;have BK106:=n0_;have HB:=n1_;have BK107:=n2_;have GW107:=n3_;have GE107:=n4_;have NB106_107:=n5_;have NB107_106:=n6_;clear n0_ n1_ n2_ n3_ n4_ n5_ n6_;clear hb hbox hg;have hnb17:=NB106_107.out;have hnc17:=NB107_106.out;have hcz18_0 : w16.cell? ⟨gb106,0,none⟩ = some (.int .i64 a0_0):=(qh BK106.out 0).trans rfl;have hcz18_1 : w16.cell? ⟨gb106,1,none⟩ = some (.int .i64 a0_1):=(qh BK106.out 1).trans rfl;have hcz18_2 : w16.cell? ⟨gb106,2,none⟩ = some (.int .i64 a0_2):=(qh BK106.out 2).trans rfl;have hfz18_0:=qi BK106.out 0;have hfz18_1:=qi BK106.out 1;have hfz18_2:=qi BK106.out 2;have hcz19_0 : w16.cell? ⟨gb107,0,none⟩ = some (.int .i64 a1_0):=(qh BK107.out 0).trans rfl;have hcz19_1 : w16.cell? ⟨gb107,1,none⟩ = some (.int .i64 a1_1):=(qh BK107.out 1).trans rfl;have hcz19_2 : w16.cell? ⟨gb107,2,none⟩ = some (.int .i64 a1_2):=(qh BK107.out 2).trans rfl;have hfz19_0:=qi BK107.out 0;have hfz19_1:=qi BK107.out 1;have hfz19_2:=qi BK107.out 2))
    go_ret
    exact ⟨by first|rfl|(simp [errW_none,errW_some] <;> rfl)|(simp [*,errW_none,errW_some] <;> rfl),by repeat (first|(with_reducible first|exact HB.out|apply qf|apply qa|apply qd|refine qg ?_ GE106.out|refine qg ?_ GE107.out)|exact HB.out)⟩


theorem i_better3 (s0 s1 s2 x0 x1 x2 : Int) (b : Bool) (h : better3 (s0,s1,s2) (x0,x1,x2) = b) : impl_Better.f s0 s1 s2 x0 x1 x2 = some b:=by
  subst h
  unfold impl_Better.f better3
  simp only
  split
  · split <;> rfl
  · rfl

theorem clo_best (p : Nat) (s0 s1 s2 size : Int) (x : Int × Int × Int) (w : World) (h : w.heap[p]? = some (.cells (encB x) 72 (0,0))) :
    Calls Try.prog 88 #[.agg #[.int .i64 s0,.int .i64 s1,.int .i64 s2],.int .i64 size,.pointer (some ⟨p,0,none⟩)] w fun e w'=>e = .returned (.tuple #[]) ∧ w'.heap[p]? = some (.cells (encB (bstep (s0,s1,s2) x)) 72 (0,0)) ∧ w.grownBy w' (some p):=by
  obtain ⟨x0,x1,x2⟩:=x
  replace h : w.heap[p]? = some (.cells #[.int .i64 x0,.int .i64 x1,.int .i64 x2] 72 (0,0)):=h
  have HH:=qn.mk h
  clear h
  have hu72:=Try.underlying72
  go_enter Try.func88,Try.ntmps88
  go_upto_region 0 with (fail)
  go_cut [3] (fun v3 wc=>∃ g3 : Nat,v3 = .pointer (some ⟨g3,0,none⟩) ∧ qn (wc.heap[g3]? = some (.cells #[.int .i64 s0,.int .i64 s1,.int .i64 s2] 72 (0,0))) ∧ qn (wc.heap[p]? = some (.cells #[.int .i64 x0,.int .i64 x1,.int .i64 x2] 72 (0,0))) ∧ qn (Below w.heap.size w wc) ∧ qn (g3 ≠ p))
  case first =>
    go_wp2
    go_meet
    case rel=>exact ⟨w.heap.size,rfl,⟨new_ w _⟩,⟨qc HH.out _⟩,⟨qf (Below.refl _ _) _⟩,⟨by have:=blk_lt HH.out;omega⟩⟩
  case rest =>
    obtain ⟨g3,rfl,B3,BP,HBW,N3⟩:=hcut
    have c30 : wc.cell? ⟨g3,0,none⟩ = some (.int .i64 s0):=(qh B3.out 0).trans rfl
    have c31 : wc.cell? ⟨g3,1,none⟩ = some (.int .i64 s1):=(qh B3.out 1).trans rfl
    have c32 : wc.cell? ⟨g3,2,none⟩ = some (.int .i64 s2):=(qh B3.out 2).trans rfl
    have cp0 : wc.cell? ⟨p,0,none⟩ = some (.int .i64 x0):=(qh BP.out 0).trans rfl
    have cp1 : wc.cell? ⟨p,1,none⟩ = some (.int .i64 x1):=(qh BP.out 1).trans rfl
    have cp2 : wc.cell? ⟨p,2,none⟩ = some (.int .i64 x2):=(qh BP.out 2).trans rfl
    by_cases cb : better3 (s0,s1,s2) (x0,x1,x2) = true
    · have HI:=qn.mk (i_better3 s0 s1 s2 x0 x1 x2 true cb)
      have CB:=qn.mk cb
      clear cb
      go_wp2_with (first|(go_at_call 43;(with_reducible refine (impl_Better.calls s0 s1 s2 x0 x1 x2 true _ HI.out).mono ?_);rintro e w2 ⟨rfl,hb⟩;have B32:=qn.mk (ql B3.out hb);have BP2:=qn.mk (ql BP.out hb);have HB2:=qn.mk hb;clear hb;have d30 : w2.cell? ⟨g3,0,none⟩ = some (.int .i64 s0):=(qh B32.out 0).trans rfl;have d31 : w2.cell? ⟨g3,1,none⟩ = some (.int .i64 s1):=(qh B32.out 1).trans rfl;have d32 : w2.cell? ⟨g3,2,none⟩ = some (.int .i64 s2):=(qh B32.out 2).trans rfl;have dp0 : w2.cell? ⟨p,0,none⟩ = some (.int .i64 x0):=(qh BP2.out 0).trans rfl;have dp1 : w2.cell? ⟨p,1,none⟩ = some (.int .i64 x1):=(qh BP2.out 1).trans rfl;have dp2 : w2.cell? ⟨p,2,none⟩ = some (.int .i64 x2):=(qh BP2.out 2).trans rfl;have fp0:=qi BP2.out 0;have fp1:=qi BP2.out 1;have fp2:=qi BP2.out 2;have nn:=N3.out;have nn':=N3.out.symm))
      go_end0
      refine ⟨rfl,?_,(grown_of_below HBW.out _).trans ((grown_of_below HB2.out _).trans ((grown_set _ p 0 _).trans ((grown_set _ p 1 _).trans (grown_set _ p 2 _))))⟩
      rw [bstep,if_pos CB.out]
      exact blk_put (blk_put (blk_put BP2.out 0 _ rfl) 1 _ rfl) 2 _ rfl
    · replace cb:=Bool.eq_false_iff.mpr cb
      have HI:=qn.mk (i_better3 s0 s1 s2 x0 x1 x2 false cb)
      have CB:=qn.mk cb
      clear cb
      go_wp2_with (first|(go_at_call 43;(with_reducible refine (impl_Better.calls s0 s1 s2 x0 x1 x2 false _ HI.out).mono ?_);rintro e w2 ⟨rfl,hb⟩;have BP2:=qn.mk (ql BP.out hb);have HB2:=qn.mk hb;clear hb))
      go_end0
      refine ⟨rfl,?_,(grown_of_below HBW.out _).trans (grown_of_below HB2.out _)⟩
      rw [bstep,if_neg (by rw [CB.out];decide)]
      exact BP2.out

set_option maxHeartbeats 4000000 in
set_option maxRecDepth 100000 in
theorem every_best (n : Int) (A : Option Addr) (c : Nat) (L : List S36) (w0 : World) (hr : Kd.C k36 w0 A L.length L) (hc : L.length ≤ c) (hL : L.length ≤ 2000000) (hv : ∀ e ∈ L,0 ≤ e.f0 ∧ 0 ≤ e.f1) (p : Nat) (hp : w0.heap.size ≤ p) : ∀ (d i : Nat) (m : Int) (s : Int × Int × Int) (size : Int) (x : Int × Int × Int) (w : World),i + d = L.length → Below w0.heap.size w0 w → w.heap[p]? = some (.cells (encB x) 72 (0,0)) →
    Calls Try.prog 85 #[.agg #[.int .i64 n,.slice A L.length c],.int .i64 (i : Int),.int .i64 m,.agg #[.int .i64 s.1,.int .i64 s.2.1,.int .i64 s.2.2],.int .i64 size,.func (.func 88) #[] #[.pointer (some ⟨p,0,none⟩)]] w fun e w'=>e = .returned (.tuple #[]) ∧ w'.heap[p]? = some (.cells (encB (evG bstep (L.drop i) m s x)) 72 (0,0)) ∧ w.grownBy w' (some p) ∧ Below w0.heap.size w0 w'
  | 0,i,m,s,size,x,w,hi,hB,hP=>by
    have HR:=qn.mk hr
    have HI:=qn.mk hi
    have HV:=qn.mk hv
    have HB:=qn.mk hB
    have HP:=qn.mk hP
    have hlen : ((i : Int) == (L.length : Int)) = true:=by simp;omega
    clear hr hi hv hB hP
    obtain ⟨s0,s1,s2⟩:=s
    go_enter Try.func85,Try.ntmps85
    go_upto_region 0 with (fail)
    go_cut [6,9] (fun v6 v9 wc=>∃ g6 g9 : Nat,v6 = .pointer (some ⟨g6,0,none⟩) ∧ v9 = .pointer (some ⟨g9,0,none⟩) ∧ qn (wc.heap[g6]? = some (.cells #[.int .i64 n,.slice A L.length c] 26 (0,0))) ∧ qn (wc.heap[g9]? = some (.cells #[.int .i64 s0,.int .i64 s1,.int .i64 s2] 72 (0,0))) ∧ qn (wc.heap[p]? = some (.cells (encB x) 72 (0,0))) ∧ qn (Below w0.heap.size w0 wc) ∧ qn (Below w.heap.size w wc) ∧ qn (g6 ≠ p) ∧ qn (g9 ≠ p))
    case first =>
      go_wp2
      go_meet
      case rel=>exact ⟨w.heap.size,w.heap.size + 1,rfl,by first|rfl|simp,⟨qc (new_ w _) _⟩,⟨new2_ w _ _⟩,⟨qc (qc HP.out _) _⟩,⟨by repeat (first|(with_reducible first|exact HB.out|apply qf)|exact HB.out)⟩,⟨qf (qf (Below.refl _ _) _) _⟩,⟨by have:=blk_lt HP.out;omega⟩,⟨by have:=blk_lt HP.out;omega⟩⟩
    case rest =>
      obtain ⟨g6,g9,rfl,rfl,B6,B9,BP,HB0,HBW,N6,N9⟩:=hcut
      have c60 : wc.cell? ⟨g6,0,none⟩ = some (.int .i64 n):=(qh B6.out 0).trans rfl
      have c61 : wc.cell? ⟨g6,1,none⟩ = some (.slice A L.length c):=(qh B6.out 1).trans rfl
      have c90 : wc.cell? ⟨g9,0,none⟩ = some (.int .i64 s0):=(qh B9.out 0).trans rfl
      have c91 : wc.cell? ⟨g9,1,none⟩ = some (.int .i64 s1):=(qh B9.out 1).trans rfl
      have c92 : wc.cell? ⟨g9,2,none⟩ = some (.int .i64 s2):=(qh B9.out 2).trans rfl
      go_wp2_with (first|(go_at_call 88;(with_reducible refine (clo_best p s0 s1 s2 size x _ ?h).mono ?_);(case h=>exact BP.out);rintro e w2 ⟨rfl,hq,hg⟩;have HQ:=qn.mk hq;have HG:=qn.mk hg;clear hq hg))
      refine bodyPost_ret (v:=.tuple #[]) (by simp [results,Try.results85,go_sem]) rfl ⟨rfl,?_,(grown_of_below HBW.out _).trans HG.out,HB0.out.grown HG.out HB0.out.size (fun k hk=>by injection hk with hk;omega)⟩
      rw [List.drop_of_length_le (by have:=HI.out;omega)]
      exact HQ.out
  | d + 1,i,m,s,size,x,w,hi,hB,hP=>by
    have ih : ∀ (m s0 s1 s2 size : Int) (x : Int × Int × Int) (w : World),Below w0.heap.size w0 w → w.heap[p]? = some (.cells (encB x) 72 (0,0)) →
        Calls Try.prog 85 #[.agg #[.int .i64 n,.slice A L.length c],.int .i64 ((i : Int) + 1),.int .i64 m,.agg #[.int .i64 s0,.int .i64 s1,.int .i64 s2],.int .i64 size,.func (.func 88) #[] #[.pointer (some ⟨p,0,none⟩)]] w fun e w'=>e = .returned (.tuple #[]) ∧ w'.heap[p]? = some (.cells (encB (evG bstep (L.drop (i + 1)) m (s0,s1,s2) x)) 72 (0,0)) ∧ w.grownBy w' (some p) ∧ Below w0.heap.size w0 w' :=
      fun m s0 s1 s2 size x w=>every_best n A c L w0 hr hc hL hv p hp d (i + 1) m (s0,s1,s2) size x w (by omega)
    have hlt : i < L.length:=by omega
    have HIH:=qn.mk ih
    have HR:=qn.mk hr
    have HI:=qn.mk hi
    have HV:=qn.mk (hv _ (List.getElem_mem hlt))
    have HB:=qn.mk hB
    have HP:=qn.mk hP
    have HLT:=qn.mk hlt
    have hlen : ((i : Int) == (L.length : Int)) = false:=beq_eq_false_iff_ne.mpr (by omega)
    clear hr hi hv hB hP ih
    obtain ⟨s0,s1,s2⟩:=s
    go_enter Try.func85,Try.ntmps85
    go_upto_region 0 with (fail)
    go_cut [6,9] (fun v6 v9 wc=>∃ g6 g9 : Nat,v6 = .pointer (some ⟨g6,0,none⟩) ∧ v9 = .pointer (some ⟨g9,0,none⟩) ∧ qn (wc.heap[g6]? = some (.cells #[.int .i64 n,.slice A L.length c] 26 (0,0))) ∧ qn (wc.heap[g9]? = some (.cells #[.int .i64 s0,.int .i64 s1,.int .i64 s2] 72 (0,0))) ∧ qn (wc.heap[p]? = some (.cells (encB x) 72 (0,0))) ∧ qn (Below w0.heap.size w0 wc) ∧ qn (Below w.heap.size w wc) ∧ qn (g6 ≠ p) ∧ qn (g9 ≠ p))
    case first =>
      go_wp2
      go_meet
      case rel=>exact ⟨w.heap.size,w.heap.size + 1,rfl,by first|rfl|simp,⟨qc (new_ w _) _⟩,⟨new2_ w _ _⟩,⟨qc (qc HP.out _) _⟩,⟨by repeat (first|(with_reducible first|exact HB.out|apply qf)|exact HB.out)⟩,⟨qf (qf (Below.refl _ _) _) _⟩,⟨by have:=blk_lt HP.out;omega⟩,⟨by have:=blk_lt HP.out;omega⟩⟩
    case rest =>
      obtain ⟨g6,g9,rfl,rfl,B6,B9,BP,HB0,HBW,N6,N9⟩:=hcut
      have c60 : wc.cell? ⟨g6,0,none⟩ = some (.int .i64 n):=(qh B6.out 0).trans rfl
      have c61 : wc.cell? ⟨g6,1,none⟩ = some (.slice A L.length c):=(qh B6.out 1).trans rfl
      have c90 : wc.cell? ⟨g9,0,none⟩ = some (.int .i64 s0):=(qh B9.out 0).trans rfl
      have c91 : wc.cell? ⟨g9,1,none⟩ = some (.int .i64 s1):=(qh B9.out 1).trans rfl
      have c92 : wc.cell? ⟨g9,2,none⟩ = some (.int .i64 s2):=(qh B9.out 2).trans rfl
      have hi1 : (i : Int) + 1 ≤ 2000000:=by omega
      go_upto_region 4 with (first|(go_at_call 85;(with_reducible refine (HIH.out m s0 s1 s2 size x _ ?h1 ?h2).mono ?_);(case h1=>exact HB0.out);(case h2=>exact BP.out);rintro e w2 ⟨rfl,hq,hg,hb⟩;have HQ:=qn.mk hq;have HG:=qn.mk hg;have HB2:=qn.mk hb;clear hq hg hb))
      have B62:=qn.mk (blk_grown B6.out HG.out (fun h=>N6.out (Option.some.inj h)))
      have B92:=qn.mk (blk_grown B9.out HG.out (fun h=>N9.out (Option.some.inj h)))
      have HG2:=qn.mk ((grown_of_below HBW.out (some p)).trans HG.out)
      clear B6 B9 HG BP HBW HB0 c60 c61 c90 c91 c92
      have c61 : w2.cell? ⟨g6,1,none⟩ = some (.slice A L.length c):=(qh B62.out 1).trans rfl
      obtain ⟨ad,eA,x0,x1,x2,x3,x4⟩:=at_T36 HR.out (i : Int) (Int.natCast_nonneg i) (by have:=HLT.out;omega)
      subst eA
      have hrd : rd_T36 L (i : Int) = L[i]'HLT.out:=by
        unfold rd_T36
        rw [Int.toNat_natCast,List.getD_eq_getElem?_getD,List.getElem?_eq_getElem HLT.out];rfl
      rw [hrd] at x0 x1 x2 x3 x4
      rw [Int.toNat_natCast] at x0 x1 x2 x3 x4
      obtain ⟨f,hf⟩ : ∃ f,f = L[i]'HLT.out:=⟨_,rfl⟩
      rw [← hf] at x0 x1 x2 x3 x4 HV
      have HF:=qn.mk hf
      clear hf hrd
      replace x0:=(HB2.out.cell (World.block_lt_of_cell? _ _ x0)).trans x0
      replace x1:=(HB2.out.cell (World.block_lt_of_cell? _ _ x1)).trans x1
      replace x2:=(HB2.out.cell (World.block_lt_of_cell? _ _ x2)).trans x2
      replace x3:=(HB2.out.cell (World.block_lt_of_cell? _ _ x3)).trans x3
      replace x4:=(HB2.out.cell (World.block_lt_of_cell? _ _ x4)).trans x4
      have hi0 : 0 ≤ (i : Int):=Int.natCast_nonneg i
      have hil : (i : Int) < (L.length : Int):=by have:=HLT.out;omega
      go_cut [12] (fun v12 wd=>∃ g12 : Nat,v12 = .pointer (some ⟨g12,0,none⟩) ∧ qn (wd.heap[g12]? = some (.cells #[.int .i64 f.f0,.int .i64 f.f1,.int .i64 f.f2,.int .i64 f.f3,.int .i64 f.f4] 36 (0,0))) ∧ qn (Below w2.heap.size w2 wd) ∧ qn (g12 ≠ p))
      case first =>
        go_wp2
        go_meet
        case rel=>exact ⟨w2.heap.size,rfl,⟨new_ w2 _⟩,⟨qf (Below.refl _ _) _⟩,⟨by have:=blk_lt HQ.out;omega⟩⟩
      case rest =>
        obtain ⟨g12,rfl,B12,HBd,N12⟩:=hcut
        have B6d:=qn.mk (ql B62.out HBd.out)
        have B9d:=qn.mk (ql B92.out HBd.out)
        have BPd:=qn.mk (ql HQ.out HBd.out)
        have HB0d:=qn.mk (qm HB2.out HBd.out)
        have HGd:=qn.mk (HG2.out.trans (grown_of_below HBd.out (some p)))
        clear c61 x0 x1 x2 x3 x4 B62 B92 HQ HB2 HG2
        have v0 : 0 ≤ f.f0:=HV.out.1
        have v1 : 0 ≤ f.f1:=HV.out.2
        have ce0 : wc.cell? ⟨g12,0,none⟩ = some (.int .i64 f.f0):=(qh B12.out 0).trans rfl
        have ce1 : wc.cell? ⟨g12,1,none⟩ = some (.int .i64 f.f1):=(qh B12.out 1).trans rfl
        have ce2 : wc.cell? ⟨g12,2,none⟩ = some (.int .i64 f.f2):=(qh B12.out 2).trans rfl
        have ce3 : wc.cell? ⟨g12,3,none⟩ = some (.int .i64 f.f3):=(qh B12.out 3).trans rfl
        have ce4 : wc.cell? ⟨g12,4,none⟩ = some (.int .i64 f.f4):=(qh B12.out 4).trans rfl
        go_upto_region 5 with (fail)
        go_quiet (fail)
        go_upto_region 6 with (fail)
        obtain ⟨mb,hmb⟩ : ∃ mb,bothM f = mb:=⟨_,rfl⟩
        have hmb' : Go.bits .or .i64 (wrap64 (2 ^ min f.f0.toNat 64)) (wrap64 (2 ^ min f.f1.toNat 64)) = mb:=hmb
        rw [hmb']
        have HMB:=qn.mk hmb
        clear hmb hmb'
        have c60 : wc.cell? ⟨g6,0,none⟩ = some (.int .i64 n):=(qh B6d.out 0).trans rfl
        have c61 : wc.cell? ⟨g6,1,none⟩ = some (.slice (some ad) L.length c):=(qh B6d.out 1).trans rfl
        have c90 : wc.cell? ⟨g9,0,none⟩ = some (.int .i64 s0):=(qh B9d.out 0).trans rfl
        have c91 : wc.cell? ⟨g9,1,none⟩ = some (.int .i64 s1):=(qh B9d.out 1).trans rfl
        have c92 : wc.cell? ⟨g9,2,none⟩ = some (.int .i64 s2):=(qh B9d.out 2).trans rfl
        by_cases cm : Go.bits .and .i64 m mb = 0
        · have cmb : (Go.bits .and .i64 m mb == 0) = true:=beq_iff_eq.mpr cm
          have CM:=qn.mk cm
          clear cm
          go_upto_region 7 with (fail)
          have hwi : IntKind.i64.wrap ((i : Int) + 1) = (i : Int) + 1:=by rw [i64_w];unfold wrap64;omega
          go_region_with (first
            | (go_at_call 91;(with_reducible refine (impl_Sums_plus.calls s0 s1 s2 f.f0 f.f1 f.f2 f.f3 f.f4 (wrap64 (s0 + f.f2)) (wrap64 (s1 + f.f3)) (wrap64 (s2 + f.f4)) _ rfl).mono ?_);rintro e w3 ⟨rfl,hb3⟩;have HB3:=qn.mk hb3;have c60' : w3.cell? ⟨g6,0,none⟩ = some (.int .i64 n):=(qh (ql B6d.out (qm (by repeat (first|apply qa|exact Below.refl _ _)) hb3)) 0).trans rfl;have c61' : w3.cell? ⟨g6,1,none⟩ = some (.slice (some ad) L.length c):=(qh (ql B6d.out (qm (by repeat (first|apply qa|exact Below.refl _ _)) hb3)) 1).trans rfl;clear hb3)
            | (go_at_call 85;(with_reducible refine (HIH.out (Go.bits .or .i64 m mb) (wrap64 (s0 + f.f2)) (wrap64 (s1 + f.f3)) (wrap64 (s2 + f.f4)) (IntKind.i64.wrap (size + 1)) (evG bstep (L.drop (i + 1)) m (s0,s1,s2) x) _ ?h1 ?h2).mono ?_);(case h1=>exact qm (by repeat (first|(with_reducible first|exact HB0d.out|apply qa)|exact HB0d.out)) HB3.out);(case h2=>exact ql (by repeat (first|(with_reducible first|exact BPd.out|refine qb ?_ _)|exact BPd.out)) HB3.out);rintro e w4 ⟨rfl,hq,hg,hb⟩;have HQ4:=qn.mk hq;have HG4:=qn.mk hg;have HB4:=qn.mk hb;clear hq hg hb))
          all_goals (try go_wp2)
          all_goals go_end0
          all_goals (refine ⟨rfl,?_,HGd.out.trans ((grown_of_below (qm (by repeat (first|apply qa|exact Below.refl _ _)) HB3.out) _).trans HG4.out),HB4.out⟩;rw [List.drop_eq_getElem_cons HLT.out,← HF.out,evG,HMB.out,if_pos CM.out];exact HQ4.out)
        · have cmb : (Go.bits .and .i64 m mb == 0) = false:=beq_eq_false_iff_ne.mpr cm
          have CM:=qn.mk cm
          clear cm
          go_wp2_with (fail)
          go_end0
          refine ⟨rfl,?_,HGd.out.trans (grown_of_below (by repeat (first|apply qa|exact Below.refl _ _)) _),by repeat (first|(with_reducible first|exact HB0d.out|apply qa)|exact HB0d.out)⟩
          rw [List.drop_eq_getElem_cons HLT.out,← HF.out,evG,HMB.out,if_neg CM.out]
          exact qb BPd.out _

/-! ### impl_BestSums: function 39 -/
def edgesNN (L : List S36) : Bool:=L.all fun e=>decide (0 ≤ e.f0) && decide (0 ≤ e.f1)
def impl_BestSums.f (k : Nat) (a0_0 : Int) (l0_1 : List (S36)) : Option (Int × Int × Int × Bool):=(impl_GraphOk.f k a0_0 l0_1).bind fun t210=>(if t210 = true then (if edgesNN l0_1 = true then (if l0_1.length ≤ 2000000 then (some ((evG bstep l0_1 0 (0,0,0) (0,0,0)).1,(evG bstep l0_1 0 (0,0,0) (0,0,0)).2.1,(evG bstep l0_1 0 (0,0,0) (0,0,0)).2.2,true)) else none) else none) else (some (0,0,0,false)))
theorem impl_BestSums.mono : ∀ a0 a1 k,LeO (impl_BestSums.f k a0 a1) (impl_BestSums.f (k + 1) a0 a1):=by
  intro a0 a1 k
  unfold impl_BestSums.f
  exact LeO.bind (impl_GraphOk.mono _ _ _) (fun _=>LeO.refl _)
set_option maxHeartbeats 8000000 in
set_option maxRecDepth 100000 in
theorem impl_BestSums.calls (k : Nat) (a0_0 : Int) (A0_1 : Option Addr) (c0_1 : Nat) (l0_1 : List (S36)) (r1 : Int) (r2 : Int) (r3 : Int) (r4 : Bool) (w : World) (hr0_1 : Kd.C k36 w A0_1 l0_1.length l0_1) (hc0_1 : l0_1.length ≤ c0_1) (h : impl_BestSums.f k a0_0 l0_1 = some (r1,r2,r3,r4)) :
    Calls Try.prog 39 #[.agg #[.int .i64 a0_0,.slice A0_1 l0_1.length c0_1]] w fun e w'=>e = .returned (.tuple #[.agg #[.int .i64 r1,.int .i64 r2,.int .i64 r3],.bool r4]) ∧ Below w.heap.size w w':=by
  have hu26:=Try.underlying26
  have hu72:=Try.underlying72
  have HR0_1:=qn.mk hr0_1
  have HC0_1:=qn.mk hc0_1
  clear hr0_1 hc0_1
  have HB:=qn.mk (Below.refl w.heap.size w)
  unfold impl_BestSums.f at h
  replace h:=Option.bind_eq_some_iff.mp h
  obtain ⟨t210,A20,H⟩:=h
  have A2:=qn.mk A20
  clear A20
  by_cases c3 : t210 = true
  · subst c3
    rw [if_pos rfl] at H
    by_cases hnn : edgesNN l0_1 = true
    case neg=>rw [if_neg hnn] at H;cases H
    rw [if_pos hnn] at H
    by_cases hll : l0_1.length ≤ 2000000
    case neg=>rw [if_neg hll] at H;cases H
    rw [if_pos hll] at H
    have hv : ∀ e ∈ l0_1,0 ≤ e.f0 ∧ 0 ≤ e.f1:=fun e he=>by
      have:=(List.all_eq_true.1 hnn) e he
      rw [Bool.and_eq_true,decide_eq_true_eq,decide_eq_true_eq] at this
      exact this
    have HV:=qn.mk hv
    have HL:=qn.mk hll
    clear hv hll hnn
    generalize hz : evG bstep l0_1 0 (0,0,0) (0,0,0) = z at H
    obtain ⟨z0,z1,z2⟩:=z
    simp only [Option.some.injEq,Prod.mk.injEq] at H
    obtain ⟨rfl,rfl,rfl,rfl⟩:=H
    have HZ:=qn.mk hz
    clear hz
    go_enter Try.func39,Try.ntmps39
    go_upto_region 4 with (first|((with_reducible refine gate_dst (N:=1) rfl ?_);refine box_event ?hg (N:=1) ?hd (cs:=#[.int .i64 a0_0,.slice A0_1 l0_1.length c0_1]) (t:=26) ?hr ?_;(case hd=>rfl);(case hg=>rfl);(case hr=>first|(go_simp;done)|(go_simp;rfl));intro gb207 hg w4 hbox hb;have n0_:=hs_ HB hb;have n1_:=qn.mk (hbox);have n2_:=qn.mk ((by rw [hg];exact (qj (by repeat (first|(with_reducible first|exact HB.out|apply qf|apply qa|apply qd)|exact HB.out))) : w.heap.size ≤ gb207));have n3_:=qn.mk ((by rw [hg];exact (qj (by repeat (first|(with_reducible first|exact HB.out|apply qf|apply qa|apply qd)|exact HB.out))) : w.heap.size ≤ gb207));clear HB;have HB:=n0_;have BK207:=n1_;have GW207:=n2_;have GE207:=n3_;clear n0_ n1_ n2_ n3_;clear hb hbox hg)|((with_reducible refine gate_dst (N:=2) rfl ?_);refine box_event ?hg (N:=2) ?hd (cs:=#[.int .i64 0,.int .i64 0,.int .i64 0]) (t:=72) ?hr ?_;(case hd=>rfl);(case hg=>rfl);(case hr=>first|(go_simp;done)|(go_simp;rfl));intro gb208 hg w5 hbox hb;have n0_:=bb_ BK207 hb;have n1_:=hs_ HB hb;have n2_:=qn.mk (hbox);have n3_:=qn.mk ((by rw [hg];exact (qj (by repeat (first|(with_reducible first|exact HB.out|apply qf|apply qa|apply qd|refine qg ?_ GE207.out)|exact HB.out))) : w.heap.size ≤ gb208));have n4_:=qn.mk ((by rw [hg];exact (qj (by repeat (first|(with_reducible first|exact HB.out|apply qf|apply qa|apply qd|refine qg ?_ GE207.out)|exact HB.out))) : w.heap.size ≤ gb208));have n5_:=qn.mk ((by rw [hg];exact nl_ BK207 : gb207 ≠ gb208));have n6_:=qn.mk ((by rw [hg];exact ng_ BK207 : gb208 ≠ gb207));clear BK207;clear HB;have BK207:=n0_;have HB:=n1_;have BK208:=n2_;have GW208:=n3_;have GE208:=n4_;have NB207_208:=n5_;have NB208_207:=n6_;clear n0_ n1_ n2_ n3_ n4_ n5_ n6_;clear hb hbox hg)|((with_reducible refine gate_dst (N:=4) rfl ?_);refine box_event ?hg (N:=4) ?hd (cs:=#[.int .i64 0,.int .i64 0,.int .i64 0]) (t:=72) ?hr ?_;(case hd=>rfl);(case hg=>rfl);(case hr=>first|(go_simp;done)|(go_simp;rfl));intro gb209 hg w6 hbox hb;have n0_:=bb_ BK207 hb;have n1_:=bb_ BK208 hb;have n2_:=hs_ HB hb;have n3_:=qn.mk (hbox);have n4_:=qn.mk ((by rw [hg];exact (qj (by repeat (first|(with_reducible first|exact HB.out|apply qf|apply qa|apply qd|refine qg ?_ GE207.out|refine qg ?_ GE208.out)|exact HB.out))) : w.heap.size ≤ gb209));have n5_:=qn.mk ((by rw [hg];exact (qj (by repeat (first|(with_reducible first|exact HB.out|apply qf|apply qa|apply qd|refine qg ?_ GE207.out|refine qg ?_ GE208.out)|exact HB.out))) : w.heap.size ≤ gb209));have n6_:=qn.mk ((by rw [hg];exact nl_ BK207 : gb207 ≠ gb209));have n7_:=qn.mk ((by rw [hg];exact ng_ BK207 : gb209 ≠ gb207));have n8_:=qn.mk ((by rw [hg];exact nl_ BK208 : gb208 ≠ gb209));have n9_:=qn.mk ((by rw [hg];exact ng_ BK208 : gb209 ≠ gb208));clear BK207;clear BK208;clear HB;have BK207:=n0_;have BK208:=n1_;have HB:=n2_;have BK209:=n3_;have GW209:=n4_;have GE209:=n5_;have NB207_209:=n6_;have NB209_207:=n7_;have NB208_209:=n8_;have NB209_208:=n9_;clear n0_ n1_ n2_ n3_ n4_ n5_ n6_ n7_ n8_ n9_;clear hb hbox hg;have hnb7:=NB207_208.out;have hnc7:=NB208_207.out;have hnb8:=NB207_209.out;have hnc8:=NB209_207.out;have hcz9_0 : w6.cell? ⟨gb207,0,none⟩ = some (.int .i64 a0_0):=(qh BK207.out 0).trans rfl;have hcz9_1 : w6.cell? ⟨gb207,1,none⟩ = some (.slice A0_1 l0_1.length c0_1):=(qh BK207.out 1).trans rfl;have hfz9_0:=qi BK207.out 0;have hfz9_1:=qi BK207.out 1)|((with_reducible refine gate_callee (f:=16) rfl ?_);refine goesL_ (some 6) rfl rfl Try.func16 (by kernel_rfl) rfl #[.agg #[.int .i64 a0_0,.slice A0_1 l0_1.length c0_1]] rfl (by (try simp only [List.map_toArray,List.map_cons,List.map_nil]);first|done|rfl|(simp only [List.length_drop,List.length_take];rfl)) ?_;(with_reducible refine (impl_GraphOk.calls k a0_0 _ _ l0_1 true _ ?side1 ?side2 A2.out).mono ?_);(case side1=>repeat (first|exact (Kd.C_below HR0_1.out HB.out)|(with_reducible refine Kd.C_alloc ?_ _)|(with_reducible refine Kd.C_drewN ?_ _)|(with_reducible refine Kd.C_drew ?_)));(case side2=>exact HC0_1.out);rintro e w10 ⟨rfl,hb⟩;refine ⟨_,rfl,?_⟩;have n0_:=bb_ BK207 hb;have n1_:=bb_ BK208 hb;have n2_:=bb_ BK209 hb;have n3_:=hs_ HB hb;clear BK207;clear BK208;clear BK209;clear HB;have BK207:=n0_;have BK208:=n1_;have BK209:=n2_;have HB:=n3_;clear n0_ n1_ n2_ n3_;(try clear hb);(try clear hb2);(try clear hk);(try clear hi);have hcz11_0 : w10.cell? ⟨gb207,0,none⟩ = some (.int .i64 a0_0):=(qh BK207.out 0).trans rfl;have hcz11_1 : w10.cell? ⟨gb207,1,none⟩ = some (.slice A0_1 l0_1.length c0_1):=(qh BK207.out 1).trans rfl;have hfz11_0:=qi BK207.out 0;have hfz11_1:=qi BK207.out 1))
    have hev:=every_best a0_0 A0_1 c0_1 l0_1 w HR0_1.out HC0_1.out HL.out HV.out gb209 GE209.out l0_1.length 0 0 (0,0,0) 0 (0,0,0) w10 (by omega) HB.out BK209.out
    have HEV : qn (Calls Try.prog 85 #[.agg #[.int .i64 a0_0,.slice A0_1 l0_1.length c0_1],.int .i64 0,.int .i64 0,.agg #[.int .i64 0,.int .i64 0,.int .i64 0],.int .i64 0,.func (.func 88) #[] #[.pointer (some ⟨gb209,0,none⟩)]] w10 fun e w'=>e = .returned (.tuple #[]) ∧ w'.heap[gb209]? = some (.cells (encB (evG bstep l0_1 0 (0,0,0) (0,0,0))) 72 (0,0)) ∧ World.grownBy w10 w' (some gb209) ∧ Below w.heap.size w w'):=⟨hev⟩
    clear hev
    go_upto_region 5 with (first|(go_at_call 85;(with_reducible refine HEV.out.mono ?_);rintro e w7 ⟨rfl,hq,hg,hb⟩;have HQ:=qn.mk hq;have HG:=qn.mk hg;have HB2:=qn.mk hb;clear hq hg hb))
    have BQ : qn (w7.heap[gb209]? = some (.cells #[.int .i64 z0,.int .i64 z1,.int .i64 z2] 72 (0,0))):=⟨by have:=HQ.out;rw [HZ.out] at this;exact this⟩
    have BR:=qn.mk (blk_grown BK208.out HG.out (fun h=>NB208_209.out (Option.some.inj h)))
    clear HQ HG HEV
    have q0 : w7.cell? ⟨gb209,0,none⟩ = some (.int .i64 z0):=(qh BQ.out 0).trans rfl
    have q1 : w7.cell? ⟨gb209,1,none⟩ = some (.int .i64 z1):=(qh BQ.out 1).trans rfl
    have q2 : w7.cell? ⟨gb209,2,none⟩ = some (.int .i64 z2):=(qh BQ.out 2).trans rfl
    have yz0 : w7.cell? ⟨gb208,0,none⟩ = some (.int .i64 0):=(qh BR.out 0).trans rfl
    have yz1 : w7.cell? ⟨gb208,1,none⟩ = some (.int .i64 0):=(qh BR.out 1).trans rfl
    have yz2 : w7.cell? ⟨gb208,2,none⟩ = some (.int .i64 0):=(qh BR.out 2).trans rfl
    have fz0:=qi BR.out 0
    have fz1:=qi BR.out 1
    have fz2:=qi BR.out 2
    have nn:=NB208_209.out
    have nn':=NB208_209.out.symm
    go_wp2
    refine bodyPost_ret (results_ct rfl _ _ gb208 72 #[.int .i64 z0,.int .i64 z1,.int .i64 z2] (0,0) _ rfl (blk_put (blk_put (blk_put BR.out 0 _ rfl) 1 _ rfl) 2 _ rfl) Try.underlying72 rfl (by kernel_rfl)) rfl ?_
    exact ⟨rfl,by repeat (first|(with_reducible first|exact HB2.out|apply qf|apply qa|apply qd|refine qg ?_ GE208.out)|exact HB2.out)⟩
  · replace c3:=Bool.eq_false_iff.mpr c3
    subst c3
    have H1 : (some ((0 : Int),(0 : Int),(0 : Int),false)) = some (r1,r2,r3,r4):=by rw [if_neg (show ¬ (false = true) by decide)] at H;exact H
    clear H
    simp only [Option.some.injEq,Prod.mk.injEq] at H1
    obtain ⟨rfl,rfl,rfl,rfl⟩:=H1
    go_enter Try.func39,Try.ntmps39
    go_wp2_with (first|((with_reducible refine gate_dst (N:=1) rfl ?_);refine box_event ?hg (N:=1) ?hd (cs:=#[.int .i64 a0_0,.slice A0_1 l0_1.length c0_1]) (t:=26) ?hr ?_;(case hd=>rfl);(case hg=>rfl);(case hr=>first|(go_simp;done)|(go_simp;rfl));intro gb207 hg w15 hbox hb;have n0_:=hs_ HB hb;have n1_:=qn.mk (hbox);have n2_:=qn.mk ((by rw [hg];exact (qj (by repeat (first|(with_reducible first|exact HB.out|apply qf|apply qa|apply qd)|exact HB.out))) : w.heap.size ≤ gb207));have n3_:=qn.mk ((by rw [hg];exact (qj (by repeat (first|(with_reducible first|exact HB.out|apply qf|apply qa|apply qd)|exact HB.out))) : w.heap.size ≤ gb207));clear HB;have HB:=n0_;have BK207:=n1_;have GW207:=n2_;have GE207:=n3_;clear n0_ n1_ n2_ n3_;clear hb hbox hg)|((with_reducible refine gate_dst (N:=2) rfl ?_);refine box_event ?hg (N:=2) ?hd (cs:=#[.int .i64 0,.int .i64 0,.int .i64 0]) (t:=72) ?hr ?_;(case hd=>rfl);(case hg=>rfl);(case hr=>first|(go_simp;done)|(go_simp;rfl));intro gb208 hg w16 hbox hb;have n0_:=bb_ BK207 hb;have n1_:=hs_ HB hb;have n2_:=qn.mk (hbox);have n3_:=qn.mk ((by rw [hg];exact (qj (by repeat (first|(with_reducible first|exact HB.out|apply qf|apply qa|apply qd|refine qg ?_ GE207.out)|exact HB.out))) : w.heap.size ≤ gb208));have n4_:=qn.mk ((by rw [hg];exact (qj (by repeat (first|(with_reducible first|exact HB.out|apply qf|apply qa|apply qd|refine qg ?_ GE207.out)|exact HB.out))) : w.heap.size ≤ gb208));have n5_:=qn.mk ((by rw [hg];exact nl_ BK207 : gb207 ≠ gb208));have n6_:=qn.mk ((by rw [hg];exact ng_ BK207 : gb208 ≠ gb207));clear BK207;clear HB;have BK207:=n0_;have HB:=n1_;have BK208:=n2_;have GW208:=n3_;have GE208:=n4_;have NB207_208:=n5_;have NB208_207:=n6_;clear n0_ n1_ n2_ n3_ n4_ n5_ n6_;clear hb hbox hg)|((with_reducible refine gate_dst (N:=4) rfl ?_);refine box_event ?hg (N:=4) ?hd (cs:=#[.int .i64 0,.int .i64 0,.int .i64 0]) (t:=72) ?hr ?_;(case hd=>rfl);(case hg=>rfl);(case hr=>first|(go_simp;done)|(go_simp;rfl));intro gb209 hg w17 hbox hb;have n0_:=bb_ BK207 hb;have n1_:=bb_ BK208 hb;have n2_:=hs_ HB hb;have n3_:=qn.mk (hbox);have n4_:=qn.mk ((by rw [hg];exact (qj (by repeat (first|(with_reducible first|exact HB.out|apply qf|apply qa|apply qd|refine qg ?_ GE207.out|refine qg ?_ GE208.out)|exact HB.out))) : w.heap.size ≤ gb209));have n5_:=qn.mk ((by rw [hg];exact (qj (by repeat (first|(with_reducible first|exact HB.out|apply qf|apply qa|apply qd|refine qg ?_ GE207.out|refine qg ?_ GE208.out)|exact HB.out))) : w.heap.size ≤ gb209));have n6_:=qn.mk ((by rw [hg];exact nl_ BK207 : gb207 ≠ gb209));have n7_:=qn.mk ((by rw [hg];exact ng_ BK207 : gb209 ≠ gb207));have n8_:=qn.mk ((by rw [hg];exact nl_ BK208 : gb208 ≠ gb209));have n9_:=qn.mk ((by rw [hg];exact ng_ BK208 : gb209 ≠ gb208));clear BK207;clear BK208;clear HB;have BK207:=n0_;have BK208:=n1_;have HB:=n2_;have BK209:=n3_;have GW209:=n4_;have GE209:=n5_;have NB207_209:=n6_;have NB209_207:=n7_;have NB208_209:=n8_;have NB209_208:=n9_;clear n0_ n1_ n2_ n3_ n4_ n5_ n6_ n7_ n8_ n9_;clear hb hbox hg;have hnb18:=NB207_208.out;have hnc18:=NB208_207.out;have hnb19:=NB207_209.out;have hnc19:=NB209_207.out;have hcz20_0 : w17.cell? ⟨gb207,0,none⟩ = some (.int .i64 a0_0):=(qh BK207.out 0).trans rfl;have hcz20_1 : w17.cell? ⟨gb207,1,none⟩ = some (.slice A0_1 l0_1.length c0_1):=(qh BK207.out 1).trans rfl;have hfz20_0:=qi BK207.out 0;have hfz20_1:=qi BK207.out 1)|((with_reducible refine gate_callee (f:=16) rfl ?_);refine goesL_ (some 6) rfl rfl Try.func16 (by kernel_rfl) rfl #[.agg #[.int .i64 a0_0,.slice A0_1 l0_1.length c0_1]] rfl (by (try simp only [List.map_toArray,List.map_cons,List.map_nil]);first|done|rfl|(simp only [List.length_drop,List.length_take];rfl)) ?_;(with_reducible refine (impl_GraphOk.calls k a0_0 _ _ l0_1 false _ ?side1 ?side2 A2.out).mono ?_);(case side1=>repeat (first|exact (Kd.C_below HR0_1.out HB.out)|(with_reducible refine Kd.C_alloc ?_ _)|(with_reducible refine Kd.C_drewN ?_ _)|(with_reducible refine Kd.C_drew ?_)));(case side2=>exact HC0_1.out);rintro e w21 ⟨rfl,hb⟩;refine ⟨_,rfl,?_⟩;have n0_:=bb_ BK207 hb;have n1_:=bb_ BK208 hb;have n2_:=bb_ BK209 hb;have n3_:=hs_ HB hb;clear BK207;clear BK208;clear BK209;clear HB;have BK207:=n0_;have BK208:=n1_;have BK209:=n2_;have HB:=n3_;clear n0_ n1_ n2_ n3_;(try clear hb);(try clear hb2);(try clear hk);(try clear hi);have hnb22:=NB209_208.out;have hnc22:=NB208_209.out;have hcz23_0 : w21.cell? ⟨gb209,0,none⟩ = some (.int .i64 0):=(qh BK209.out 0).trans rfl;have hcz23_1 : w21.cell? ⟨gb209,1,none⟩ = some (.int .i64 0):=(qh BK209.out 1).trans rfl;have hcz23_2 : w21.cell? ⟨gb209,2,none⟩ = some (.int .i64 0):=(qh BK209.out 2).trans rfl;have hfz23_0:=qi BK209.out 0;have hfz23_1:=qi BK209.out 1;have hfz23_2:=qi BK209.out 2;have hcz24_0 : w21.cell? ⟨gb208,0,none⟩ = some (.int .i64 0):=(qh BK208.out 0).trans rfl;have hcz24_1 : w21.cell? ⟨gb208,1,none⟩ = some (.int .i64 0):=(qh BK208.out 1).trans rfl;have hcz24_2 : w21.cell? ⟨gb208,2,none⟩ = some (.int .i64 0):=(qh BK208.out 2).trans rfl;have hfz24_0:=qi BK208.out 0;have hfz24_1:=qi BK208.out 1;have hfz24_2:=qi BK208.out 2))
    refine bodyPost_ret (results_ct rfl _ _ gb208 72 #[.int .i64 0,.int .i64 0,.int .i64 0] (0,0) _ rfl (by (with_reducible repeat (first|refine qb ?_ _|refine qe ?_|refine qc ?_ _));refine blk_put (cs:=#[.int .i64 0,.int .i64 0,.int .i64 0]) ?_ 2 _ rfl;(with_reducible repeat (first|refine qb ?_ _|refine qe ?_|refine qc ?_ _));refine blk_put (cs:=#[.int .i64 0,.int .i64 0,.int .i64 0]) ?_ 1 _ rfl;(with_reducible repeat (first|refine qb ?_ _|refine qe ?_|refine qc ?_ _));refine blk_put (cs:=#[.int .i64 0,.int .i64 0,.int .i64 0]) ?_ 0 _ rfl;(with_reducible repeat (first|refine qb ?_ _|refine qe ?_|refine qc ?_ _));exact BK208.out) Try.underlying72 rfl (by kernel_rfl)) rfl ?_
    exact ⟨by first|rfl|(simp [errW_none,errW_some] <;> rfl)|(simp [*,errW_none,errW_some] <;> rfl),by repeat (first|(with_reducible first|exact HB.out|apply qf|apply qa|apply qd|refine qg ?_ GE207.out|refine qg ?_ GE208.out|refine qg ?_ GE209.out)|exact HB.out)⟩

end Go.Proofs.Ytfmemcffbfahhaa.QFnExactBestSums
