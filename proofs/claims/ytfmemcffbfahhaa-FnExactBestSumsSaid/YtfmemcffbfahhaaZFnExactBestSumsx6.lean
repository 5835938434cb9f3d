/- Lean functions for the Go functions that the law FnExactBestSums reaches, and that each Go function comes to just its Lean function's answer; by a program of this session. -/
import Derived.Test.YtfmemcffbfahhaaZFnExactBestSumsx0
import Derived.Test.YtfmemcffbfahhaaZFnExactBestSumsx1
import Derived.Test.YtfmemcffbfahhaaZFnExactBestSumsx5
import Derived.Test.YtfmemcffbfahhaaZFnExactBestSumsx8
namespace Go.Proofs.Ytfmemcffbfahhaa.QFnExactBestSums
open Go.RowKit Go.Proofs.YtfmemcffbfahhaaW.PrintWords Go.Proofs.YtfmemcffbfahhaaW.PrintLast Go.Proofs.YtfmemcffbfahhaaW.PrintMore
attribute [local go_sem] max2_int min2_int max_two min_two max_three min_three max_four min_four   -- for this text's walks alone
set_option linter.unusedVariables false
set_option linter.unusedSimpArgs false

/-! ### laws_eqSums: function 40 -/
def laws_eqSums.f (a0_0 : Int) (a0_1 : Int) (a0_2 : Int) (a1_0 : Int) (a1_1 : Int) (a1_2 : Int) : Option (Bool):=if a0_0 = a1_0 then (if a0_1 = a1_1 then (if a0_2 = a1_2 then (some true) else (some false)) else (some false)) else (some false)
set_option maxHeartbeats 8000000 in
set_option maxRecDepth 100000 in
theorem laws_eqSums.calls (a0_0 : Int) (a0_1 : Int) (a0_2 : Int) (a1_0 : Int) (a1_1 : Int) (a1_2 : Int) (r : Bool) (w : World) (h : laws_eqSums.f a0_0 a0_1 a0_2 a1_0 a1_1 a1_2 = some r) :
    Calls Try.prog 40 #[.agg #[.int .i64 a0_0,.int .i64 a0_1,.int .i64 a0_2],.agg #[.int .i64 a1_0,.int .i64 a1_1,.int .i64 a1_2]] w fun e w'=>e = .returned (.bool r) ∧ Below w.heap.size w w':=by
  have hu72:=Try.underlying72
  have HB:=qn.mk (Below.refl w.heap.size w)
  have H : (if a0_0 = a1_0 then (if a0_1 = a1_1 then (if a0_2 = a1_2 then (some true) else (some false)) else (some false)) else (some false)) = some r:=h
  clear h
  by_cases c3 : a0_0 = a1_0
  · rw [if_pos c3] at H
    have c3b0 : (a0_0 == a1_0) = true:=beq_iff_eq.mpr c3
    have c3b1 : (a0_0 != a1_0) = false:=bne_eq_false_iff_eq.mpr c3
    clear c3
    by_cases c4 : a0_1 = a1_1
    · rw [if_pos c4] at H
      have c4b0 : (a0_1 == a1_1) = true:=beq_iff_eq.mpr c4
      have c4b1 : (a0_1 != a1_1) = false:=bne_eq_false_iff_eq.mpr c4
      clear c4
      by_cases c5 : a0_2 = a1_2
      · rw [if_pos c5] at H
        have c5b0 : (a0_2 == a1_2) = true:=beq_iff_eq.mpr c5
        have c5b1 : (a0_2 != a1_2) = false:=bne_eq_false_iff_eq.mpr c5
        clear c5
        obtain rfl:=Option.some.inj H
        go_enter Try.func40,Try.ntmps40
        go_wp2_with (first|((with_reducible refine gate_dst (N:=2) rfl ?_);refine box_event ?hg (N:=2) ?hd (cs:=#[.int .i64 a0_0,.int .i64 a0_1,.int .i64 a0_2]) (t:=72) ?hr ?_;(case hd=>rfl);(case hg=>rfl);(case hr=>first|(go_simp;done)|(go_simp;rfl));intro gb211 hg w6 hbox hb;have n0_:=hs_ HB hb;have n1_:=qn.mk (hbox);have n2_:=qn.mk ((by rw [hg];exact (qj (by repeat (first|(with_reducible first|exact HB.out|apply qf|apply qa|apply qd)|exact HB.out))) : w.heap.size ≤ gb211));have n3_:=qn.mk ((by rw [hg];exact (qj (by repeat (first|(with_reducible first|exact HB.out|apply qf|apply qa|apply qd)|exact HB.out))) : w.heap.size ≤ gb211));clear HB;have HB:=n0_;have BK211:=n1_;have GW211:=n2_;have GE211:=n3_;clear n0_ n1_ n2_ n3_;clear hb hbox hg)|((with_reducible refine gate_dst (N:=3) rfl ?_);refine box_event ?hg (N:=3) ?hd (cs:=#[.int .i64 a1_0,.int .i64 a1_1,.int .i64 a1_2]) (t:=72) ?hr ?_;(case hd=>rfl);(case hg=>rfl);(case hr=>first|(go_simp;done)|(go_simp;rfl));intro gb212 hg w7 hbox hb;have n0_:=bb_ BK211 hb;have n1_:=hs_ HB hb;have n2_:=qn.mk (hbox);have n3_:=qn.mk ((by rw [hg];exact (qj (by repeat (first|(with_reducible first|exact HB.out|apply qf|apply qa|apply qd|refine qg ?_ GE211.out)|exact HB.out))) : w.heap.size ≤ gb212));have n4_:=qn.mk ((by rw [hg];exact (qj (by repeat (first|(with_reducible first|exact HB.out|apply qf|apply qa|apply qd|refine qg ?_ GE211.out)|exact HB.out))) : w.heap.size ≤ gb212));have n5_:=qn.mk ((by rw [hg];exact nl_ BK211 : gb211 ≠ gb212));have n6_:=qn.mk ((by rw [hg];exact ng_ BK211 : gb212 ≠ gb211));clear BK211;clear HB;have BK211:=n0_;have HB:=n1_;have BK212:=n2_;have GW212:=n3_;have GE212:=n4_;have NB211_212:=n5_;have NB212_211:=n6_;clear n0_ n1_ n2_ n3_ n4_ n5_ n6_;clear hb hbox hg;have hnb8:=NB211_212.out;have hnc8:=NB212_211.out;have hcz9_0 : w7.cell? ⟨gb211,0,none⟩ = some (.int .i64 a0_0):=(qh BK211.out 0).trans rfl;have hcz9_1 : w7.cell? ⟨gb211,1,none⟩ = some (.int .i64 a0_1):=(qh BK211.out 1).trans rfl;have hcz9_2 : w7.cell? ⟨gb211,2,none⟩ = some (.int .i64 a0_2):=(qh BK211.out 2).trans rfl;have hfz9_0:=qi BK211.out 0;have hfz9_1:=qi BK211.out 1;have hfz9_2:=qi BK211.out 2;have hcz10_0 : w7.cell? ⟨gb212,0,none⟩ = some (.int .i64 a1_0):=(qh BK212.out 0).trans rfl;have hcz10_1 : w7.cell? ⟨gb212,1,none⟩ = some (.int .i64 a1_1):=(qh BK212.out 1).trans rfl;have hcz10_2 : w7.cell? ⟨gb212,2,none⟩ = some (.int .i64 a1_2):=(qh BK212.out 2).trans rfl;have hfz10_0:=qi BK212.out 0;have hfz10_1:=qi BK212.out 1;have hfz10_2:=qi BK212.out 2))
        go_ret
        exact ⟨by first|rfl|(simp [errW_none,errW_some] <;> rfl)|(simp [*,errW_none,errW_some] <;> rfl),by repeat (first|(with_reducible first|exact HB.out|apply qf|apply qa|apply qd|refine qg ?_ GE211.out|refine qg ?_ GE212.out)|exact HB.out)⟩
      · rw [if_neg c5] at H
        have c5b0 : (a0_2 == a1_2) = false:=beq_eq_false_iff_ne.mpr c5
        have c5b1 : (a0_2 != a1_2) = true:=bne_iff_ne.mpr c5
        obtain rfl:=Option.some.inj H
        go_enter Try.func40,Try.ntmps40
        go_wp2_with (first|((with_reducible refine gate_dst (N:=2) rfl ?_);refine box_event ?hg (N:=2) ?hd (cs:=#[.int .i64 a0_0,.int .i64 a0_1,.int .i64 a0_2]) (t:=72) ?hr ?_;(case hd=>rfl);(case hg=>rfl);(case hr=>first|(go_simp;done)|(go_simp;rfl));intro gb211 hg w11 hbox hb;have n0_:=hs_ HB hb;have n1_:=qn.mk (hbox);have n2_:=qn.mk ((by rw [hg];exact (qj (by repeat (first|(with_reducible first|exact HB.out|apply qf|apply qa|apply qd)|exact HB.out))) : w.heap.size ≤ gb211));have n3_:=qn.mk ((by rw [hg];exact (qj (by repeat (first|(with_reducible first|exact HB.out|apply qf|apply qa|apply qd)|exact HB.out))) : w.heap.size ≤ gb211));clear HB;have HB:=n0_;have BK211:=n1_;have GW211:=n2_;have GE211:=n3_;clear n0_ n1_ n2_ n3_;clear hb hbox hg)|((with_reducible refine gate_dst (N:=3) rfl ?_);refine box_event ?hg (N:=3) ?hd (cs:=#[.int .i64 a1_0,.int .i64 a1_1,.int .i64 a1_2]) (t:=72) ?hr ?_;(case hd=>rfl);(case hg=>rfl);(case hr=>first|(go_simp;done)|(go_simp;rfl));intro gb212 hg w12 hbox hb;have n0_:=bb_ BK211 hb;have n1_:=hs_ HB hb;have n2_:=qn.mk (hbox);have n3_:=qn.mk ((by rw [hg];exact (qj (by repeat (first|(with_reducible first|exact HB.out|apply qf|apply qa|apply qd|refine qg ?_ GE211.out)|exact HB.out))) : w.heap.size ≤ gb212));have n4_:=qn.mk ((by rw [hg];exact (qj (by repeat (first|(with_reducible first|exact HB.out|apply qf|apply qa|apply qd|refine qg ?_ GE211.out)|exact HB.out))) : w.heap.size ≤ gb212));have n5_:=qn.mk ((by rw [hg];exact nl_ BK211 : gb211 ≠ gb212));have n6_:=qn.mk ((by rw [hg];exact ng_ BK211 : gb212 ≠ gb211));clear BK211;clear HB;have BK211:=n0_;have HB:=n1_;have BK212:=n2_;have GW212:=n3_;have GE212:=n4_;have NB211_212:=n5_;have NB212_211:=n6_;clear n0_ n1_ n2_ n3_ n4_ n5_ n6_;clear hb hbox hg;have hnb13:=NB211_212.out;have hnc13:=NB212_211.out;have hcz14_0 : w12.cell? ⟨gb211,0,none⟩ = some (.int .i64 a0_0):=(qh BK211.out 0).trans rfl;have hcz14_1 : w12.cell? ⟨gb211,1,none⟩ = some (.int .i64 a0_1):=(qh BK211.out 1).trans rfl;have hcz14_2 : w12.cell? ⟨gb211,2,none⟩ = some (.int .i64 a0_2):=(qh BK211.out 2).trans rfl;have hfz14_0:=qi BK211.out 0;have hfz14_1:=qi BK211.out 1;have hfz14_2:=qi BK211.out 2;have hcz15_0 : w12.cell? ⟨gb212,0,none⟩ = some (.int .i64 a1_0):=(qh BK212.out 0).trans rfl;have hcz15_1 : w12.cell? ⟨gb212,1,none⟩ = some (.int .i64 a1_1):=(qh BK212.out 1).trans rfl;have hcz15_2 : w12.cell? ⟨gb212,2,none⟩ = some (.int .i64 a1_2):=(qh BK212.out 2).trans rfl;have hfz15_0:=qi BK212.out 0;have hfz15_1:=qi BK212.out 1;have hfz15_2:=qi BK212.out 2))
        go_ret
        exact ⟨by first|rfl|(simp [errW_none,errW_some] <;> rfl)|(simp [*,errW_none,errW_some] <;> rfl),by repeat (first|(with_reducible first|exact HB.out|apply qf|apply qa|apply qd|refine qg ?_ GE211.out|refine qg ?_ GE212.out)|exact HB.out)⟩
    · rw [if_neg c4] at H
      have c4b0 : (a0_1 == a1_1) = false:=beq_eq_false_iff_ne.mpr c4
      have c4b1 : (a0_1 != a1_1) = true:=bne_iff_ne.mpr c4
      obtain rfl:=Option.some.inj H
      go_enter Try.func40,Try.ntmps40
      go_wp2_with (first|((with_reducible refine gate_dst (N:=2) rfl ?_);refine box_event ?hg (N:=2) ?hd (cs:=#[.int .i64 a0_0,.int .i64 a0_1,.int .i64 a0_2]) (t:=72) ?hr ?_;(case hd=>rfl);(case hg=>rfl);(case hr=>first|(go_simp;done)|(go_simp;rfl));intro gb211 hg w16 hbox hb;have n0_:=hs_ HB hb;have n1_:=qn.mk (hbox);have n2_:=qn.mk ((by rw [hg];exact (qj (by repeat (first|(with_reducible first|exact HB.out|apply qf|apply qa|apply qd)|exact HB.out))) : w.heap.size ≤ gb211));have n3_:=qn.mk ((by rw [hg];exact (qj (by repeat (first|(with_reducible first|exact HB.out|apply qf|apply qa|apply qd)|exact HB.out))) : w.heap.size ≤ gb211));clear HB;have HB:=n0_;have BK211:=n1_;have GW211:=n2_;have GE211:=n3_;clear n0_ n1_ n2_ n3_;clear hb hbox hg)|((with_reducible refine gate_dst (N:=3) rfl ?_);refine box_event ?hg (N:=3) ?hd (cs:=#[.int .i64 a1_0,.int .i64 a1_1,.int .i64 a1_2]) (t:=72) ?hr ?_;(case hd=>rfl);(case hg=>rfl);(case hr=>first|(go_simp;done)|(go_simp;rfl));intro gb212 hg w17 hbox hb;have n0_:=bb_ BK211 hb;have n1_:=hs_ HB hb;have n2_:=qn.mk (hbox);have n3_:=qn.mk ((by rw [hg];exact (qj (by repeat (first|(with_reducible first|exact HB.out|apply qf|apply qa|apply qd|refine qg ?_ GE211.out)|exact HB.out))) : w.heap.size ≤ gb212));have n4_:=qn.mk ((by rw [hg];exact (qj (by repeat (first|(with_reducible first|exact HB.out|apply qf|apply qa|apply qd|refine qg ?_ GE211.out)|exact HB.out))) : w.heap.size ≤ gb212));have n5_:=qn.mk ((by rw [hg];exact nl_ BK211 : gb211 ≠ gb212));have n6_:=qn.mk ((by rw [hg];exact ng_ BK211 : gb212 ≠ gb211));clear BK211;clear HB;have BK211:=n0_;have HB:=n1_;have BK212:=n2_;have GW212:=n3_;have GE212:=n4_;have NB211_212:=n5_;have NB212_211:=n6_;clear n0_ n1_ n2_ n3_ n4_ n5_ n6_;clear hb hbox hg;have hnb18:=NB211_212.out;have hnc18:=NB212_211.out;have hcz19_0 : w17.cell? ⟨gb211,0,none⟩ = some (.int .i64 a0_0):=(qh BK211.out 0).trans rfl;have hcz19_1 : w17.cell? ⟨gb211,1,none⟩ = some (.int .i64 a0_1):=(qh BK211.out 1).trans rfl;have hcz19_2 : w17.cell? ⟨gb211,2,none⟩ = some (.int .i64 a0_2):=(qh BK211.out 2).trans rfl;have hfz19_0:=qi BK211.out 0;have hfz19_1:=qi BK211.out 1;have hfz19_2:=qi BK211.out 2;have hcz20_0 : w17.cell? ⟨gb212,0,none⟩ = some (.int .i64 a1_0):=(qh BK212.out 0).trans rfl;have hcz20_1 : w17.cell? ⟨gb212,1,none⟩ = some (.int .i64 a1_1):=(qh BK212.out 1).trans rfl;have hcz20_2 : w17.cell? ⟨gb212,2,none⟩ = some (.int .i64 a1_2):=(qh BK212.out 2).trans rfl;have hfz20_0:=qi BK212.out 0;have hfz20_1:=qi BK212.out 1;have hfz20_2:=qi BK212.out 2))
      go_ret
      exact ⟨by first|rfl|(simp [errW_none,errW_some] <;> rfl)|(simp [*,errW_none,errW_some] <;> rfl),by repeat (first|(with_reducible first|exact HB.out|apply qf|apply qa|apply qd|refine qg ?_ GE211.out|refine qg ?_ GE212.out)|exact HB.out)⟩
  · rw [if_neg c3] at H
    have c3b0 : (a0_0 == a1_0) = false:=beq_eq_false_iff_ne.mpr c3
    have c3b1 : (a0_0 != a1_0) = true:=bne_iff_ne.mpr c3
    obtain rfl:=Option.some.inj H
    go_enter Try.func40,Try.ntmps40
    go_wp2_with (first|((with_reducible refine gate_dst (N:=2) rfl ?_);refine box_event ?hg (N:=2) ?hd (cs:=#[.int .i64 a0_0,.int .i64 a0_1,.int .i64 a0_2]) (t:=72) ?hr ?_;(case hd=>rfl);(case hg=>rfl);(case hr=>first|(go_simp;done)|(go_simp;rfl));intro gb211 hg w21 hbox hb;have n0_:=hs_ HB hb;have n1_:=qn.mk (hbox);have n2_:=qn.mk ((by rw [hg];exact (qj (by repeat (first|(with_reducible first|exact HB.out|apply qf|apply qa|apply qd)|exact HB.out))) : w.heap.size ≤ gb211));have n3_:=qn.mk ((by rw [hg];exact (qj (by repeat (first|(with_reducible first|exact HB.out|apply qf|apply qa|apply qd)|exact HB.out))) : w.heap.size ≤ gb211));clear HB;have HB:=n0_;have BK211:=n1_;have GW211:=n2_;have GE211:=n3_;clear n0_ n1_ n2_ n3_;clear hb hbox hg)|((with_reducible refine gate_dst (N:=3) rfl ?_);refine box_event ?hg (N:=3) ?hd (cs:=#[.int .i64 a1_0,.int .i64 a1_1,.int .i64 a1_2]) (t:=72) ?hr ?_;(case hd=>rfl);(case hg=>rfl);(case hr=>first|(go_simp;done)|(go_simp;rfl));intro gb212 hg w22 hbox hb;have n0_:=bb_ BK211 hb;have n1_:=hs_ HB hb;have n2_:=qn.mk (hbox);have n3_:=qn.mk ((by rw [hg];exact (qj (by repeat (first|(with_reducible first|exact HB.out|apply qf|apply qa|apply qd|refine qg ?_ GE211.out)|exact HB.out))) : w.heap.size ≤ gb212));have n4_:=qn.mk ((by rw [hg];exact (qj (by repeat (first|(with_reducible first|exact HB.out|apply qf|apply qa|apply qd|refine qg ?_ GE211.out)|exact HB.out))) : w.heap.size ≤ gb212));have n5_:=qn.mk ((by rw [hg];exact nl_ BK211 : gb211 ≠ gb212));have n6_:=qn.mk ((by rw [hg];exact ng_ BK211 : gb212 ≠ gb211));clear BK211;clear HB;have BK211:=n0_;have HB:=n1_;have BK212:=n2_;have GW212:=n3_;have GE212:=n4_;have NB211_212:=n5_;have NB212_211:=n6_;clear n0_ n1_ n2_ n3_ n4_ n5_ n6_;clear hb hbox hg;have hnb23:=NB211_212.out;have hnc23:=NB212_211.out;have hcz24_0 : w22.cell? ⟨gb211,0,none⟩ = some (.int .i64 a0_0):=(qh BK211.out 0).trans rfl;have hcz24_1 : w22.cell? ⟨gb211,1,none⟩ = some (.int .i64 a0_1):=(qh BK211.out 1).trans rfl;have hcz24_2 : w22.cell? ⟨gb211,2,none⟩ = some (.int .i64 a0_2):=(qh BK211.out 2).trans rfl;have hfz24_0:=qi BK211.out 0;have hfz24_1:=qi BK211.out 1;have hfz24_2:=qi BK211.out 2;have hcz25_0 : w22.cell? ⟨gb212,0,none⟩ = some (.int .i64 a1_0):=(qh BK212.out 0).trans rfl;have hcz25_1 : w22.cell? ⟨gb212,1,none⟩ = some (.int .i64 a1_1):=(qh BK212.out 1).trans rfl;have hcz25_2 : w22.cell? ⟨gb212,2,none⟩ = some (.int .i64 a1_2):=(qh BK212.out 2).trans rfl;have hfz25_0:=qi BK212.out 0;have hfz25_1:=qi BK212.out 1;have hfz25_2:=qi BK212.out 2))
    go_ret
    exact ⟨by first|rfl|(simp [errW_none,errW_some] <;> rfl)|(simp [*,errW_none,errW_some] <;> rfl),by repeat (first|(with_reducible first|exact HB.out|apply qf|apply qa|apply qd|refine qg ?_ GE211.out|refine qg ?_ GE212.out)|exact HB.out)⟩

/-! ### laws_FnExactBestSums: function 8 -/
def laws_FnExactBestSums.j0 : Nat → Bool → Int → List (S148) → Int → List (S36) → Option (Bool)
  | 0,_,_,_,_,_=>none
  | k + 1,x35,x214000,x214001,x229000,x229001=>if x35 = true then (some false) else ((laws_toGraph.f k x214000 x214001).bind fun bt235=>((laws_eqGraph.f k x229000 x229001 bt235.1 bt235.2).bind fun t239=>(if t239 = true then (some true) else (some false))))
def laws_FnExactBestSums.f (k : Nat) (a0_0 : Int) (l0_1 : List (S148)) : Option (Bool):=(laws_szGraph.f a0_0 l0_1 1048576).bind fun t214=>(if t214 < 0 then (some true) else ((laws_toGraph.f k a0_0 l0_1).bind fun bt215=>((spec_BestSums.f k bt215.1 bt215.2).bind fun bt219=>((laws_toGraph.f k a0_0 l0_1).bind fun bt224=>((impl_BestSums.f k bt224.1 bt224.2).bind fun bt229=>((laws_eqSums.f bt229.1 bt229.2.1 bt229.2.2.1 bt219.1 bt219.2.1 bt219.2.2.1).bind fun t234=>(if t234 = true then (laws_FnExactBestSums.j0 k (bt229.2.2.2 != bt219.2.2.2) a0_0 l0_1 bt224.1 bt224.2) else (laws_FnExactBestSums.j0 k true a0_0 l0_1 bt224.1 bt224.2))))))))
theorem laws_FnExactBestSums.mono_l : ∀ k,(∀ y0 y1 y2 y3 y4,LeO (laws_FnExactBestSums.j0 k y0 y1 y2 y3 y4) (laws_FnExactBestSums.j0 (k + 1) y0 y1 y2 y3 y4))
  | 0=>fun _ _ _ _ _ r h=>by simp [laws_FnExactBestSums.j0] at h
  | k + 1=>by
    have ih0:=laws_FnExactBestSums.mono_l k
    · intro y0 y1 y2 y3 y4
      unfold laws_FnExactBestSums.j0
      repeat' first
      | (with_reducible exact ih0 _ _ _ _ _)
      | (with_reducible exact impl_BestSums.mono _ _ _)
      | (with_reducible exact laws_eqGraph.mono _ _ _ _ _)
      | (with_reducible exact laws_toGraph.mono _ _ _)
      | (with_reducible exact spec_BestSums.mono _ _ _)
      | (with_reducible exact LeO.refl _)
      | (with_reducible exact LeO.none _)
      | (with_reducible refine LeO.ite ?_ ?_)
      | (with_reducible refine LeO.bind ?_ (fun _=>?_))
      | exact ih0 _ _ _ _ _
      | exact impl_BestSums.mono _ _ _
      | exact laws_eqGraph.mono _ _ _ _ _
      | exact laws_toGraph.mono _ _ _
      | exact spec_BestSums.mono _ _ _
      | exact LeO.none _
      | refine LeO.ite ?_ ?_
      | refine LeO.bind ?_ (fun _=>?_)
theorem laws_FnExactBestSums.mono : ∀ a0 a1 k,LeO (laws_FnExactBestSums.f k a0 a1) (laws_FnExactBestSums.f (k + 1) a0 a1):=by
  intro a0 a1 k
  have ih0:=laws_FnExactBestSums.mono_l k
  unfold laws_FnExactBestSums.f
  repeat' first
      | (with_reducible exact ih0 _ _ _ _ _)
      | (with_reducible exact impl_BestSums.mono _ _ _)
      | (with_reducible exact laws_eqGraph.mono _ _ _ _ _)
      | (with_reducible exact laws_toGraph.mono _ _ _)
      | (with_reducible exact spec_BestSums.mono _ _ _)
      | (with_reducible exact LeO.refl _)
      | (with_reducible exact LeO.none _)
      | (with_reducible refine LeO.ite ?_ ?_)
      | (with_reducible refine LeO.bind ?_ (fun _=>?_))
      | exact ih0 _ _ _ _ _
      | exact impl_BestSums.mono _ _ _
      | exact laws_eqGraph.mono _ _ _ _ _
      | exact laws_toGraph.mono _ _ _
      | exact spec_BestSums.mono _ _ _
      | exact LeO.none _
      | refine LeO.ite ?_ ?_
      | refine LeO.bind ?_ (fun _=>?_)
set_option maxHeartbeats 8000000 in
set_option maxRecDepth 100000 in
theorem laws_FnExactBestSums.calls (k : Nat) (a0_0 : Int) (A0_1 : Option Addr) (c0_1 : Nat) (l0_1 : List (S148)) (r : Bool) (w : World) (hr0_1 : Kd.C k148 w A0_1 l0_1.length l0_1) (hc0_1 : l0_1.length ≤ c0_1) (h : laws_FnExactBestSums.f k a0_0 l0_1 = some r) :
    Calls Try.prog 8 #[.agg #[.int .i64 a0_0,.slice A0_1 l0_1.length c0_1]] w fun e w'=>e = .returned (.bool r) ∧ Below w.heap.size w w':=by
  have hu65:=Try.underlying65
  have hu72:=Try.underlying72
  have hu26:=Try.underlying26
  have HR0_1:=qn.mk hr0_1
  have HC0_1:=qn.mk hc0_1
  clear hr0_1 hc0_1
  have HB:=qn.mk (Below.refl w.heap.size w)
  have H : ((laws_szGraph.f a0_0 l0_1 1048576).bind fun t214=>(if t214 < 0 then (some true) else ((laws_toGraph.f k a0_0 l0_1).bind fun bt215=>((spec_BestSums.f k bt215.1 bt215.2).bind fun bt219=>((laws_toGraph.f k a0_0 l0_1).bind fun bt224=>((impl_BestSums.f k bt224.1 bt224.2).bind fun bt229=>((laws_eqSums.f bt229.1 bt229.2.1 bt229.2.2.1 bt219.1 bt219.2.1 bt219.2.2.1).bind fun t234=>(if t234 = true then (laws_FnExactBestSums.j0 k (bt229.2.2.2 != bt219.2.2.2) a0_0 l0_1 bt224.1 bt224.2) else (laws_FnExactBestSums.j0 k true a0_0 l0_1 bt224.1 bt224.2))))))))) = some r:=h
  clear h
  replace H:=Option.bind_eq_some_iff.mp H
  obtain ⟨t214,A20,H⟩:=H
  replace H : (if t214 < 0 then (some true) else ((laws_toGraph.f k a0_0 l0_1).bind fun bt215=>((spec_BestSums.f k bt215.1 bt215.2).bind fun bt219=>((laws_toGraph.f k a0_0 l0_1).bind fun bt224=>((impl_BestSums.f k bt224.1 bt224.2).bind fun bt229=>((laws_eqSums.f bt229.1 bt229.2.1 bt229.2.2.1 bt219.1 bt219.2.1 bt219.2.2.1).bind fun t234=>(if t234 = true then (laws_FnExactBestSums.j0 k (bt229.2.2.2 != bt219.2.2.2) a0_0 l0_1 bt224.1 bt224.2) else (laws_FnExactBestSums.j0 k true a0_0 l0_1 bt224.1 bt224.2)))))))) = some r:=H
  have A2:=qn.mk A20
  clear A20
  by_cases c3 : t214 < 0
  · rw [if_pos c3] at H
    have c3b0 : decide (t214 < 0) = true:=decide_eq_true c3
    clear c3
    obtain rfl:=Option.some.inj H
    go_enter Try.func8,Try.ntmps8
    go_wp2_with (first|((with_reducible refine gate_dst (N:=1) rfl ?_);refine box_event ?hg (N:=1) ?hd (cs:=#[.int .i64 a0_0,.slice A0_1 l0_1.length c0_1]) (t:=65) ?hr ?_;(case hd=>rfl);(case hg=>rfl);(case hr=>first|(go_simp;done)|(go_simp;rfl));intro gb213 hg w4 hbox hb;have n0_:=hs_ HB hb;have n1_:=qn.mk (hbox);have n2_:=qn.mk ((by rw [hg];exact (qj (by repeat (first|(with_reducible first|exact HB.out|apply qf|apply qa|apply qd)|exact HB.out))) : w.heap.size ≤ gb213));have n3_:=qn.mk ((by rw [hg];exact (qj (by repeat (first|(with_reducible first|exact HB.out|apply qf|apply qa|apply qd)|exact HB.out))) : w.heap.size ≤ gb213));clear HB;have HB:=n0_;have BK213:=n1_;have GW213:=n2_;have GE213:=n3_;clear n0_ n1_ n2_ n3_;clear hb hbox hg;have hcz5_0 : w4.cell? ⟨gb213,0,none⟩ = some (.int .i64 a0_0):=(qh BK213.out 0).trans rfl;have hcz5_1 : w4.cell? ⟨gb213,1,none⟩ = some (.slice A0_1 l0_1.length c0_1):=(qh BK213.out 1).trans rfl;have hfz5_0:=qi BK213.out 0;have hfz5_1:=qi BK213.out 1)|((with_reducible refine gate_callee (f:=33) rfl ?_);refine goesL_ (some 11) rfl rfl Try.func33 (by kernel_rfl) rfl #[.agg #[.int .i64 a0_0,.slice A0_1 l0_1.length c0_1],.int .i64 1048576] rfl (by (try simp only [List.map_toArray,List.map_cons,List.map_nil]);first|done|rfl|(simp only [List.length_drop,List.length_take];rfl)) ?_;(with_reducible refine (laws_szGraph.calls a0_0 _ _ l0_1 1048576 t214 _ ?side1 ?side2 A2.out).mono ?_);(case side1=>repeat (first|exact (Kd.C_below HR0_1.out HB.out)|(with_reducible refine Kd.C_alloc ?_ _)|(with_reducible refine Kd.C_drewN ?_ _)|(with_reducible refine Kd.C_drew ?_)));(case side2=>exact HC0_1.out);rintro e w6 ⟨rfl,hb⟩;refine ⟨_,rfl,?_⟩;have n0_:=bb_ BK213 hb;have n1_:=hs_ HB hb;clear BK213;clear HB;have BK213:=n0_;have HB:=n1_;clear n0_ n1_;(try clear hb);(try clear hb2);(try clear hk);(try clear hi)))
    go_ret
    exact ⟨by first|rfl|(simp [errW_none,errW_some] <;> rfl)|(simp [*,errW_none,errW_some] <;> rfl),by repeat (first|(with_reducible first|exact HB.out|apply qf|apply qa|apply qd|refine qg ?_ GE213.out)|exact HB.out)⟩
  · rw [if_neg c3] at H
    have c3b0 : decide (t214 < 0) = false:=decide_eq_false c3
    clear c3
    replace H:=Option.bind_eq_some_iff.mp H
    obtain ⟨⟨t215,t216⟩,A70,H⟩:=H
    replace H : ((spec_BestSums.f k t215 t216).bind fun bt219=>((laws_toGraph.f k a0_0 l0_1).bind fun bt224=>((impl_BestSums.f k bt224.1 bt224.2).bind fun bt229=>((laws_eqSums.f bt229.1 bt229.2.1 bt229.2.2.1 bt219.1 bt219.2.1 bt219.2.2.1).bind fun t234=>(if t234 = true then (laws_FnExactBestSums.j0 k (bt229.2.2.2 != bt219.2.2.2) a0_0 l0_1 bt224.1 bt224.2) else (laws_FnExactBestSums.j0 k true a0_0 l0_1 bt224.1 bt224.2)))))) = some r:=H
    have A7:=qn.mk A70
    clear A70
    replace H:=Option.bind_eq_some_iff.mp H
    obtain ⟨⟨t219,t220,t221,t222⟩,A80,H⟩:=H
    replace H : ((laws_toGraph.f k a0_0 l0_1).bind fun bt224=>((impl_BestSums.f k bt224.1 bt224.2).bind fun bt229=>((laws_eqSums.f bt229.1 bt229.2.1 bt229.2.2.1 t219 t220 t221).bind fun t234=>(if t234 = true then (laws_FnExactBestSums.j0 k (bt229.2.2.2 != t222) a0_0 l0_1 bt224.1 bt224.2) else (laws_FnExactBestSums.j0 k true a0_0 l0_1 bt224.1 bt224.2))))) = some r:=H
    have A8:=qn.mk A80
    clear A80
    replace H:=Option.bind_eq_some_iff.mp H
    obtain ⟨⟨t224,t225⟩,A90,H⟩:=H
    replace H : ((impl_BestSums.f k t224 t225).bind fun bt229=>((laws_eqSums.f bt229.1 bt229.2.1 bt229.2.2.1 t219 t220 t221).bind fun t234=>(if t234 = true then (laws_FnExactBestSums.j0 k (bt229.2.2.2 != t222) a0_0 l0_1 t224 t225) else (laws_FnExactBestSums.j0 k true a0_0 l0_1 t224 t225)))) = some r:=H
    have A9:=qn.mk A90
    clear A90
    replace H:=Option.bind_eq_some_iff.mp H
    obtain ⟨⟨t229,t230,t231,t232⟩,A100,H⟩:=H
    replace H : ((laws_eqSums.f t229 t230 t231 t219 t220 t221).bind fun t234=>(if t234 = true then (laws_FnExactBestSums.j0 k (t232 != t222) a0_0 l0_1 t224 t225) else (laws_FnExactBestSums.j0 k true a0_0 l0_1 t224 t225))) = some r:=H
    have A10:=qn.mk A100
    clear A100
    have HC11:=qn.mk H
    clear H
    go_enter Try.func8,Try.ntmps8
    go_upto_region 8 with (first|((with_reducible refine gate_dst (N:=1) rfl ?_);refine box_event ?hg (N:=1) ?hd (cs:=#[.int .i64 a0_0,.slice A0_1 l0_1.length c0_1]) (t:=65) ?hr ?_;(case hd=>rfl);(case hg=>rfl);(case hr=>first|(go_simp;done)|(go_simp;rfl));intro gb213 hg w12 hbox hb;have n0_:=hs_ HB hb;have n1_:=qn.mk (hbox);have n2_:=qn.mk ((by rw [hg];exact (qj (by repeat (first|(with_reducible first|exact HB.out|apply qf|apply qa|apply qd)|exact HB.out))) : w.heap.size ≤ gb213));have n3_:=qn.mk ((by rw [hg];exact (qj (by repeat (first|(with_reducible first|exact HB.out|apply qf|apply qa|apply qd)|exact HB.out))) : w.heap.size ≤ gb213));clear HB;have HB:=n0_;have BK213:=n1_;have GW213:=n2_;have GE213:=n3_;clear n0_ n1_ n2_ n3_;clear hb hbox hg;have hcz13_0 : w12.cell? ⟨gb213,0,none⟩ = some (.int .i64 a0_0):=(qh BK213.out 0).trans rfl;have hcz13_1 : w12.cell? ⟨gb213,1,none⟩ = some (.slice A0_1 l0_1.length c0_1):=(qh BK213.out 1).trans rfl;have hfz13_0:=qi BK213.out 0;have hfz13_1:=qi BK213.out 1)|((with_reducible refine gate_callee (f:=33) rfl ?_);refine goesL_ (some 11) rfl rfl Try.func33 (by kernel_rfl) rfl #[.agg #[.int .i64 a0_0,.slice A0_1 l0_1.length c0_1],.int .i64 1048576] rfl (by (try simp only [List.map_toArray,List.map_cons,List.map_nil]);first|done|rfl|(simp only [List.length_drop,List.length_take];rfl)) ?_;(with_reducible refine (laws_szGraph.calls a0_0 _ _ l0_1 1048576 t214 _ ?side1 ?side2 A2.out).mono ?_);(case side1=>repeat (first|exact (Kd.C_below HR0_1.out HB.out)|(with_reducible refine Kd.C_alloc ?_ _)|(with_reducible refine Kd.C_drewN ?_ _)|(with_reducible refine Kd.C_drew ?_)));(case side2=>exact HC0_1.out);rintro e w14 ⟨rfl,hb⟩;refine ⟨_,rfl,?_⟩;have n0_:=bb_ BK213 hb;have n1_:=hs_ HB hb;clear BK213;clear HB;have BK213:=n0_;have HB:=n1_;clear n0_ n1_;(try clear hb);(try clear hb2);(try clear hk);(try clear hi);have hcz15_0 : w14.cell? ⟨gb213,0,none⟩ = some (.int .i64 a0_0):=(qh BK213.out 0).trans rfl;have hcz15_1 : w14.cell? ⟨gb213,1,none⟩ = some (.slice A0_1 l0_1.length c0_1):=(qh BK213.out 1).trans rfl;have hfz15_0:=qi BK213.out 0;have hfz15_1:=qi BK213.out 1)|((with_reducible refine gate_callee (f:=35) rfl ?_);refine goesL_ (some 16) rfl rfl Try.func35 (by kernel_rfl) rfl #[.agg #[.int .i64 a0_0,.slice A0_1 l0_1.length c0_1]] rfl (by (try simp only [List.map_toArray,List.map_cons,List.map_nil]);first|done|rfl|(simp only [List.length_drop,List.length_take];rfl)) ?_;(with_reducible refine (laws_toGraph.calls k a0_0 _ _ l0_1 t215 t216 _ ?side1 ?side2 A7.out).mono ?_);(case side1=>repeat (first|exact (Kd.C_below HR0_1.out HB.out)|(with_reducible refine Kd.C_alloc ?_ _)|(with_reducible refine Kd.C_drewN ?_ _)|(with_reducible refine Kd.C_drew ?_)));(case side2=>exact HC0_1.out);rintro e w16 ⟨v217,rfl,ho0,hb⟩;refine ⟨_,rfl,?_⟩;have n0_:=qn.mk (Kd.R_lower ho0 (qj (by repeat (first|(with_reducible first|exact HB.out|apply qf|apply qa|apply qd|refine qg ?_ GE213.out)|exact HB.out))));have n1_:=bb_ BK213 hb;have n2_:=hs_ HB hb;clear BK213;clear HB;have HO218:=n0_;have BK213:=n1_;have HB:=n2_;clear n0_ n1_ n2_;(try clear hb);(try clear hb2);(try clear hk);(try clear hi);(try clear ho0);obtain ⟨Ao17,co17,eo17⟩:=Kd.R_slice HO218.out;subst eo17)|((with_reducible refine gate_callee (f:=38) rfl ?_);refine goesL_ (some 17) rfl rfl Try.func38 (by kernel_rfl) rfl #[.agg #[.int .i64 t215,.slice Ao17 t216.length co17]] rfl (by (try simp only [List.map_toArray,List.map_cons,List.map_nil]);first|done|rfl|(simp only [List.length_drop,List.length_take];rfl)) ?_;(with_reducible refine (spec_BestSums.calls k t215 _ _ t216 t219 t220 t221 t222 _ ?side1 ?side2 A8.out).mono ?_);(case side1=>repeat (first|exact (Kd.R_reads' HO218.out).2.2|(with_reducible refine Kd.C_alloc ?_ _)|(with_reducible refine Kd.C_drewN ?_ _)|(with_reducible refine Kd.C_drew ?_)));(case side2=>exact (Kd.R_reads' HO218.out).2.1);rintro e w18 ⟨rfl,hb⟩;refine ⟨_,rfl,?_⟩;have n0_:=rb_ HO218 hb;have n1_:=bb_ BK213 hb;have n2_:=hs_ HB hb;clear HO218;clear BK213;clear HB;have HO218:=n0_;have BK213:=n1_;have HB:=n2_;clear n0_ n1_ n2_;(try clear hb);(try clear hb2);(try clear hk);(try clear hi))|((with_reducible refine gate_dst (N:=4) rfl ?_);refine box_event ?hg (N:=4) ?hd (cs:=#[.int .i64 0,.int .i64 0,.int .i64 0]) (t:=72) ?hr ?_;(case hd=>rfl);(case hg=>rfl);(case hr=>first|(go_simp;done)|(go_simp;rfl));intro gb223 hg w19 hbox hb;have n0_:=rb_ HO218 hb;have n1_:=bb_ BK213 hb;have n2_:=hs_ HB hb;have n3_:=qn.mk (hbox);have n4_:=qn.mk ((by rw [hg];exact (qj (by repeat (first|(with_reducible first|exact HB.out|apply qf|apply qa|apply qd|refine qg ?_ GE213.out)|exact HB.out))) : w.heap.size ≤ gb223));have n5_:=qn.mk ((by rw [hg];exact (qj (by repeat (first|(with_reducible first|exact HB.out|apply qf|apply qa|apply qd|refine qg ?_ GE213.out)|exact HB.out))) : w.heap.size ≤ gb223));have n6_:=qn.mk ((by rw [hg];exact nl_ BK213 : gb213 ≠ gb223));have n7_:=qn.mk ((by rw [hg];exact ng_ BK213 : gb223 ≠ gb213));clear HO218;clear BK213;clear HB;have HO218:=n0_;have BK213:=n1_;have HB:=n2_;have BK223:=n3_;have GW223:=n4_;have GE223:=n5_;have NB213_223:=n6_;have NB223_213:=n7_;clear n0_ n1_ n2_ n3_ n4_ n5_ n6_ n7_;clear hb hbox hg;have hnb20:=NB223_213.out;have hnc20:=NB213_223.out;have hcz21_0 : w19.cell? ⟨gb223,0,none⟩ = some (.int .i64 0):=(qh BK223.out 0).trans rfl;have hcz21_1 : w19.cell? ⟨gb223,1,none⟩ = some (.int .i64 0):=(qh BK223.out 1).trans rfl;have hcz21_2 : w19.cell? ⟨gb223,2,none⟩ = some (.int .i64 0):=(qh BK223.out 2).trans rfl;have hfz21_0:=qi BK223.out 0;have hfz21_1:=qi BK223.out 1;have hfz21_2:=qi BK223.out 2;have hcz22_0 : w19.cell? ⟨gb213,0,none⟩ = some (.int .i64 a0_0):=(qh BK213.out 0).trans rfl;have hcz22_1 : w19.cell? ⟨gb213,1,none⟩ = some (.slice A0_1 l0_1.length c0_1):=(qh BK213.out 1).trans rfl;have hfz22_0:=qi BK213.out 0;have hfz22_1:=qi BK213.out 1)|((with_reducible refine gate_callee (f:=35) rfl ?_);refine goesL_ (some 21) rfl rfl Try.func35 (by kernel_rfl) rfl #[.agg #[.int .i64 a0_0,.slice A0_1 l0_1.length c0_1]] rfl (by (try simp only [List.map_toArray,List.map_cons,List.map_nil]);first|done|rfl|(simp only [List.length_drop,List.length_take];rfl)) ?_;(with_reducible refine (laws_toGraph.calls k a0_0 _ _ l0_1 t224 t225 _ ?side1 ?side2 A9.out).mono ?_);(case side1=>exact Kd.C_below HR0_1.out (by repeat (first|(with_reducible first|exact HB.out|apply qf|apply qa|apply qd|refine qg ?_ GE213.out|refine qg ?_ GE223.out)|exact HB.out)));(case side2=>exact HC0_1.out);rintro e w23 ⟨v226,rfl,ho0,hb⟩;refine ⟨_,rfl,?_⟩;have n0_:=qn.mk (Kd.R_elder' (by (with_reducible repeat (first|apply Kd.R_alloc|apply Kd.R_drewN|apply Kd.R_drew));exact (Kd.R_mono (Kd.R_far (p:=⟨gb223,2,none⟩) (Kd.R_far (p:=⟨gb223,1,none⟩) (Kd.R_far (p:=⟨gb223,0,none⟩) (Kd.R_types HO218.out BK223.out (by decide)) (fun _ hk=>hk.2) (.int .i64 t219)) (fun _ hk=>hk.2) (.int .i64 t220)) (fun _ hk=>hk.2) (.int .i64 t221)) (fun _ h_=>h_.1))) (Kd.R_base ho0) hb);have n1_:=qn.mk (Kd.R_lower (Kd.R_new' ho0 (Kd.R_lt (by (with_reducible repeat (first|apply Kd.R_alloc|apply Kd.R_drewN|apply Kd.R_drew));exact (Kd.R_mono (Kd.R_far (p:=⟨gb223,2,none⟩) (Kd.R_far (p:=⟨gb223,1,none⟩) (Kd.R_far (p:=⟨gb223,0,none⟩) (Kd.R_types HO218.out BK223.out (by decide)) (fun _ hk=>hk.2) (.int .i64 t219)) (fun _ hk=>hk.2) (.int .i64 t220)) (fun _ hk=>hk.2) (.int .i64 t221)) (fun _ h_=>h_.1))))) (qj (by repeat (first|(with_reducible first|exact HB.out|apply qf|apply qa|apply qd|refine qg ?_ GE213.out|refine qg ?_ GE223.out)|exact HB.out))));have n2_:=qn.mk (ql (g:=gb213) (o:=.cells #[.int .i64 a0_0,.slice A0_1 l0_1.length c0_1] 65 (0,0)) (by (with_reducible repeat (first|refine qb ?_ _|refine qe ?_|refine qc ?_ _));refine blk_far ?_ NB213_223.out _;(with_reducible repeat (first|refine qb ?_ _|refine qe ?_|refine qc ?_ _));refine blk_far ?_ NB213_223.out _;(with_reducible repeat (first|refine qb ?_ _|refine qe ?_|refine qc ?_ _));refine blk_far ?_ NB213_223.out _;(with_reducible repeat (first|refine qb ?_ _|refine qe ?_|refine qc ?_ _));exact BK213.out) hb);have n3_:=qn.mk (ql (g:=gb223) (o:=.cells #[.int .i64 t219,.int .i64 t220,.int .i64 t221] 72 (0,0)) (by (with_reducible repeat (first|refine qb ?_ _|refine qe ?_|refine qc ?_ _));refine blk_put (cs:=#[.int .i64 t219,.int .i64 t220,.int .i64 0]) ?_ 2 _ rfl;(with_reducible repeat (first|refine qb ?_ _|refine qe ?_|refine qc ?_ _));refine blk_put (cs:=#[.int .i64 t219,.int .i64 0,.int .i64 0]) ?_ 1 _ rfl;(with_reducible repeat (first|refine qb ?_ _|refine qe ?_|refine qc ?_ _));refine blk_put (cs:=#[.int .i64 0,.int .i64 0,.int .i64 0]) ?_ 0 _ rfl;(with_reducible repeat (first|refine qb ?_ _|refine qe ?_|refine qc ?_ _));exact BK223.out) hb);have n4_:=hs_ HB hb;clear HO218;clear BK213;clear BK223;clear HB;have HO218:=n0_;have HO227:=n1_;have BK213:=n2_;have BK223:=n3_;have HB:=n4_;clear n0_ n1_ n2_ n3_ n4_;(try clear hb);(try clear hb2);(try clear hk);(try clear hi);(try clear ho0))|((with_reducible refine gate_dst (N:=6) rfl ?_);refine box_event ?hg (N:=6) ?hd (cs:=#[.int .i64 0,.slice none 0 0]) (t:=26) ?hr ?_;(case hd=>rfl);(case hg=>rfl);(case hr=>first|(go_simp;done)|(go_simp;rfl));intro gb228 hg w24 hbox hb;have n0_:=rb_ HO218 hb;have n1_:=rb_ HO227 hb;have n2_:=bb_ BK213 hb;have n3_:=bb_ BK223 hb;have n4_:=hs_ HB hb;have n5_:=qn.mk (hbox);have n6_:=qn.mk ((by rw [hg];exact (qj (by repeat (first|(with_reducible first|exact HB.out|apply qf|apply qa|apply qd|refine qg ?_ GE213.out|refine qg ?_ GE223.out)|exact HB.out))) : w.heap.size ≤ gb228));have n7_:=qn.mk ((by rw [hg];exact (qj (by repeat (first|(with_reducible first|exact HB.out|apply qf|apply qa|apply qd|refine qg ?_ GE213.out|refine qg ?_ GE223.out)|exact HB.out))) : w.heap.size ≤ gb228));have n8_:=qn.mk ((by rw [hg];exact nl_ BK213 : gb213 ≠ gb228));have n9_:=qn.mk ((by rw [hg];exact ng_ BK213 : gb228 ≠ gb213));have n10_:=qn.mk ((by rw [hg];exact nl_ BK223 : gb223 ≠ gb228));have n11_:=qn.mk ((by rw [hg];exact ng_ BK223 : gb228 ≠ gb223));clear HO218;clear HO227;clear BK213;clear BK223;clear HB;have HO218:=n0_;have HO227:=n1_;have BK213:=n2_;have BK223:=n3_;have HB:=n4_;have BK228:=n5_;have GW228:=n6_;have GE228:=n7_;have NB213_228:=n8_;have NB228_213:=n9_;have NB223_228:=n10_;have NB228_223:=n11_;clear n0_ n1_ n2_ n3_ n4_ n5_ n6_ n7_ n8_ n9_ n10_ n11_;clear hb hbox hg;have hnb25:=NB228_213.out;have hnc25:=NB213_228.out;have hnb26:=NB228_223.out;have hnc26:=NB223_228.out;have hcz27_0 : w24.cell? ⟨gb228,0,none⟩ = some (.int .i64 0):=(qh BK228.out 0).trans rfl;have hcz27_1 : w24.cell? ⟨gb228,1,none⟩ = some (.slice none 0 0):=(qh BK228.out 1).trans rfl;have hfz27_0:=qi BK228.out 0;have hfz27_1:=qi BK228.out 1;obtain ⟨Ao28,co28,eo28⟩:=Kd.R_slice HO227.out;subst eo28)|((with_reducible refine gate_callee (f:=39) rfl ?_);refine goesL_ (some 24) rfl rfl Try.func39 (by kernel_rfl) rfl #[.agg #[.int .i64 t224,.slice Ao28 t225.length co28]] rfl (by (try simp only [List.map_toArray,List.map_cons,List.map_nil]);first|done|rfl|(simp only [List.length_drop,List.length_take];rfl)) ?_;(with_reducible refine (impl_BestSums.calls k t224 _ _ t225 t229 t230 t231 t232 _ ?side1 ?side2 A10.out).mono ?_);(case side1=>refine (Kd.R_reads' (e:=36) (base:=w.heap.size) (ok:=fun k_=>(True ∧ some k_ ≠ (.slice Ao17 t216.length co17 : Value).ownBlock)) (n:=t225.length) (c:=co28) ?_).2.2;exact (by (with_reducible repeat (first|apply Kd.R_alloc|apply Kd.R_drewN|apply Kd.R_drew));exact (Kd.R_mono (Kd.R_far (p:=⟨gb228,1,none⟩) (Kd.R_far (p:=⟨gb228,0,none⟩) (Kd.R_types HO227.out BK228.out (by decide)) (fun _ hk=>hk.2) (.int .i64 t224)) (fun _ hk=>hk.2) (.slice Ao28 t225.length co28)) (fun _ h_=>h_.1))));(case side2=>exact (Kd.R_reads' HO227.out).2.1);rintro e w29 ⟨rfl,hb⟩;refine ⟨_,rfl,?_⟩;have n0_:=qn.mk (Kd.R_below (by (with_reducible repeat (first|apply Kd.R_alloc|apply Kd.R_drewN|apply Kd.R_drew));exact (Kd.R_mono (Kd.R_far (p:=⟨gb228,1,none⟩) (Kd.R_far (p:=⟨gb228,0,none⟩) (Kd.R_types HO218.out BK228.out (by decide)) (fun _ hk=>hk.2) (.int .i64 t224)) (fun _ hk=>hk.2) (.slice Ao28 t225.length co28)) (fun _ h_=>h_.1))) hb);have n1_:=qn.mk (Kd.R_below (by (with_reducible repeat (first|apply Kd.R_alloc|apply Kd.R_drewN|apply Kd.R_drew));exact (Kd.R_mono (Kd.R_far (p:=⟨gb228,1,none⟩) (Kd.R_far (p:=⟨gb228,0,none⟩) (Kd.R_types HO227.out BK228.out (by decide)) (fun _ hk=>hk.2) (.int .i64 t224)) (fun _ hk=>hk.2) (.slice Ao28 t225.length co28)) (fun _ h_=>h_.1))) hb);have n2_:=qn.mk (ql (g:=gb213) (o:=.cells #[.int .i64 a0_0,.slice A0_1 l0_1.length c0_1] 65 (0,0)) (by (with_reducible repeat (first|refine qb ?_ _|refine qe ?_|refine qc ?_ _));refine blk_far ?_ NB213_228.out _;(with_reducible repeat (first|refine qb ?_ _|refine qe ?_|refine qc ?_ _));refine blk_far ?_ NB213_228.out _;(with_reducible repeat (first|refine qb ?_ _|refine qe ?_|refine qc ?_ _));exact BK213.out) hb);have n3_:=qn.mk (ql (g:=gb223) (o:=.cells #[.int .i64 t219,.int .i64 t220,.int .i64 t221] 72 (0,0)) (by (with_reducible repeat (first|refine qb ?_ _|refine qe ?_|refine qc ?_ _));refine blk_far ?_ NB223_228.out _;(with_reducible repeat (first|refine qb ?_ _|refine qe ?_|refine qc ?_ _));refine blk_far ?_ NB223_228.out _;(with_reducible repeat (first|refine qb ?_ _|refine qe ?_|refine qc ?_ _));exact BK223.out) hb);have n4_:=qn.mk (ql (g:=gb228) (o:=.cells #[.int .i64 t224,.slice Ao28 t225.length co28] 26 (0,0)) (by (with_reducible repeat (first|refine qb ?_ _|refine qe ?_|refine qc ?_ _));refine blk_put (cs:=#[.int .i64 t224,.slice none 0 0]) ?_ 1 _ rfl;(with_reducible repeat (first|refine qb ?_ _|refine qe ?_|refine qc ?_ _));refine blk_put (cs:=#[.int .i64 0,.slice none 0 0]) ?_ 0 _ rfl;(with_reducible repeat (first|refine qb ?_ _|refine qe ?_|refine qc ?_ _));exact BK228.out) hb);have n5_:=hs_ HB hb;clear HO218;clear HO227;clear BK213;clear BK223;clear BK228;clear HB;have HO218:=n0_;have HO227:=n1_;have BK213:=n2_;have BK223:=n3_;have BK228:=n4_;have HB:=n5_;clear n0_ n1_ n2_ n3_ n4_ n5_;(try clear hb);(try clear hb2);(try clear hk);(try clear hi))|((with_reducible refine gate_dst (N:=7) rfl ?_);refine box_event ?hg (N:=7) ?hd (cs:=#[.int .i64 0,.int .i64 0,.int .i64 0]) (t:=72) ?hr ?_;(case hd=>rfl);(case hg=>rfl);(case hr=>first|(go_simp;done)|(go_simp;rfl));intro gb233 hg w30 hbox hb;have n0_:=rb_ HO218 hb;have n1_:=rb_ HO227 hb;have n2_:=bb_ BK213 hb;have n3_:=bb_ BK223 hb;have n4_:=bb_ BK228 hb;have n5_:=hs_ HB hb;have n6_:=qn.mk (hbox);have n7_:=qn.mk ((by rw [hg];exact (qj (by repeat (first|(with_reducible first|exact HB.out|apply qf|apply qa|apply qd|refine qg ?_ GE213.out|refine qg ?_ GE223.out|refine qg ?_ GE228.out)|exact HB.out))) : w.heap.size ≤ gb233));have n8_:=qn.mk ((by rw [hg];exact (qj (by repeat (first|(with_reducible first|exact HB.out|apply qf|apply qa|apply qd|refine qg ?_ GE213.out|refine qg ?_ GE223.out|refine qg ?_ GE228.out)|exact HB.out))) : w.heap.size ≤ gb233));have n9_:=qn.mk ((by rw [hg];exact nl_ BK213 : gb213 ≠ gb233));have n10_:=qn.mk ((by rw [hg];exact ng_ BK213 : gb233 ≠ gb213));have n11_:=qn.mk ((by rw [hg];exact nl_ BK223 : gb223 ≠ gb233));have n12_:=qn.mk ((by rw [hg];exact ng_ BK223 : gb233 ≠ gb223));have n13_:=qn.mk ((by rw [hg];exact nl_ BK228 : gb228 ≠ gb233));have n14_:=qn.mk ((by rw [hg];exact ng_ BK228 : gb233 ≠ gb228));clear HO218;clear HO227;clear BK213;clear BK223;clear BK228;clear HB;have HO218:=n0_;have HO227:=n1_;have BK213:=n2_;have BK223:=n3_;have BK228:=n4_;have HB:=n5_;have BK233:=n6_;have GW233:=n7_;have GE233:=n8_;have NB213_233:=n9_;have NB233_213:=n10_;have NB223_233:=n11_;have NB233_223:=n12_;have NB228_233:=n13_;have NB233_228:=n14_;clear n0_ n1_ n2_ n3_ n4_ n5_ n6_ n7_ n8_ n9_ n10_ n11_ n12_ n13_ n14_;clear hb hbox hg;have hnb31:=NB233_213.out;have hnc31:=NB213_233.out;have hnb32:=NB233_223.out;have hnc32:=NB223_233.out;have hnb33:=NB233_228.out;have hnc33:=NB228_233.out;have hcz34_0 : w30.cell? ⟨gb233,0,none⟩ = some (.int .i64 0):=(qh BK233.out 0).trans rfl;have hcz34_1 : w30.cell? ⟨gb233,1,none⟩ = some (.int .i64 0):=(qh BK233.out 1).trans rfl;have hcz34_2 : w30.cell? ⟨gb233,2,none⟩ = some (.int .i64 0):=(qh BK233.out 2).trans rfl;have hfz34_0:=qi BK233.out 0;have hfz34_1:=qi BK233.out 1;have hfz34_2:=qi BK233.out 2))
    (try simp only [Act.put,List.setIfInBounds_toArray,List.set_cons_zero,List.set_cons_succ])
    go_cut [35] (fun v35 wc=>∃ (kq : Nat) (x35_10 : Bool),v35 = .bool x35_10 ∧ qn (laws_FnExactBestSums.j0 kq x35_10 a0_0 l0_1 t224 t225 = some r) ∧ qn (kq ≤ k) ∧ qn (Kd.R k36 36 wc w.heap.size (fun _=>True) (.slice Ao28 t225.length co28) t225) ∧ qn (wc.heap[gb213]? = some (.cells #[.int .i64 a0_0,(.slice A0_1 l0_1.length c0_1)] 65 (0,0))) ∧ qn (wc.heap[gb223]? = some (.cells #[.int .i64 t219,.int .i64 t220,.int .i64 t221] 72 (0,0))) ∧ qn (wc.heap[gb228]? = some (.cells #[.int .i64 t224,(.slice Ao28 t225.length co28)] 26 (0,0))) ∧ qn (wc.heap[gb233]? = some (.cells #[.int .i64 t229,.int .i64 t230,.int .i64 t231] 72 (0,0))) ∧ qn (Below w.heap.size w wc))
    case first =>
      have H:=HC11.out
      clear HC11
      replace H:=Option.bind_eq_some_iff.mp H
      obtain ⟨t234,A350,H⟩:=H
      replace H : (if t234 = true then (laws_FnExactBestSums.j0 k (t232 != t222) a0_0 l0_1 t224 t225) else (laws_FnExactBestSums.j0 k true a0_0 l0_1 t224 t225)) = some r:=H
      have A35:=qn.mk A350
      clear A350
      by_cases c36 : t234 = true
      · subst c36
        have H1 : (laws_FnExactBestSums.j0 k (t232 != t222) a0_0 l0_1 t224 t225) = some r:=by rw [if_pos rfl] at H;exact H
        clear H
        have H:=H1
        clear H1
        have H':=qn.mk H
        clear H
        have hnb37:=NB233_213.out
        have hnc37:=NB213_233.out
        have hnb38:=NB233_223.out
        have hnc38:=NB223_233.out
        have hnb39:=NB233_228.out
        have hnc39:=NB228_233.out
        have hcz40_0 : w30.cell? ⟨gb233,0,none⟩ = some (.int .i64 0):=(qh BK233.out 0).trans rfl
        have hcz40_1 : w30.cell? ⟨gb233,1,none⟩ = some (.int .i64 0):=(qh BK233.out 1).trans rfl
        have hcz40_2 : w30.cell? ⟨gb233,2,none⟩ = some (.int .i64 0):=(qh BK233.out 2).trans rfl
        have hfz40_0:=qi BK233.out 0
        have hfz40_1:=qi BK233.out 1
        have hfz40_2:=qi BK233.out 2
        have hnb41:=NB223_213.out
        have hnc41:=NB213_223.out
        have hnb42:=NB223_228.out
        have hnc42:=NB228_223.out
        have hcz43_0 : w30.cell? ⟨gb223,0,none⟩ = some (.int .i64 t219):=(qh BK223.out 0).trans rfl
        have hcz43_1 : w30.cell? ⟨gb223,1,none⟩ = some (.int .i64 t220):=(qh BK223.out 1).trans rfl
        have hcz43_2 : w30.cell? ⟨gb223,2,none⟩ = some (.int .i64 t221):=(qh BK223.out 2).trans rfl
        have hfz43_0:=qi BK223.out 0
        have hfz43_1:=qi BK223.out 1
        have hfz43_2:=qi BK223.out 2
        go_wp2_with (first|((with_reducible refine gate_callee (f:=40) rfl ?_);refine goesL_ (some 29) rfl rfl Try.func40 (by kernel_rfl) rfl #[.agg #[.int .i64 t229,.int .i64 t230,.int .i64 t231],.agg #[.int .i64 t219,.int .i64 t220,.int .i64 t221]] rfl (by (try simp only [List.map_toArray,List.map_cons,List.map_nil]);first|done|rfl|(simp only [List.length_drop,List.length_take];rfl)) ?_;(with_reducible refine (laws_eqSums.calls t229 t230 t231 t219 t220 t221 true _ A35.out).mono ?_);rintro e w44 ⟨rfl,hb⟩;refine ⟨_,rfl,?_⟩;have n0_:=qn.mk (Kd.R_below (by (with_reducible repeat (first|apply Kd.R_alloc|apply Kd.R_drewN|apply Kd.R_drew));exact (Kd.R_mono (Kd.R_far (p:=⟨gb233,2,none⟩) (Kd.R_far (p:=⟨gb233,1,none⟩) (Kd.R_far (p:=⟨gb233,0,none⟩) (Kd.R_types HO218.out BK233.out (by decide)) (fun _ hk=>hk.2) (.int .i64 t229)) (fun _ hk=>hk.2) (.int .i64 t230)) (fun _ hk=>hk.2) (.int .i64 t231)) (fun _ h_=>h_.1))) hb);have n1_:=qn.mk (Kd.R_below (by (with_reducible repeat (first|apply Kd.R_alloc|apply Kd.R_drewN|apply Kd.R_drew));exact (Kd.R_mono (Kd.R_far (p:=⟨gb233,2,none⟩) (Kd.R_far (p:=⟨gb233,1,none⟩) (Kd.R_far (p:=⟨gb233,0,none⟩) (Kd.R_types HO227.out BK233.out (by decide)) (fun _ hk=>hk.2) (.int .i64 t229)) (fun _ hk=>hk.2) (.int .i64 t230)) (fun _ hk=>hk.2) (.int .i64 t231)) (fun _ h_=>h_.1))) hb);have n2_:=qn.mk (ql (g:=gb213) (o:=.cells #[.int .i64 a0_0,.slice A0_1 l0_1.length c0_1] 65 (0,0)) (by (with_reducible repeat (first|refine qb ?_ _|refine qe ?_|refine qc ?_ _));refine blk_far ?_ NB213_233.out _;(with_reducible repeat (first|refine qb ?_ _|refine qe ?_|refine qc ?_ _));refine blk_far ?_ NB213_233.out _;(with_reducible repeat (first|refine qb ?_ _|refine qe ?_|refine qc ?_ _));refine blk_far ?_ NB213_233.out _;(with_reducible repeat (first|refine qb ?_ _|refine qe ?_|refine qc ?_ _));exact BK213.out) hb);have n3_:=qn.mk (ql (g:=gb223) (o:=.cells #[.int .i64 t219,.int .i64 t220,.int .i64 t221] 72 (0,0)) (by (with_reducible repeat (first|refine qb ?_ _|refine qe ?_|refine qc ?_ _));refine blk_far ?_ NB223_233.out _;(with_reducible repeat (first|refine qb ?_ _|refine qe ?_|refine qc ?_ _));refine blk_far ?_ NB223_233.out _;(with_reducible repeat (first|refine qb ?_ _|refine qe ?_|refine qc ?_ _));refine blk_far ?_ NB223_233.out _;(with_reducible repeat (first|refine qb ?_ _|refine qe ?_|refine qc ?_ _));exact BK223.out) hb);have n4_:=qn.mk (ql (g:=gb228) (o:=.cells #[.int .i64 t224,.slice Ao28 t225.length co28] 26 (0,0)) (by (with_reducible repeat (first|refine qb ?_ _|refine qe ?_|refine qc ?_ _));refine blk_far ?_ NB228_233.out _;(with_reducible repeat (first|refine qb ?_ _|refine qe ?_|refine qc ?_ _));refine blk_far ?_ NB228_233.out _;(with_reducible repeat (first|refine qb ?_ _|refine qe ?_|refine qc ?_ _));refine blk_far ?_ NB228_233.out _;(with_reducible repeat (first|refine qb ?_ _|refine qe ?_|refine qc ?_ _));exact BK228.out) hb);have n5_:=qn.mk (ql (g:=gb233) (o:=.cells #[.int .i64 t229,.int .i64 t230,.int .i64 t231] 72 (0,0)) (by (with_reducible repeat (first|refine qb ?_ _|refine qe ?_|refine qc ?_ _));refine blk_put (cs:=#[.int .i64 t229,.int .i64 t230,.int .i64 0]) ?_ 2 _ rfl;(with_reducible repeat (first|refine qb ?_ _|refine qe ?_|refine qc ?_ _));refine blk_put (cs:=#[.int .i64 t229,.int .i64 0,.int .i64 0]) ?_ 1 _ rfl;(with_reducible repeat (first|refine qb ?_ _|refine qe ?_|refine qc ?_ _));refine blk_put (cs:=#[.int .i64 0,.int .i64 0,.int .i64 0]) ?_ 0 _ rfl;(with_reducible repeat (first|refine qb ?_ _|refine qe ?_|refine qc ?_ _));exact BK233.out) hb);have n6_:=hs_ HB hb;clear HO218;clear HO227;clear BK213;clear BK223;clear BK228;clear BK233;clear HB;have HO218:=n0_;have HO227:=n1_;have BK213:=n2_;have BK223:=n3_;have BK228:=n4_;have BK233:=n5_;have HB:=n6_;clear n0_ n1_ n2_ n3_ n4_ n5_ n6_;(try clear hb);(try clear hb2);(try clear hk);(try clear hi)))
        go_meet
        case rel=>exact ⟨_,((t232 != t222)),(by first|rfl|(simp;done)|(simp [*];done)),H',⟨by first|omega|exact Nat.le_refl _⟩,⟨by (with_reducible repeat (first|apply Kd.R_alloc|apply Kd.R_drewN|apply Kd.R_drew));exact Kd.R_mono HO227.out (fun _ hk=>trivial)⟩,⟨by (with_reducible repeat (first|refine qb ?_ _|refine qe ?_|refine qc ?_ _));exact BK213.out⟩,⟨by (with_reducible repeat (first|refine qb ?_ _|refine qe ?_|refine qc ?_ _));exact BK223.out⟩,⟨by (with_reducible repeat (first|refine qb ?_ _|refine qe ?_|refine qc ?_ _));exact BK228.out⟩,⟨by (with_reducible repeat (first|refine qb ?_ _|refine qe ?_|refine qc ?_ _));exact BK233.out⟩,⟨by repeat (first|(with_reducible first|exact HB.out|apply qf|apply qa|apply qd|refine qg ?_ GE213.out|refine qg ?_ GE223.out|refine qg ?_ GE228.out|refine qg ?_ GE233.out)|exact HB.out)⟩⟩
      · replace c36:=Bool.eq_false_iff.mpr c36
        subst c36
        have H1 : (laws_FnExactBestSums.j0 k true a0_0 l0_1 t224 t225) = some r:=by rw [if_neg (show ¬ (false = true) by decide)] at H;exact H
        clear H
        have H:=H1
        clear H1
        have H':=qn.mk H
        clear H
        have hnb45:=NB233_213.out
        have hnc45:=NB213_233.out
        have hnb46:=NB233_223.out
        have hnc46:=NB223_233.out
        have hnb47:=NB233_228.out
        have hnc47:=NB228_233.out
        have hcz48_0 : w30.cell? ⟨gb233,0,none⟩ = some (.int .i64 0):=(qh BK233.out 0).trans rfl
        have hcz48_1 : w30.cell? ⟨gb233,1,none⟩ = some (.int .i64 0):=(qh BK233.out 1).trans rfl
        have hcz48_2 : w30.cell? ⟨gb233,2,none⟩ = some (.int .i64 0):=(qh BK233.out 2).trans rfl
        have hfz48_0:=qi BK233.out 0
        have hfz48_1:=qi BK233.out 1
        have hfz48_2:=qi BK233.out 2
        have hnb49:=NB223_213.out
        have hnc49:=NB213_223.out
        have hnb50:=NB223_228.out
        have hnc50:=NB228_223.out
        have hcz51_0 : w30.cell? ⟨gb223,0,none⟩ = some (.int .i64 t219):=(qh BK223.out 0).trans rfl
        have hcz51_1 : w30.cell? ⟨gb223,1,none⟩ = some (.int .i64 t220):=(qh BK223.out 1).trans rfl
        have hcz51_2 : w30.cell? ⟨gb223,2,none⟩ = some (.int .i64 t221):=(qh BK223.out 2).trans rfl
        have hfz51_0:=qi BK223.out 0
        have hfz51_1:=qi BK223.out 1
        have hfz51_2:=qi BK223.out 2
        go_wp2_with (first|((with_reducible refine gate_callee (f:=40) rfl ?_);refine goesL_ (some 29) rfl rfl Try.func40 (by kernel_rfl) rfl #[.agg #[.int .i64 t229,.int .i64 t230,.int .i64 t231],.agg #[.int .i64 t219,.int .i64 t220,.int .i64 t221]] rfl (by (try simp only [List.map_toArray,List.map_cons,List.map_nil]);first|done|rfl|(simp only [List.length_drop,List.length_take];rfl)) ?_;(with_reducible refine (laws_eqSums.calls t229 t230 t231 t219 t220 t221 false _ A35.out).mono ?_);rintro e w52 ⟨rfl,hb⟩;refine ⟨_,rfl,?_⟩;have n0_:=qn.mk (Kd.R_below (by (with_reducible repeat (first|apply Kd.R_alloc|apply Kd.R_drewN|apply Kd.R_drew));exact (Kd.R_mono (Kd.R_far (p:=⟨gb233,2,none⟩) (Kd.R_far (p:=⟨gb233,1,none⟩) (Kd.R_far (p:=⟨gb233,0,none⟩) (Kd.R_types HO218.out BK233.out (by decide)) (fun _ hk=>hk.2) (.int .i64 t229)) (fun _ hk=>hk.2) (.int .i64 t230)) (fun _ hk=>hk.2) (.int .i64 t231)) (fun _ h_=>h_.1))) hb);have n1_:=qn.mk (Kd.R_below (by (with_reducible repeat (first|apply Kd.R_alloc|apply Kd.R_drewN|apply Kd.R_drew));exact (Kd.R_mono (Kd.R_far (p:=⟨gb233,2,none⟩) (Kd.R_far (p:=⟨gb233,1,none⟩) (Kd.R_far (p:=⟨gb233,0,none⟩) (Kd.R_types HO227.out BK233.out (by decide)) (fun _ hk=>hk.2) (.int .i64 t229)) (fun _ hk=>hk.2) (.int .i64 t230)) (fun _ hk=>hk.2) (.int .i64 t231)) (fun _ h_=>h_.1))) hb);have n2_:=qn.mk (ql (g:=gb213) (o:=.cells #[.int .i64 a0_0,.slice A0_1 l0_1.length c0_1] 65 (0,0)) (by (with_reducible repeat (first|refine qb ?_ _|refine qe ?_|refine qc ?_ _));refine blk_far ?_ NB213_233.out _;(with_reducible repeat (first|refine qb ?_ _|refine qe ?_|refine qc ?_ _));refine blk_far ?_ NB213_233.out _;(with_reducible repeat (first|refine qb ?_ _|refine qe ?_|refine qc ?_ _));refine blk_far ?_ NB213_233.out _;(with_reducible repeat (first|refine qb ?_ _|refine qe ?_|refine qc ?_ _));exact BK213.out) hb);have n3_:=qn.mk (ql (g:=gb223) (o:=.cells #[.int .i64 t219,.int .i64 t220,.int .i64 t221] 72 (0,0)) (by (with_reducible repeat (first|refine qb ?_ _|refine qe ?_|refine qc ?_ _));refine blk_far ?_ NB223_233.out _;(with_reducible repeat (first|refine qb ?_ _|refine qe ?_|refine qc ?_ _));refine blk_far ?_ NB223_233.out _;(with_reducible repeat (first|refine qb ?_ _|refine qe ?_|refine qc ?_ _));refine blk_far ?_ NB223_233.out _;(with_reducible repeat (first|refine qb ?_ _|refine qe ?_|refine qc ?_ _));exact BK223.out) hb);have n4_:=qn.mk (ql (g:=gb228) (o:=.cells #[.int .i64 t224,.slice Ao28 t225.length co28] 26 (0,0)) (by (with_reducible repeat (first|refine qb ?_ _|refine qe ?_|refine qc ?_ _));refine blk_far ?_ NB228_233.out _;(with_reducible repeat (first|refine qb ?_ _|refine qe ?_|refine qc ?_ _));refine blk_far ?_ NB228_233.out _;(with_reducible repeat (first|refine qb ?_ _|refine qe ?_|refine qc ?_ _));refine blk_far ?_ NB228_233.out _;(with_reducible repeat (first|refine qb ?_ _|refine qe ?_|refine qc ?_ _));exact BK228.out) hb);have n5_:=qn.mk (ql (g:=gb233) (o:=.cells #[.int .i64 t229,.int .i64 t230,.int .i64 t231] 72 (0,0)) (by (with_reducible repeat (first|refine qb ?_ _|refine qe ?_|refine qc ?_ _));refine blk_put (cs:=#[.int .i64 t229,.int .i64 t230,.int .i64 0]) ?_ 2 _ rfl;(with_reducible repeat (first|refine qb ?_ _|refine qe ?_|refine qc ?_ _));refine blk_put (cs:=#[.int .i64 t229,.int .i64 0,.int .i64 0]) ?_ 1 _ rfl;(with_reducible repeat (first|refine qb ?_ _|refine qe ?_|refine qc ?_ _));refine blk_put (cs:=#[.int .i64 0,.int .i64 0,.int .i64 0]) ?_ 0 _ rfl;(with_reducible repeat (first|refine qb ?_ _|refine qe ?_|refine qc ?_ _));exact BK233.out) hb);have n6_:=hs_ HB hb;clear HO218;clear HO227;clear BK213;clear BK223;clear BK228;clear BK233;clear HB;have HO218:=n0_;have HO227:=n1_;have BK213:=n2_;have BK223:=n3_;have BK228:=n4_;have BK233:=n5_;have HB:=n6_;clear n0_ n1_ n2_ n3_ n4_ n5_ n6_;(try clear hb);(try clear hb2);(try clear hk);(try clear hi)))
        go_meet
        case rel=>exact ⟨_,(true),(by first|rfl|(simp;done)|(simp [*];done)),H',⟨by first|omega|exact Nat.le_refl _⟩,⟨by (with_reducible repeat (first|apply Kd.R_alloc|apply Kd.R_drewN|apply Kd.R_drew));exact Kd.R_mono HO227.out (fun _ hk=>trivial)⟩,⟨by (with_reducible repeat (first|refine qb ?_ _|refine qe ?_|refine qc ?_ _));exact BK213.out⟩,⟨by (with_reducible repeat (first|refine qb ?_ _|refine qe ?_|refine qc ?_ _));exact BK223.out⟩,⟨by (with_reducible repeat (first|refine qb ?_ _|refine qe ?_|refine qc ?_ _));exact BK228.out⟩,⟨by (with_reducible repeat (first|refine qb ?_ _|refine qe ?_|refine qc ?_ _));exact BK233.out⟩,⟨by repeat (first|(with_reducible first|exact HB.out|apply qf|apply qa|apply qd|refine qg ?_ GE213.out|refine qg ?_ GE223.out|refine qg ?_ GE228.out|refine qg ?_ GE233.out)|exact HB.out)⟩⟩
    case rest =>
      clear HC11
      try clear c2
      try clear p2
      try clear c3
      try clear c3b0
      try clear c4
      try clear c5
      try clear c8
      try clear c20
      try clear c25
      try clear c26
      try clear c31
      try clear c32
      try clear c33
      try clear c35
      try clear c36
      try clear c37
      try clear c38
      try clear c39
      try clear c40
      try clear c41
      try clear c42
      try clear c45
      try clear c46
      try clear c47
      try clear c49
      try clear c50
      try clear hcz13_0
      try clear hcz13_1
      try clear hcz15_0
      try clear hcz15_1
      try clear hcz21_0
      try clear hcz21_1
      try clear hcz21_2
      try clear hcz22_0
      try clear hcz22_1
      try clear hcz27_0
      try clear hcz27_1
      try clear hcz34_0
      try clear hcz34_1
      try clear hcz34_2
      try clear hcz40_0
      try clear hcz40_1
      try clear hcz40_2
      try clear hcz43_0
      try clear hcz43_1
      try clear hcz43_2
      try clear hcz48_0
      try clear hcz48_1
      try clear hcz48_2
      try clear hcz51_0
      try clear hcz51_1
      try clear hcz51_2
      try clear hcz5_0
      try clear hcz5_1
      try clear hfz13_0
      try clear hfz13_1
      try clear hfz15_0
      try clear hfz15_1
      try clear hfz21_0
      try clear hfz21_1
      try clear hfz21_2
      try clear hfz22_0
      try clear hfz22_1
      try clear hfz27_0
      try clear hfz27_1
      try clear hfz34_0
      try clear hfz34_1
      try clear hfz34_2
      try clear hfz40_0
      try clear hfz40_1
      try clear hfz40_2
      try clear hfz43_0
      try clear hfz43_1
      try clear hfz43_2
      try clear hfz48_0
      try clear hfz48_1
      try clear hfz48_2
      try clear hfz51_0
      try clear hfz51_1
      try clear hfz51_2
      try clear hfz5_0
      try clear hfz5_1
      obtain ⟨kq,x35_10,rfl,HA,HJ10,HO_229001,BK213,BK223,BK228,BK233,HB⟩:=hcut
      cases kq with
      | zero=>exact absurd HA.out (by simp [laws_FnExactBestSums.j0])
      | succ kj10 =>
        have H:=HA.out
        clear HA
        simp only [laws_FnExactBestSums.j0] at H
        by_cases c53 : x35_10 = true
        · subst c53
          have H1 : (some false) = some r:=by rw [if_pos rfl] at H;exact H
          clear H
          have H:=H1
          clear H1
          obtain rfl:=Option.some.inj H
          go_wp2
          go_ret
          exact ⟨by first|rfl|(simp [errW_none,errW_some] <;> rfl)|(simp [*,errW_none,errW_some] <;> rfl),by repeat (first|(with_reducible first|exact HB.out|apply qf|apply qa|apply qd|refine qg ?_ GE213.out|refine qg ?_ GE223.out|refine qg ?_ GE228.out|refine qg ?_ GE233.out)|exact HB.out)⟩
        · replace c53:=Bool.eq_false_iff.mpr c53
          subst c53
          have H1 : ((laws_toGraph.f kj10 a0_0 l0_1).bind fun bt235=>((laws_eqGraph.f kj10 t224 t225 bt235.1 bt235.2).bind fun t239=>(if t239 = true then (some true) else (some false)))) = some r:=by rw [if_neg (show ¬ (false = true) by decide)] at H;exact H
          clear H
          have H:=H1
          clear H1
          replace H:=Option.bind_eq_some_iff.mp H
          obtain ⟨⟨t235,t236⟩,A540,H⟩:=H
          replace H : ((laws_eqGraph.f kj10 t224 t225 t235 t236).bind fun t239=>(if t239 = true then (some true) else (some false))) = some r:=H
          have A54:=qn.mk A540
          clear A540
          replace H:=Option.bind_eq_some_iff.mp H
          obtain ⟨t239,A550,H⟩:=H
          replace H : (if t239 = true then (some true) else (some false)) = some r:=H
          have A55:=qn.mk A550
          clear A550
          by_cases c56 : t239 = true
          · subst c56
            have H1 : (some true) = some r:=by rw [if_pos rfl] at H;exact H
            clear H
            have H:=H1
            clear H1
            obtain rfl:=Option.some.inj H
            try go_wp2
            have n0_:=qn.mk (Kd.R_drew HO_229001.out)
            have n1_:=qn.mk (qe BK213.out)
            have n2_:=qn.mk (qe BK223.out)
            have n3_:=qn.mk (qe BK228.out)
            have n4_:=qn.mk (qe BK233.out)
            have n5_:=qn.mk (qd HB.out)
            clear HO_229001
            clear BK213
            clear BK223
            clear BK228
            clear BK233
            clear HB
            have HO_229001:=n0_
            have BK213:=n1_
            have BK223:=n2_
            have BK228:=n3_
            have BK233:=n4_
            have HB:=n5_
            clear n0_ n1_ n2_ n3_ n4_ n5_
            refine start_ (n:=5) (S:=fun w'=>w'.cell? ⟨gb228,0,none⟩ = some (.int .i64 t224) ∧ w'.cell? ⟨gb228,1,none⟩ = some (.slice Ao28 t225.length co28) ∧ w'.cell? ⟨gb213,0,none⟩ = some (.int .i64 a0_0) ∧ w'.cell? ⟨gb213,1,none⟩ = some (.slice A0_1 l0_1.length c0_1)) (ds:=[]) #[false,false,false,false,false] (by kernel_rfl) rfl rfl ⟨(qh BK228.out 0).trans rfl,(qh BK228.out 1).trans rfl,(qh BK213.out 0).trans rfl,(qh BK213.out 1).trans rfl⟩ (fun hHeld=>?_)
            generalize wc.drew = w57 at HO_229001 BK213 BK223 BK228 BK233 HB hHeld ⊢
            refine take_ (i:=0) (N:=some 36) (v:=?_) (a':=?_) #[true,false,false,false,false] rfl rfl (by kernel_rfl) (fun _ _ _ h=>h) (Or.inl ⟨by rfl,?_⟩) hHeld ?_ ?_
            rotate_left
            · rintro w' ⟨s0,s1,s2,s3⟩
              go_simp
              with_reducible rfl
            rotate_left
            · simp only [Act.put,List.setIfInBounds_toArray,List.set_cons_zero,List.set_cons_succ,i64_w,i32_w]
              rfl
            refine take_ (i:=1) (N:=some 37) (v:=?_) (a':=?_) #[true,true,false,false,false] rfl rfl (by kernel_rfl) (fun _ _ _ h=>h) (Or.inl ⟨by rfl,?_⟩) hHeld ?_ ?_
            rotate_left
            · rintro w' ⟨s0,s1,s2,s3⟩
              go_simp
              with_reducible rfl
            rotate_left
            · simp only [Act.put,List.setIfInBounds_toArray,List.set_cons_zero,List.set_cons_succ,i64_w,i32_w]
              rfl
            refine one_ (i:=2) (N:=some 38) #[true,true,true,false,false] rfl rfl (by kernel_rfl) (by decide) (fun K hK=>?_)
            refine goes_ Try.func35 (by kernel_rfl) rfl #[.agg #[.int .i64 a0_0,.slice A0_1 l0_1.length c0_1]] (by rfl) rfl rfl (by (try simp only [List.map_toArray,List.map_cons,List.map_nil]);first|done|rfl|(simp only [List.length_drop,List.length_take];rfl)) ?_
            with_reducible refine (laws_toGraph.calls kj10 a0_0 _ _ l0_1 t235 t236 _ ?side1 ?side2 A54.out).mono ?_
            (case side1=>repeat (first|exact (Kd.C_below HR0_1.out HB.out)|(with_reducible refine Kd.C_alloc ?_ _)|(with_reducible refine Kd.C_drewN ?_ _)|(with_reducible refine Kd.C_drew ?_)))
            (case side2=>exact HC0_1.out)
            rintro e w58 ⟨v237,rfl,ho0,hb⟩
            refine ⟨_,rfl,?_⟩
            have n0_:=qn.mk (Kd.R_elder' (by (with_reducible repeat (first|apply Kd.R_alloc|apply Kd.R_drewN|apply Kd.R_drew));exact HO_229001.out) (Kd.R_base ho0) hb)
            have n1_:=qn.mk (Kd.R_lower (Kd.R_new' ho0 (Kd.R_lt (by (with_reducible repeat (first|apply Kd.R_alloc|apply Kd.R_drewN|apply Kd.R_drew));exact HO_229001.out))) (qj (by repeat (first|(with_reducible first|exact HB.out|apply qf|apply qa|apply qd|refine qg ?_ GE213.out|refine qg ?_ GE223.out|refine qg ?_ GE228.out|refine qg ?_ GE233.out)|exact HB.out))))
            have n2_:=bb_ BK213 hb
            have n3_:=bb_ BK223 hb
            have n4_:=bb_ BK228 hb
            have n5_:=bb_ BK233 hb
            have n6_:=hs_ HB hb
            clear HO_229001
            clear BK213
            clear BK223
            clear BK228
            clear BK233
            clear HB
            have HO_229001:=n0_
            have HO238:=n1_
            have BK213:=n2_
            have BK223:=n3_
            have BK228:=n4_
            have BK233:=n5_
            have HB:=n6_
            clear n0_ n1_ n2_ n3_ n4_ n5_ n6_
            (try clear hb)
            (try clear hb2)
            (try clear hk)
            (try clear hi)
            (try clear ho0)
            obtain ⟨Ao59,co59,eo59⟩:=Kd.R_slice HO238.out
            (first|subst eo59|(injection eo59 with f1_ f2_ f3_;have f4_:=f1_.symm;have f5_:=f3_.symm;clear f1_ f2_ f3_;subst f4_;subst f5_))
            refine hK.out _ _ ⟨(qh BK228.out 0).trans rfl,(qh BK228.out 1).trans rfl,(qh BK213.out 0).trans rfl,(qh BK213.out 1).trans rfl⟩ (fun hHeld=>?_)
            clear hK K
            refine norm_ (a':=?_) ?_ ?_
            rotate_left
            · show Act.put _ (some 38) _ = _
              simp only [Act.put,List.setIfInBounds_toArray,List.set_cons_zero,List.set_cons_succ,i64_w,i32_w]
              rfl
            refine one_ (i:=3) (N:=some 39) #[true,true,true,true,false] rfl rfl (by kernel_rfl) (by decide) (fun K hK=>?_)
            refine goes_ Try.func37 (by kernel_rfl) rfl #[.agg #[.int .i64 t224,.slice Ao28 t225.length co28],.agg #[.int .i64 t235,.slice Ao59 t236.length co59]] (by rfl) rfl rfl (by (try simp only [List.map_toArray,List.map_cons,List.map_nil]);first|done|rfl|(simp only [List.length_drop,List.length_take];rfl)) ?_
            with_reducible refine (laws_eqGraph.calls kj10 t224 _ _ t225 t235 _ _ t236 true _ ?side1 ?side2 ?side3 ?side4 A55.out).mono ?_
            (case side1=>repeat (first|exact (Kd.R_reads' HO_229001.out).2.2|(with_reducible refine Kd.C_alloc ?_ _)|(with_reducible refine Kd.C_drewN ?_ _)|(with_reducible refine Kd.C_drew ?_)))
            (case side2=>exact (Kd.R_reads' HO_229001.out).2.1)
            (case side3=>repeat (first|exact (Kd.R_reads' HO238.out).2.2|(with_reducible refine Kd.C_alloc ?_ _)|(with_reducible refine Kd.C_drewN ?_ _)|(with_reducible refine Kd.C_drew ?_)))
            (case side4=>exact (Kd.R_reads' HO238.out).2.1)
            rintro e w60 ⟨rfl,hb⟩
            refine ⟨_,rfl,?_⟩
            have n0_:=rb_ HO_229001 hb
            have n1_:=rb_ HO238 hb
            have n2_:=bb_ BK213 hb
            have n3_:=bb_ BK223 hb
            have n4_:=bb_ BK228 hb
            have n5_:=bb_ BK233 hb
            have n6_:=hs_ HB hb
            clear HO_229001
            clear HO238
            clear BK213
            clear BK223
            clear BK228
            clear BK233
            clear HB
            have HO_229001:=n0_
            have HO238:=n1_
            have BK213:=n2_
            have BK223:=n3_
            have BK228:=n4_
            have BK233:=n5_
            have HB:=n6_
            clear n0_ n1_ n2_ n3_ n4_ n5_ n6_
            (try clear hb)
            (try clear hb2)
            (try clear hk)
            (try clear hi)
            refine hK.out _ _ ⟨(qh BK228.out 0).trans rfl,(qh BK228.out 1).trans rfl,(qh BK213.out 0).trans rfl,(qh BK213.out 1).trans rfl⟩ (fun hHeld=>?_)
            clear hK K
            refine norm_ (a':=?_) ?_ ?_
            rotate_left
            · show Act.put _ (some 39) _ = _
              simp only [Act.put,List.setIfInBounds_toArray,List.set_cons_zero,List.set_cons_succ,i64_w,i32_w]
              rfl
            refine pure_ (i:=4) (N:=some 40) (v:=?_) (a':=?_) #[true,true,true,true,true] rfl rfl (by kernel_rfl) (fun _ _ _ h=>h) (Or.inl ⟨by rfl,?_⟩) ?_ ?_
            rotate_left
            · intro w'
              go_simp
              with_reducible rfl
            rotate_left
            · simp only [Act.put,List.setIfInBounds_toArray,List.set_cons_zero,List.set_cons_succ,i64_w,i32_w]
              rfl
            refine done_ (by kernel_rfl) ?_
            try go_wp2
            go_ret
            exact ⟨by first|rfl|(simp [errW_none,errW_some] <;> rfl)|(simp [*,errW_none,errW_some] <;> rfl),by repeat (first|(with_reducible first|exact HB.out|apply qf|apply qa|apply qd|refine qg ?_ GE213.out|refine qg ?_ GE223.out|refine qg ?_ GE228.out|refine qg ?_ GE233.out)|exact HB.out)⟩
          · replace c56:=Bool.eq_false_iff.mpr c56
            subst c56
            have H1 : (some false) = some r:=by rw [if_neg (show ¬ (false = true) by decide)] at H;exact H
            clear H
            have H:=H1
            clear H1
            obtain rfl:=Option.some.inj H
            try go_wp2
            have n0_:=qn.mk (Kd.R_drew HO_229001.out)
            have n1_:=qn.mk (qe BK213.out)
            have n2_:=qn.mk (qe BK223.out)
            have n3_:=qn.mk (qe BK228.out)
            have n4_:=qn.mk (qe BK233.out)
            have n5_:=qn.mk (qd HB.out)
            clear HO_229001
            clear BK213
            clear BK223
            clear BK228
            clear BK233
            clear HB
            have HO_229001:=n0_
            have BK213:=n1_
            have BK223:=n2_
            have BK228:=n3_
            have BK233:=n4_
            have HB:=n5_
            clear n0_ n1_ n2_ n3_ n4_ n5_
            refine start_ (n:=5) (S:=fun w'=>w'.cell? ⟨gb228,0,none⟩ = some (.int .i64 t224) ∧ w'.cell? ⟨gb228,1,none⟩ = some (.slice Ao28 t225.length co28) ∧ w'.cell? ⟨gb213,0,none⟩ = some (.int .i64 a0_0) ∧ w'.cell? ⟨gb213,1,none⟩ = some (.slice A0_1 l0_1.length c0_1)) (ds:=[]) #[false,false,false,false,false] (by kernel_rfl) rfl rfl ⟨(qh BK228.out 0).trans rfl,(qh BK228.out 1).trans rfl,(qh BK213.out 0).trans rfl,(qh BK213.out 1).trans rfl⟩ (fun hHeld=>?_)
            generalize wc.drew = w61 at HO_229001 BK213 BK223 BK228 BK233 HB hHeld ⊢
            refine take_ (i:=0) (N:=some 36) (v:=?_) (a':=?_) #[true,false,false,false,false] rfl rfl (by kernel_rfl) (fun _ _ _ h=>h) (Or.inl ⟨by rfl,?_⟩) hHeld ?_ ?_
            rotate_left
            · rintro w' ⟨s0,s1,s2,s3⟩
              go_simp
              with_reducible rfl
            rotate_left
            · simp only [Act.put,List.setIfInBounds_toArray,List.set_cons_zero,List.set_cons_succ,i64_w,i32_w]
              rfl
            refine take_ (i:=1) (N:=some 37) (v:=?_) (a':=?_) #[true,true,false,false,false] rfl rfl (by kernel_rfl) (fun _ _ _ h=>h) (Or.inl ⟨by rfl,?_⟩) hHeld ?_ ?_
            rotate_left
            · rintro w' ⟨s0,s1,s2,s3⟩
              go_simp
              with_reducible rfl
            rotate_left
            · simp only [Act.put,List.setIfInBounds_toArray,List.set_cons_zero,List.set_cons_succ,i64_w,i32_w]
              rfl
            refine one_ (i:=2) (N:=some 38) #[true,true,true,false,false] rfl rfl (by kernel_rfl) (by decide) (fun K hK=>?_)
            refine goes_ Try.func35 (by kernel_rfl) rfl #[.agg #[.int .i64 a0_0,.slice A0_1 l0_1.length c0_1]] (by rfl) rfl rfl (by (try simp only [List.map_toArray,List.map_cons,List.map_nil]);first|done|rfl|(simp only [List.length_drop,List.length_take];rfl)) ?_
            with_reducible refine (laws_toGraph.calls kj10 a0_0 _ _ l0_1 t235 t236 _ ?side1 ?side2 A54.out).mono ?_
            (case side1=>repeat (first|exact (Kd.C_below HR0_1.out HB.out)|(with_reducible refine Kd.C_alloc ?_ _)|(with_reducible refine Kd.C_drewN ?_ _)|(with_reducible refine Kd.C_drew ?_)))
            (case side2=>exact HC0_1.out)
            rintro e w62 ⟨v237,rfl,ho0,hb⟩
            refine ⟨_,rfl,?_⟩
            have n0_:=qn.mk (Kd.R_elder' (by (with_reducible repeat (first|apply Kd.R_alloc|apply Kd.R_drewN|apply Kd.R_drew));exact HO_229001.out) (Kd.R_base ho0) hb)
            have n1_:=qn.mk (Kd.R_lower (Kd.R_new' ho0 (Kd.R_lt (by (with_reducible repeat (first|apply Kd.R_alloc|apply Kd.R_drewN|apply Kd.R_drew));exact HO_229001.out))) (qj (by repeat (first|(with_reducible first|exact HB.out|apply qf|apply qa|apply qd|refine qg ?_ GE213.out|refine qg ?_ GE223.out|refine qg ?_ GE228.out|refine qg ?_ GE233.out)|exact HB.out))))
            have n2_:=bb_ BK213 hb
            have n3_:=bb_ BK223 hb
            have n4_:=bb_ BK228 hb
            have n5_:=bb_ BK233 hb
            have n6_:=hs_ HB hb
            clear HO_229001
            clear BK213
            clear BK223
            clear BK228
            clear BK233
            clear HB
            have HO_229001:=n0_
            have HO238:=n1_
            have BK213:=n2_
            have BK223:=n3_
            have BK228:=n4_
            have BK233:=n5_
            have HB:=n6_
            clear n0_ n1_ n2_ n3_ n4_ n5_ n6_
            (try clear hb)
            (try clear hb2)
            (try clear hk)
            (try clear hi)
            (try clear ho0)
            obtain ⟨Ao63,co63,eo63⟩:=Kd.R_slice HO238.out
            (first|subst eo63|(injection eo63 with f1_ f2_ f3_;have f4_:=f1_.symm;have f5_:=f3_.symm;clear f1_ f2_ f3_;subst f4_;subst f5_))
            refine hK.out _ _ ⟨(qh BK228.out 0).trans rfl,(qh BK228.out 1).trans rfl,(qh BK213.out 0).trans rfl,(qh BK213.out 1).trans rfl⟩ (fun hHeld=>?_)
            clear hK K
            refine norm_ (a':=?_) ?_ ?_
            rotate_left
            · show Act.put _ (some 38) _ = _
              simp only [Act.put,List.setIfInBounds_toArray,List.set_cons_zero,List.set_cons_succ,i64_w,i32_w]
              rfl
            refine one_ (i:=3) (N:=some 39) #[true,true,true,true,false] rfl rfl (by kernel_rfl) (by decide) (fun K hK=>?_)
            refine goes_ Try.func37 (by kernel_rfl) rfl #[.agg #[.int .i64 t224,.slice Ao28 t225.length co28],.agg #[.int .i64 t235,.slice Ao63 t236.length co63]] (by rfl) rfl rfl (by (try simp only [List.map_toArray,List.map_cons,List.map_nil]);first|done|rfl|(simp only [List.length_drop,List.length_take];rfl)) ?_
            with_reducible refine (laws_eqGraph.calls kj10 t224 _ _ t225 t235 _ _ t236 false _ ?side1 ?side2 ?side3 ?side4 A55.out).mono ?_
            (case side1=>repeat (first|exact (Kd.R_reads' HO_229001.out).2.2|(with_reducible refine Kd.C_alloc ?_ _)|(with_reducible refine Kd.C_drewN ?_ _)|(with_reducible refine Kd.C_drew ?_)))
            (case side2=>exact (Kd.R_reads' HO_229001.out).2.1)
            (case side3=>repeat (first|exact (Kd.R_reads' HO238.out).2.2|(with_reducible refine Kd.C_alloc ?_ _)|(with_reducible refine Kd.C_drewN ?_ _)|(with_reducible refine Kd.C_drew ?_)))
            (case side4=>exact (Kd.R_reads' HO238.out).2.1)
            rintro e w64 ⟨rfl,hb⟩
            refine ⟨_,rfl,?_⟩
            have n0_:=rb_ HO_229001 hb
            have n1_:=rb_ HO238 hb
            have n2_:=bb_ BK213 hb
            have n3_:=bb_ BK223 hb
            have n4_:=bb_ BK228 hb
            have n5_:=bb_ BK233 hb
            have n6_:=hs_ HB hb
            clear HO_229001
            clear HO238
            clear BK213
            clear BK223
            clear BK228
            clear BK233
            clear HB
            have HO_229001:=n0_
            have HO238:=n1_
            have BK213:=n2_
            have BK223:=n3_
            have BK228:=n4_
            have BK233:=n5_
            have HB:=n6_
            clear n0_ n1_ n2_ n3_ n4_ n5_ n6_
            (try clear hb)
            (try clear hb2)
            (try clear hk)
            (try clear hi)
            refine hK.out _ _ ⟨(qh BK228.out 0).trans rfl,(qh BK228.out 1).trans rfl,(qh BK213.out 0).trans rfl,(qh BK213.out 1).trans rfl⟩ (fun hHeld=>?_)
            clear hK K
            refine norm_ (a':=?_) ?_ ?_
            rotate_left
            · show Act.put _ (some 39) _ = _
              simp only [Act.put,List.setIfInBounds_toArray,List.set_cons_zero,List.set_cons_succ,i64_w,i32_w]
              rfl
            refine pure_ (i:=4) (N:=some 40) (v:=?_) (a':=?_) #[true,true,true,true,true] rfl rfl (by kernel_rfl) (fun _ _ _ h=>h) (Or.inl ⟨by rfl,?_⟩) ?_ ?_
            rotate_left
            · intro w'
              go_simp
              with_reducible rfl
            rotate_left
            · simp only [Act.put,List.setIfInBounds_toArray,List.set_cons_zero,List.set_cons_succ,i64_w,i32_w]
              rfl
            refine done_ (by kernel_rfl) ?_
            try go_wp2
            go_ret
            exact ⟨by first|rfl|(simp [errW_none,errW_some] <;> rfl)|(simp [*,errW_none,errW_some] <;> rfl),by repeat (first|(with_reducible first|exact HB.out|apply qf|apply qa|apply qd|refine qg ?_ GE213.out|refine qg ?_ GE223.out|refine qg ?_ GE228.out|refine qg ?_ GE233.out)|exact HB.out)⟩

end Go.Proofs.Ytfmemcffbfahhaa.QFnExactBestSums
