/- Lean functions for the Go functions that the law FnExactProofOk reaches, and that each Go function comes to just its Lean function's answer; by a program of this session. -/
import Derived.Test.YtcdofljgeiohgaaZFnExactProofOkx0
namespace Go.Proofs.Ytcdofljgeiohgaa.QFnExactProofOk
open Go.RowKit Go.Proofs.YtcdofljgeiohgaaW.PrintWords Go.Proofs.YtcdofljgeiohgaaW.PrintLast Go.Proofs.YtcdofljgeiohgaaW.PrintMore
attribute [local go_sem] max2_int min2_int max_two min_two max_three min_three max_four min_four   -- for this text's walks alone
set_option linter.unusedVariables false
set_option linter.unusedSimpArgs false

/-! ### laws_eqEdge: function 80 -/
def laws_eqEdge.f (a0_0 : Int) (a0_1 : Int) (a0_2 : Int) (a0_3 : Int) (a0_4 : Int) (a1_0 : Int) (a1_1 : Int) (a1_2 : Int) (a1_3 : Int) (a1_4 : Int) : Option (Bool):=if a0_0 = a1_0 then (if a0_1 = a1_1 then (if a0_2 = a1_2 then (if a0_3 = a1_3 then (if a0_4 = a1_4 then (some true) else (some false)) else (some false)) else (some false)) else (some false)) else (some false)
set_option maxHeartbeats 8000000 in
set_option maxRecDepth 100000 in
theorem laws_eqEdge.calls (a0_0 : Int) (a0_1 : Int) (a0_2 : Int) (a0_3 : Int) (a0_4 : Int) (a1_0 : Int) (a1_1 : Int) (a1_2 : Int) (a1_3 : Int) (a1_4 : Int) (r : Bool) (w : World) (h : laws_eqEdge.f a0_0 a0_1 a0_2 a0_3 a0_4 a1_0 a1_1 a1_2 a1_3 a1_4 = some r) :
    Calls Try.prog 80 #[.agg #[.int .i64 a0_0,.int .i64 a0_1,.int .i64 a0_2,.int .i64 a0_3,.int .i64 a0_4],.agg #[.int .i64 a1_0,.int .i64 a1_1,.int .i64 a1_2,.int .i64 a1_3,.int .i64 a1_4]] w fun e w'=>e = .returned (.bool r) ∧ Below w.heap.size w w':=by
  have hu101:=Try.underlying101
  have HB:=qn.mk (Below.refl w.heap.size w)
  have H : (if a0_0 = a1_0 then (if a0_1 = a1_1 then (if a0_2 = a1_2 then (if a0_3 = a1_3 then (if a0_4 = a1_4 then (some true) else (some false)) else (some false)) else (some false)) else (some false)) else (some false)) = some r:=h
  clear h
  by_cases c3 : a0_0 = a1_0
  · rw [if_pos c3] at H
    have c3b0 : (a0_0 == a1_0) = true:=beq_iff_eq.mpr c3
    have c3b1 : (a0_0 != a1_0) = false:=bne_eq_false_iff_eq.mpr c3
    clear c3
    by_cases c4 : a0_1 = a1_1
    · rw [if_pos c4] at H
      have c4b0 : (a0_1 == a1_1) = true:=beq_iff_eq.mpr c4
      have c4b1 : (a0_1 != a1_1) = false:=bne_eq_false_iff_eq.mpr c4
      clear c4
      by_cases c5 : a0_2 = a1_2
      · rw [if_pos c5] at H
        have c5b0 : (a0_2 == a1_2) = true:=beq_iff_eq.mpr c5
        have c5b1 : (a0_2 != a1_2) = false:=bne_eq_false_iff_eq.mpr c5
        clear c5
        by_cases c6 : a0_3 = a1_3
        · rw [if_pos c6] at H
          have c6b0 : (a0_3 == a1_3) = true:=beq_iff_eq.mpr c6
          have c6b1 : (a0_3 != a1_3) = false:=bne_eq_false_iff_eq.mpr c6
          clear c6
          by_cases c7 : a0_4 = a1_4
          · rw [if_pos c7] at H
            have c7b0 : (a0_4 == a1_4) = true:=beq_iff_eq.mpr c7
            have c7b1 : (a0_4 != a1_4) = false:=bne_eq_false_iff_eq.mpr c7
            clear c7
            obtain rfl:=Option.some.inj H
            go_enter Try.func80,Try.ntmps80
            go_wp2_with (first|((with_reducible refine gate_dst (N:=2) rfl ?_);refine box_event ?hg (N:=2) ?hd (cs:=#[.int .i64 a0_0,.int .i64 a0_1,.int .i64 a0_2,.int .i64 a0_3,.int .i64 a0_4]) (t:=101) ?hr ?_;(case hd=>rfl);(case hg=>rfl);(case hr=>first|(go_simp;done)|(go_simp;rfl));intro gb251 hg w8 hbox hb;have n0_:=hs_ HB hb;have n1_:=qn.mk (hbox);have n2_:=qn.mk ((by rw [hg];exact (qj (by repeat (first|(with_reducible first|exact HB.out|apply qf|apply qa|apply qd)|exact HB.out))) : w.heap.size ≤ gb251));have n3_:=qn.mk ((by rw [hg];exact (qj (by repeat (first|(with_reducible first|exact HB.out|apply qf|apply qa|apply qd)|exact HB.out))) : w.heap.size ≤ gb251));clear HB;have HB:=n0_;have BK251:=n1_;have GW251:=n2_;have GE251:=n3_;clear n0_ n1_ n2_ n3_;clear hb hbox hg)|((with_reducible refine gate_dst (N:=3) rfl ?_);refine box_event ?hg (N:=3) ?hd (cs:=#[.int .i64 a1_0,.int .i64 a1_1,.int .i64 a1_2,.int .i64 a1_3,.int .i64 a1_4]) (t:=101) ?hr ?_;(case hd=>rfl);(case hg=>rfl);(case hr=>first|(go_simp;done)|(go_simp;rfl));intro gb252 hg w9 hbox hb;have n0_:=bb_ BK251 hb;have n1_:=hs_ HB hb;have n2_:=qn.mk (hbox);have n3_:=qn.mk ((by rw [hg];exact (qj (by repeat (first|(with_reducible first|exact HB.out|apply qf|apply qa|apply qd|refine qg ?_ GE251.out)|exact HB.out))) : w.heap.size ≤ gb252));have n4_:=qn.mk ((by rw [hg];exact (qj (by repeat (first|(with_reducible first|exact HB.out|apply qf|apply qa|apply qd|refine qg ?_ GE251.out)|exact HB.out))) : w.heap.size ≤ gb252));have n5_:=qn.mk ((by rw [hg];exact nl_ BK251 : gb251 ≠ gb252));have n6_:=qn.mk ((by rw [hg];exact ng_ BK251 : gb252 ≠ gb251));clear BK251;clear HB;have BK251:=n0_;have HB:=n1_;have BK252:=n2_;have GW252:=n3_;have GE252:=n4_;have NB251_252:=n5_;have NB252_251:=n6_;clear n0_ n1_ n2_ n3_ n4_ n5_ n6_;clear hb hbox hg;have hnb10:=NB251_252.out;have hnc10:=NB252_251.out;have hcz11_0 : w9.cell? ⟨gb251,0,none⟩ = some (.int .i64 a0_0):=(qh BK251.out 0).trans rfl;have hcz11_1 : w9.cell? ⟨gb251,1,none⟩ = some (.int .i64 a0_1):=(qh BK251.out 1).trans rfl;have hcz11_2 : w9.cell? ⟨gb251,2,none⟩ = some (.int .i64 a0_2):=(qh BK251.out 2).trans rfl;have hcz11_3 : w9.cell? ⟨gb251,3,none⟩ = some (.int .i64 a0_3):=(qh BK251.out 3).trans rfl;have hcz11_4 : w9.cell? ⟨gb251,4,none⟩ = some (.int .i64 a0_4):=(qh BK251.out 4).trans rfl;have hfz11_0:=qi BK251.out 0;have hfz11_1:=qi BK251.out 1;have hfz11_2:=qi BK251.out 2;have hfz11_3:=qi BK251.out 3;have hfz11_4:=qi BK251.out 4;have hcz12_0 : w9.cell? ⟨gb252,0,none⟩ = some (.int .i64 a1_0):=(qh BK252.out 0).trans rfl;have hcz12_1 : w9.cell? ⟨gb252,1,none⟩ = some (.int .i64 a1_1):=(qh BK252.out 1).trans rfl;have hcz12_2 : w9.cell? ⟨gb252,2,none⟩ = some (.int .i64 a1_2):=(qh BK252.out 2).trans rfl;have hcz12_3 : w9.cell? ⟨gb252,3,none⟩ = some (.int .i64 a1_3):=(qh BK252.out 3).trans rfl;have hcz12_4 : w9.cell? ⟨gb252,4,none⟩ = some (.int .i64 a1_4):=(qh BK252.out 4).trans rfl;have hfz12_0:=qi BK252.out 0;have hfz12_1:=qi BK252.out 1;have hfz12_2:=qi BK252.out 2;have hfz12_3:=qi BK252.out 3;have hfz12_4:=qi BK252.out 4))
            go_ret
            exact ⟨by first|rfl|(simp [errW_none,errW_some] <;> rfl)|(simp [*,errW_none,errW_some] <;> rfl),by repeat (first|(with_reducible first|exact HB.out|apply qf|apply qa|apply qd|refine qg ?_ GE251.out|refine qg ?_ GE252.out)|exact HB.out)⟩
          · rw [if_neg c7] at H
            have c7b0 : (a0_4 == a1_4) = false:=beq_eq_false_iff_ne.mpr c7
            have c7b1 : (a0_4 != a1_4) = true:=bne_iff_ne.mpr c7
            obtain rfl:=Option.some.inj H
            go_enter Try.func80,Try.ntmps80
            go_wp2_with (first|((with_reducible refine gate_dst (N:=2) rfl ?_);refine box_event ?hg (N:=2) ?hd (cs:=#[.int .i64 a0_0,.int .i64 a0_1,.int .i64 a0_2,.int .i64 a0_3,.int .i64 a0_4]) (t:=101) ?hr ?_;(case hd=>rfl);(case hg=>rfl);(case hr=>first|(go_simp;done)|(go_simp;rfl));intro gb251 hg w13 hbox hb;have n0_:=hs_ HB hb;have n1_:=qn.mk (hbox);have n2_:=qn.mk ((by rw [hg];exact (qj (by repeat (first|(with_reducible first|exact HB.out|apply qf|apply qa|apply qd)|exact HB.out))) : w.heap.size ≤ gb251));have n3_:=qn.mk ((by rw [hg];exact (qj (by repeat (first|(with_reducible first|exact HB.out|apply qf|apply qa|apply qd)|exact HB.out))) : w.heap.size ≤ gb251));clear HB;have HB:=n0_;have BK251:=n1_;have GW251:=n2_;have GE251:=n3_;clear n0_ n1_ n2_ n3_;clear hb hbox hg)|((with_reducible refine gate_dst (N:=3) rfl ?_);refine box_event ?hg (N:=3) ?hd (cs:=#[.int .i64 a1_0,.int .i64 a1_1,.int .i64 a1_2,.int .i64 a1_3,.int .i64 a1_4]) (t:=101) ?hr ?_;(case hd=>rfl);(case hg=>rfl);(case hr=>first|(go_simp;done)|(go_simp;rfl));intro gb252 hg w14 hbox hb;have n0_:=bb_ BK251 hb;have n1_:=hs_ HB hb;have n2_:=qn.mk (hbox);have n3_:=qn.mk ((by rw [hg];exact (qj (by repeat (first|(with_reducible first|exact HB.out|apply qf|apply qa|apply qd|refine qg ?_ GE251.out)|exact HB.out))) : w.heap.size ≤ gb252));have n4_:=qn.mk ((by rw [hg];exact (qj (by repeat (first|(with_reducible first|exact HB.out|apply qf|apply qa|apply qd|refine qg ?_ GE251.out)|exact HB.out))) : w.heap.size ≤ gb252));have n5_:=qn.mk ((by rw [hg];exact nl_ BK251 : gb251 ≠ gb252));have n6_:=qn.mk ((by rw [hg];exact ng_ BK251 : gb252 ≠ gb251));clear BK251;clear HB;have BK251:=n0_;have HB:=n1_;have BK252:=n2_;have GW252:=n3_;have GE252:=n4_;have NB251_252:=n5_;have NB252_251:=n6_;clear n0_ n1_ n2_ n3_ n4_ n5_ n6_;clear hb hbox hg;have hnb15:=NB251_252.out;have hnc15:=NB252_251.out;have hcz16_0 : w14.cell? ⟨gb251,0,none⟩ = some (.int .i64 a0_0):=(qh BK251.out 0).trans rfl;have hcz16_1 : w14.cell? ⟨gb251,1,none⟩ = some (.int .i64 a0_1):=(qh BK251.out 1).trans rfl;have hcz16_2 : w14.cell? ⟨gb251,2,none⟩ = some (.int .i64 a0_2):=(qh BK251.out 2).trans rfl;have hcz16_3 : w14.cell? ⟨gb251,3,none⟩ = some (.int .i64 a0_3):=(qh BK251.out 3).trans rfl;have hcz16_4 : w14.cell? ⟨gb251,4,none⟩ = some (.int .i64 a0_4):=(qh BK251.out 4).trans rfl;have hfz16_0:=qi BK251.out 0;have hfz16_1:=qi BK251.out 1;have hfz16_2:=qi BK251.out 2;have hfz16_3:=qi BK251.out 3;have hfz16_4:=qi BK251.out 4;have hcz17_0 : w14.cell? ⟨gb252,0,none⟩ = some (.int .i64 a1_0):=(qh BK252.out 0).trans rfl;have hcz17_1 : w14.cell? ⟨gb252,1,none⟩ = some (.int .i64 a1_1):=(qh BK252.out 1).trans rfl;have hcz17_2 : w14.cell? ⟨gb252,2,none⟩ = some (.int .i64 a1_2):=(qh BK252.out 2).trans rfl;have hcz17_3 : w14.cell? ⟨gb252,3,none⟩ = some (.int .i64 a1_3):=(qh BK252.out 3).trans rfl;have hcz17_4 : w14.cell? ⟨gb252,4,none⟩ = some (.int .i64 a1_4):=(qh BK252.out 4).trans rfl;have hfz17_0:=qi BK252.out 0;have hfz17_1:=qi BK252.out 1;have hfz17_2:=qi BK252.out 2;have hfz17_3:=qi BK252.out 3;have hfz17_4:=qi BK252.out 4))
            go_ret
            exact ⟨by first|rfl|(simp [errW_none,errW_some] <;> rfl)|(simp [*,errW_none,errW_some] <;> rfl),by repeat (first|(with_reducible first|exact HB.out|apply qf|apply qa|apply qd|refine qg ?_ GE251.out|refine qg ?_ GE252.out)|exact HB.out)⟩
        · rw [if_neg c6] at H
          have c6b0 : (a0_3 == a1_3) = false:=beq_eq_false_iff_ne.mpr c6
          have c6b1 : (a0_3 != a1_3) = true:=bne_iff_ne.mpr c6
          obtain rfl:=Option.some.inj H
          go_enter Try.func80,Try.ntmps80
          go_wp2_with (first|((with_reducible refine gate_dst (N:=2) rfl ?_);refine box_event ?hg (N:=2) ?hd (cs:=#[.int .i64 a0_0,.int .i64 a0_1,.int .i64 a0_2,.int .i64 a0_3,.int .i64 a0_4]) (t:=101) ?hr ?_;(case hd=>rfl);(case hg=>rfl);(case hr=>first|(go_simp;done)|(go_simp;rfl));intro gb251 hg w18 hbox hb;have n0_:=hs_ HB hb;have n1_:=qn.mk (hbox);have n2_:=qn.mk ((by rw [hg];exact (qj (by repeat (first|(with_reducible first|exact HB.out|apply qf|apply qa|apply qd)|exact HB.out))) : w.heap.size ≤ gb251));have n3_:=qn.mk ((by rw [hg];exact (qj (by repeat (first|(with_reducible first|exact HB.out|apply qf|apply qa|apply qd)|exact HB.out))) : w.heap.size ≤ gb251));clear HB;have HB:=n0_;have BK251:=n1_;have GW251:=n2_;have GE251:=n3_;clear n0_ n1_ n2_ n3_;clear hb hbox hg)|((with_reducible refine gate_dst (N:=3) rfl ?_);refine box_event ?hg (N:=3) ?hd (cs:=#[.int .i64 a1_0,.int .i64 a1_1,.int .i64 a1_2,.int .i64 a1_3,.int .i64 a1_4]) (t:=101) ?hr ?_;(case hd=>rfl);(case hg=>rfl);(case hr=>first|(go_simp;done)|(go_simp;rfl));intro gb252 hg w19 hbox hb;have n0_:=bb_ BK251 hb;have n1_:=hs_ HB hb;have n2_:=qn.mk (hbox);have n3_:=qn.mk ((by rw [hg];exact (qj (by repeat (first|(with_reducible first|exact HB.out|apply qf|apply qa|apply qd|refine qg ?_ GE251.out)|exact HB.out))) : w.heap.size ≤ gb252));have n4_:=qn.mk ((by rw [hg];exact (qj (by repeat (first|(with_reducible first|exact HB.out|apply qf|apply qa|apply qd|refine qg ?_ GE251.out)|exact HB.out))) : w.heap.size ≤ gb252));have n5_:=qn.mk ((by rw [hg];exact nl_ BK251 : gb251 ≠ gb252));have n6_:=qn.mk ((by rw [hg];exact ng_ BK251 : gb252 ≠ gb251));clear BK251;clear HB;have BK251:=n0_;have HB:=n1_;have BK252:=n2_;have GW252:=n3_;have GE252:=n4_;have NB251_252:=n5_;have NB252_251:=n6_;clear n0_ n1_ n2_ n3_ n4_ n5_ n6_;clear hb hbox hg;have hnb20:=NB251_252.out;have hnc20:=NB252_251.out;have hcz21_0 : w19.cell? ⟨gb251,0,none⟩ = some (.int .i64 a0_0):=(qh BK251.out 0).trans rfl;have hcz21_1 : w19.cell? ⟨gb251,1,none⟩ = some (.int .i64 a0_1):=(qh BK251.out 1).trans rfl;have hcz21_2 : w19.cell? ⟨gb251,2,none⟩ = some (.int .i64 a0_2):=(qh BK251.out 2).trans rfl;have hcz21_3 : w19.cell? ⟨gb251,3,none⟩ = some (.int .i64 a0_3):=(qh BK251.out 3).trans rfl;have hcz21_4 : w19.cell? ⟨gb251,4,none⟩ = some (.int .i64 a0_4):=(qh BK251.out 4).trans rfl;have hfz21_0:=qi BK251.out 0;have hfz21_1:=qi BK251.out 1;have hfz21_2:=qi BK251.out 2;have hfz21_3:=qi BK251.out 3;have hfz21_4:=qi BK251.out 4;have hcz22_0 : w19.cell? ⟨gb252,0,none⟩ = some (.int .i64 a1_0):=(qh BK252.out 0).trans rfl;have hcz22_1 : w19.cell? ⟨gb252,1,none⟩ = some (.int .i64 a1_1):=(qh BK252.out 1).trans rfl;have hcz22_2 : w19.cell? ⟨gb252,2,none⟩ = some (.int .i64 a1_2):=(qh BK252.out 2).trans rfl;have hcz22_3 : w19.cell? ⟨gb252,3,none⟩ = some (.int .i64 a1_3):=(qh BK252.out 3).trans rfl;have hcz22_4 : w19.cell? ⟨gb252,4,none⟩ = some (.int .i64 a1_4):=(qh BK252.out 4).trans rfl;have hfz22_0:=qi BK252.out 0;have hfz22_1:=qi BK252.out 1;have hfz22_2:=qi BK252.out 2;have hfz22_3:=qi BK252.out 3;have hfz22_4:=qi BK252.out 4))
          go_ret
          exact ⟨by first|rfl|(simp [errW_none,errW_some] <;> rfl)|(simp [*,errW_none,errW_some] <;> rfl),by repeat (first|(with_reducible first|exact HB.out|apply qf|apply qa|apply qd|refine qg ?_ GE251.out|refine qg ?_ GE252.out)|exact HB.out)⟩
      · rw [if_neg c5] at H
        have c5b0 : (a0_2 == a1_2) = false:=beq_eq_false_iff_ne.mpr c5
        have c5b1 : (a0_2 != a1_2) = true:=bne_iff_ne.mpr c5
        obtain rfl:=Option.some.inj H
        go_enter Try.func80,Try.ntmps80
        go_wp2_with (first|((with_reducible refine gate_dst (N:=2) rfl ?_);refine box_event ?hg (N:=2) ?hd (cs:=#[.int .i64 a0_0,.int .i64 a0_1,.int .i64 a0_2,.int .i64 a0_3,.int .i64 a0_4]) (t:=101) ?hr ?_;(case hd=>rfl);(case hg=>rfl);(case hr=>first|(go_simp;done)|(go_simp;rfl));intro gb251 hg w23 hbox hb;have n0_:=hs_ HB hb;have n1_:=qn.mk (hbox);have n2_:=qn.mk ((by rw [hg];exact (qj (by repeat (first|(with_reducible first|exact HB.out|apply qf|apply qa|apply qd)|exact HB.out))) : w.heap.size ≤ gb251));have n3_:=qn.mk ((by rw [hg];exact (qj (by repeat (first|(with_reducible first|exact HB.out|apply qf|apply qa|apply qd)|exact HB.out))) : w.heap.size ≤ gb251));clear HB;have HB:=n0_;have BK251:=n1_;have GW251:=n2_;have GE251:=n3_;clear n0_ n1_ n2_ n3_;clear hb hbox hg)|((with_reducible refine gate_dst (N:=3) rfl ?_);refine box_event ?hg (N:=3) ?hd (cs:=#[.int .i64 a1_0,.int .i64 a1_1,.int .i64 a1_2,.int .i64 a1_3,.int .i64 a1_4]) (t:=101) ?hr ?_;(case hd=>rfl);(case hg=>rfl);(case hr=>first|(go_simp;done)|(go_simp;rfl));intro gb252 hg w24 hbox hb;have n0_:=bb_ BK251 hb;have n1_:=hs_ HB hb;have n2_:=qn.mk (hbox);have n3_:=qn.mk ((by rw [hg];exact (qj (by repeat (first|(with_reducible first|exact HB.out|apply qf|apply qa|apply qd|refine qg ?_ GE251.out)|exact HB.out))) : w.heap.size ≤ gb252));have n4_:=qn.mk ((by rw [hg];exact (qj (by repeat (first|(with_reducible first|exact HB.out|apply qf|apply qa|apply qd|refine qg ?_ GE251.out)|exact HB.out))) : w.heap.size ≤ gb252));have n5_:=qn.mk ((by rw [hg];exact nl_ BK251 : gb251 ≠ gb252));have n6_:=qn.mk ((by rw [hg];exact ng_ BK251 : gb252 ≠ gb251));clear BK251;clear HB;have BK251:=n0_;have HB:=n1_;have BK252:=n2_;have GW252:=n3_;have GE252:=n4_;have NB251_252:=n5_;have NB252_251:=n6_;clear n0_ n1_ n2_ n3_ n4_ n5_ n6_;clear hb hbox hg;have hnb25:=NB251_252.out;have hnc25:=NB252_251.out;have hcz26_0 : w24.cell? ⟨gb251,0,none⟩ = some (.int .i64 a0_0):=(qh BK251.out 0).trans rfl;have hcz26_1 : w24.cell? ⟨gb251,1,none⟩ = some (.int .i64 a0_1):=(qh BK251.out 1).trans rfl;have hcz26_2 : w24.cell? ⟨gb251,2,none⟩ = some (.int .i64 a0_2):=(qh BK251.out 2).trans rfl;have hcz26_3 : w24.cell? ⟨gb251,3,none⟩ = some (.int .i64 a0_3):=(qh BK251.out 3).trans rfl;have hcz26_4 : w24.cell? ⟨gb251,4,none⟩ = some (.int .i64 a0_4):=(qh BK251.out 4).trans rfl;have hfz26_0:=qi BK251.out 0;have hfz26_1:=qi BK251.out 1;have hfz26_2:=qi BK251.out 2;have hfz26_3:=qi BK251.out 3;have hfz26_4:=qi BK251.out 4;have hcz27_0 : w24.cell? ⟨gb252,0,none⟩ = some (.int .i64 a1_0):=(qh BK252.out 0).trans rfl;have hcz27_1 : w24.cell? ⟨gb252,1,none⟩ = some (.int .i64 a1_1):=(qh BK252.out 1).trans rfl;have hcz27_2 : w24.cell? ⟨gb252,2,none⟩ = some (.int .i64 a1_2):=(qh BK252.out 2).trans rfl;have hcz27_3 : w24.cell? ⟨gb252,3,none⟩ = some (.int .i64 a1_3):=(qh BK252.out 3).trans rfl;have hcz27_4 : w24.cell? ⟨gb252,4,none⟩ = some (.int .i64 a1_4):=(qh BK252.out 4).trans rfl;have hfz27_0:=qi BK252.out 0;have hfz27_1:=qi BK252.out 1;have hfz27_2:=qi BK252.out 2;have hfz27_3:=qi BK252.out 3;have hfz27_4:=qi BK252.out 4))
        go_ret
        exact ⟨by first|rfl|(simp [errW_none,errW_some] <;> rfl)|(simp [*,errW_none,errW_some] <;> rfl),by repeat (first|(with_reducible first|exact HB.out|apply qf|apply qa|apply qd|refine qg ?_ GE251.out|refine qg ?_ GE252.out)|exact HB.out)⟩
    · rw [if_neg c4] at H
      have c4b0 : (a0_1 == a1_1) = false:=beq_eq_false_iff_ne.mpr c4
      have c4b1 : (a0_1 != a1_1) = true:=bne_iff_ne.mpr c4
      obtain rfl:=Option.some.inj H
      go_enter Try.func80,Try.ntmps80
      go_wp2_with (first|((with_reducible refine gate_dst (N:=2) rfl ?_);refine box_event ?hg (N:=2) ?hd (cs:=#[.int .i64 a0_0,.int .i64 a0_1,.int .i64 a0_2,.int .i64 a0_3,.int .i64 a0_4]) (t:=101) ?hr ?_;(case hd=>rfl);(case hg=>rfl);(case hr=>first|(go_simp;done)|(go_simp;rfl));intro gb251 hg w28 hbox hb;have n0_:=hs_ HB hb;have n1_:=qn.mk (hbox);have n2_:=qn.mk ((by rw [hg];exact (qj (by repeat (first|(with_reducible first|exact HB.out|apply qf|apply qa|apply qd)|exact HB.out))) : w.heap.size ≤ gb251));have n3_:=qn.mk ((by rw [hg];exact (qj (by repeat (first|(with_reducible first|exact HB.out|apply qf|apply qa|apply qd)|exact HB.out))) : w.heap.size ≤ gb251));clear HB;have HB:=n0_;have BK251:=n1_;have GW251:=n2_;have GE251:=n3_;clear n0_ n1_ n2_ n3_;clear hb hbox hg)|((with_reducible refine gate_dst (N:=3) rfl ?_);refine box_event ?hg (N:=3) ?hd (cs:=#[.int .i64 a1_0,.int .i64 a1_1,.int .i64 a1_2,.int .i64 a1_3,.int .i64 a1_4]) (t:=101) ?hr ?_;(case hd=>rfl);(case hg=>rfl);(case hr=>first|(go_simp;done)|(go_simp;rfl));intro gb252 hg w29 hbox hb;have n0_:=bb_ BK251 hb;have n1_:=hs_ HB hb;have n2_:=qn.mk (hbox);have n3_:=qn.mk ((by rw [hg];exact (qj (by repeat (first|(with_reducible first|exact HB.out|apply qf|apply qa|apply qd|refine qg ?_ GE251.out)|exact HB.out))) : w.heap.size ≤ gb252));have n4_:=qn.mk ((by rw [hg];exact (qj (by repeat (first|(with_reducible first|exact HB.out|apply qf|apply qa|apply qd|refine qg ?_ GE251.out)|exact HB.out))) : w.heap.size ≤ gb252));have n5_:=qn.mk ((by rw [hg];exact nl_ BK251 : gb251 ≠ gb252));have n6_:=qn.mk ((by rw [hg];exact ng_ BK251 : gb252 ≠ gb251));clear BK251;clear HB;have BK251:=n0_;have HB:=n1_;have BK252:=n2_;have GW252:=n3_;have GE252:=n4_;have NB251_252:=n5_;have NB252_251:=n6_;clear n0_ n1_ n2_ n3_ n4_ n5_ n6_;clear hb hbox hg;have hnb30:=NB251_252.out;have hnc30:=NB252_251.out;have hcz31_0 : w29.cell? ⟨gb251,0,none⟩ = some (.int .i64 a0_0):=(qh BK251.out 0).trans rfl;have hcz31_1 : w29.cell? ⟨gb251,1,none⟩ = some (.int .i64 a0_1):=(qh BK251.out 1).trans rfl;have hcz31_2 : w29.cell? ⟨gb251,2,none⟩ = some (.int .i64 a0_2):=(qh BK251.out 2).trans rfl;have hcz31_3 : w29.cell? ⟨gb251,3,none⟩ = some (.int .i64 a0_3):=(qh BK251.out 3).trans rfl;have hcz31_4 : w29.cell? ⟨gb251,4,none⟩ = some (.int .i64 a0_4):=(qh BK251.out 4).trans rfl;have hfz31_0:=qi BK251.out 0;have hfz31_1:=qi BK251.out 1;have hfz31_2:=qi BK251.out 2;have hfz31_3:=qi BK251.out 3;have hfz31_4:=qi BK251.out 4;have hcz32_0 : w29.cell? ⟨gb252,0,none⟩ = some (.int .i64 a1_0):=(qh BK252.out 0).trans rfl;have hcz32_1 : w29.cell? ⟨gb252,1,none⟩ = some (.int .i64 a1_1):=(qh BK252.out 1).trans rfl;have hcz32_2 : w29.cell? ⟨gb252,2,none⟩ = some (.int .i64 a1_2):=(qh BK252.out 2).trans rfl;have hcz32_3 : w29.cell? ⟨gb252,3,none⟩ = some (.int .i64 a1_3):=(qh BK252.out 3).trans rfl;have hcz32_4 : w29.cell? ⟨gb252,4,none⟩ = some (.int .i64 a1_4):=(qh BK252.out 4).trans rfl;have hfz32_0:=qi BK252.out 0;have hfz32_1:=qi BK252.out 1;have hfz32_2:=qi BK252.out 2;have hfz32_3:=qi BK252.out 3;have hfz32_4:=qi BK252.out 4))
      go_ret
      exact ⟨by first|rfl|(simp [errW_none,errW_some] <;> rfl)|(simp [*,errW_none,errW_some] <;> rfl),by repeat (first|(with_reducible first|exact HB.out|apply qf|apply qa|apply qd|refine qg ?_ GE251.out|refine qg ?_ GE252.out)|exact HB.out)⟩
  · rw [if_neg c3] at H
    have c3b0 : (a0_0 == a1_0) = false:=beq_eq_false_iff_ne.mpr c3
    have c3b1 : (a0_0 != a1_0) = true:=bne_iff_ne.mpr c3
    obtain rfl:=Option.some.inj H
    go_enter Try.func80,Try.ntmps80
    go_wp2_with (first|((with_reducible refine gate_dst (N:=2) rfl ?_);refine box_event ?hg (N:=2) ?hd (cs:=#[.int .i64 a0_0,.int .i64 a0_1,.int .i64 a0_2,.int .i64 a0_3,.int .i64 a0_4]) (t:=101) ?hr ?_;(case hd=>rfl);(case hg=>rfl);(case hr=>first|(go_simp;done)|(go_simp;rfl));intro gb251 hg w33 hbox hb;have n0_:=hs_ HB hb;have n1_:=qn.mk (hbox);have n2_:=qn.mk ((by rw [hg];exact (qj (by repeat (first|(with_reducible first|exact HB.out|apply qf|apply qa|apply qd)|exact HB.out))) : w.heap.size ≤ gb251));have n3_:=qn.mk ((by rw [hg];exact (qj (by repeat (first|(with_reducible first|exact HB.out|apply qf|apply qa|apply qd)|exact HB.out))) : w.heap.size ≤ gb251));clear HB;have HB:=n0_;have BK251:=n1_;have GW251:=n2_;have GE251:=n3_;clear n0_ n1_ n2_ n3_;clear hb hbox hg)|((with_reducible refine gate_dst (N:=3) rfl ?_);refine box_event ?hg (N:=3) ?hd (cs:=#[.int .i64 a1_0,.int .i64 a1_1,.int .i64 a1_2,.int .i64 a1_3,.int .i64 a1_4]) (t:=101) ?hr ?_;(case hd=>rfl);(case hg=>rfl);(case hr=>first|(go_simp;done)|(go_simp;rfl));intro gb252 hg w34 hbox hb;have n0_:=bb_ BK251 hb;have n1_:=hs_ HB hb;have n2_:=qn.mk (hbox);have n3_:=qn.mk ((by rw [hg];exact (qj (by repeat (first|(with_reducible first|exact HB.out|apply qf|apply qa|apply qd|refine qg ?_ GE251.out)|exact HB.out))) : w.heap.size ≤ gb252));have n4_:=qn.mk ((by rw [hg];exact (qj (by repeat (first|(with_reducible first|exact HB.out|apply qf|apply qa|apply qd|refine qg ?_ GE251.out)|exact HB.out))) : w.heap.size ≤ gb252));have n5_:=qn.mk ((by rw [hg];exact nl_ BK251 : gb251 ≠ gb252));have n6_:=qn.mk ((by rw [hg];exact ng_ BK251 : gb252 ≠ gb251));clear BK251;clear HB;have BK251:=n0_;have HB:=n1_;have BK252:=n2_;have GW252:=n3_;have GE252:=n4_;have NB251_252:=n5_;have NB252_251:=n6_;clear n0_ n1_ n2_ n3_ n4_ n5_ n6_;clear hb hbox hg;have hnb35:=NB251_252.out;have hnc35:=NB252_251.out;have hcz36_0 : w34.cell? ⟨gb251,0,none⟩ = some (.int .i64 a0_0):=(qh BK251.out 0).trans rfl;have hcz36_1 : w34.cell? ⟨gb251,1,none⟩ = some (.int .i64 a0_1):=(qh BK251.out 1).trans rfl;have hcz36_2 : w34.cell? ⟨gb251,2,none⟩ = some (.int .i64 a0_2):=(qh BK251.out 2).trans rfl;have hcz36_3 : w34.cell? ⟨gb251,3,none⟩ = some (.int .i64 a0_3):=(qh BK251.out 3).trans rfl;have hcz36_4 : w34.cell? ⟨gb251,4,none⟩ = some (.int .i64 a0_4):=(qh BK251.out 4).trans rfl;have hfz36_0:=qi BK251.out 0;have hfz36_1:=qi BK251.out 1;have hfz36_2:=qi BK251.out 2;have hfz36_3:=qi BK251.out 3;have hfz36_4:=qi BK251.out 4;have hcz37_0 : w34.cell? ⟨gb252,0,none⟩ = some (.int .i64 a1_0):=(qh BK252.out 0).trans rfl;have hcz37_1 : w34.cell? ⟨gb252,1,none⟩ = some (.int .i64 a1_1):=(qh BK252.out 1).trans rfl;have hcz37_2 : w34.cell? ⟨gb252,2,none⟩ = some (.int .i64 a1_2):=(qh BK252.out 2).trans rfl;have hcz37_3 : w34.cell? ⟨gb252,3,none⟩ = some (.int .i64 a1_3):=(qh BK252.out 3).trans rfl;have hcz37_4 : w34.cell? ⟨gb252,4,none⟩ = some (.int .i64 a1_4):=(qh BK252.out 4).trans rfl;have hfz37_0:=qi BK252.out 0;have hfz37_1:=qi BK252.out 1;have hfz37_2:=qi BK252.out 2;have hfz37_3:=qi BK252.out 3;have hfz37_4:=qi BK252.out 4))
    go_ret
    exact ⟨by first|rfl|(simp [errW_none,errW_some] <;> rfl)|(simp [*,errW_none,errW_some] <;> rfl),by repeat (first|(with_reducible first|exact HB.out|apply qf|apply qa|apply qd|refine qg ?_ GE251.out|refine qg ?_ GE252.out)|exact HB.out)⟩

/-! ### laws_eqEdgeS: function 61 -/
def laws_eqEdgeS.l0 : Nat → List (S101) → List (S101) → Int → Option (Bool)
  | 0,_,_,_=>none
  | k + 1,x0,x1,x5=>if x5 < (x0.length : Int) then (if 0 ≤ x5 then (if x5 < (x1.length : Int) then ((laws_eqEdge.f ((rd_T101 x0 x5).f0) ((rd_T101 x0 x5).f1) ((rd_T101 x0 x5).f2) ((rd_T101 x0 x5).f3) ((rd_T101 x0 x5).f4) ((rd_T101 x1 x5).f0) ((rd_T101 x1 x5).f1) ((rd_T101 x1 x5).f2) ((rd_T101 x1 x5).f3) ((rd_T101 x1 x5).f4)).bind fun t255=>(if t255 = true then (laws_eqEdgeS.l0 k x0 x1 (wrap64 (x5 + 1))) else (some false))) else (none)) else (none)) else (some true)
def laws_eqEdgeS.f (k : Nat) (l0 : List (S101)) (l1 : List (S101)) : Option (Bool):=if (l0.length : Int) = (l1.length : Int) then (laws_eqEdgeS.l0 k l0 l1 0) else (some false)
theorem laws_eqEdgeS.mono_l : ∀ k,(∀ y0 y1 y2,LeO (laws_eqEdgeS.l0 k y0 y1 y2) (laws_eqEdgeS.l0 (k + 1) y0 y1 y2))
  | 0=>fun _ _ _ r h=>by simp [laws_eqEdgeS.l0] at h
  | k + 1=>by
    have ih0:=laws_eqEdgeS.mono_l k
    · intro y0 y1 y2
      unfold laws_eqEdgeS.l0
      repeat' first
      | (with_reducible exact ih0 _ _ _)
      | (with_reducible exact LeO.refl _)
      | (with_reducible exact LeO.none _)
      | (with_reducible refine LeO.ite ?_ ?_)
      | (with_reducible refine LeO.bind ?_ (fun _=>?_))
      | exact ih0 _ _ _
      | exact LeO.none _
      | refine LeO.ite ?_ ?_
      | refine LeO.bind ?_ (fun _=>?_)
theorem laws_eqEdgeS.mono : ∀ a0 a1 k,LeO (laws_eqEdgeS.f k a0 a1) (laws_eqEdgeS.f (k + 1) a0 a1):=by
  intro a0 a1 k
  have ih0:=laws_eqEdgeS.mono_l k
  unfold laws_eqEdgeS.f
  repeat' first
      | (with_reducible exact ih0 _ _ _)
      | (with_reducible exact LeO.refl _)
      | (with_reducible exact LeO.none _)
      | (with_reducible refine LeO.ite ?_ ?_)
      | (with_reducible refine LeO.bind ?_ (fun _=>?_))
      | exact ih0 _ _ _
      | exact LeO.none _
      | refine LeO.ite ?_ ?_
      | refine LeO.bind ?_ (fun _=>?_)
def laws_eqEdgeS.T6 : Bool × List (List Nat × List Nat):=(true,[([],[]),([],[]),([0,1],[0,1]),([2],[2]),([],[]),([],[]),([4,5],[4,5]),([6],[6]),([3,7],[3,7]),([8],[8])])
def laws_eqEdgeS.B6 : List Nat:=[0,0,3,7,0,0,48,112,255,511]
theorem laws_eqEdgeS.tab6 : rtab .any (opsOf Try.f61 6) = laws_eqEdgeS.T6:=by kernel_rfl
theorem laws_eqEdgeS.bits6 : waitsOk laws_eqEdgeS.T6.2 laws_eqEdgeS.B6 = true:=by kernel_rfl
set_option maxHeartbeats 8000000 in
set_option maxRecDepth 100000 in
theorem laws_eqEdgeS.calls (k : Nat) (A0 : Option Addr) (c0 : Nat) (l0 : List (S101)) (A1 : Option Addr) (c1 : Nat) (l1 : List (S101)) (r : Bool) (w : World) (hr0 : Kd.C k101 w A0 l0.length l0) (hc0 : l0.length ≤ c0) (hr1 : Kd.C k101 w A1 l1.length l1) (hc1 : l1.length ≤ c1) (h : laws_eqEdgeS.f k l0 l1 = some r) :
    Calls Try.prog 61 #[.slice A0 l0.length c0,.slice A1 l1.length c1] w fun e w'=>e = .returned (.bool r) ∧ Below w.heap.size w w':=by
  have hu101:=Try.underlying101
  have HR0:=qn.mk hr0
  have HC0:=qn.mk hc0
  clear hr0 hc0
  have HR1:=qn.mk hr1
  have HC1:=qn.mk hc1
  clear hr1 hc1
  have HB:=qn.mk (Below.refl w.heap.size w)
  have H : (if (l0.length : Int) = (l1.length : Int) then (laws_eqEdgeS.l0 k l0 l1 0) else (some false)) = some r:=h
  clear h
  by_cases c3 : (l0.length : Int) = (l1.length : Int)
  · rw [if_pos c3] at H
    have c3b0 : ((l0.length : Int) == (l1.length : Int)) = true:=beq_iff_eq.mpr c3
    have c3b1 : ((l0.length : Int) != (l1.length : Int)) = false:=bne_eq_false_iff_eq.mpr c3
    have c3b2 : (l0.length == l1.length) = true:=by first|simpa using c3|(simp at c3 ⊢;omega)
    clear c3
    have H':=qn.mk H
    clear H
    go_enter Try.func61,Try.ntmps61
    go_wp2
    go_loopg [5] k (fun kq v5 w'=>∃ (x5_1 : Int),v5 = .int .i64 x5_1 ∧ qn (laws_eqEdgeS.l0 kq l0 l1 x5_1 = some r) ∧ qn (kq ≤ k) ∧ qn (Below w.heap.size w w'))
    case atStart=>exact ⟨(0),(by first|rfl|(simp;done)|(simp [*];done)),H',⟨Nat.le_refl _⟩,⟨by repeat (first|(with_reducible first|exact HB.out|apply qf|apply qa|apply qd)|exact HB.out)⟩⟩
    case round =>
      clear H'
      try clear c1
      try clear p2
      try clear c3
      try clear c3b0
      try clear c3b1
      try clear c3b2
      obtain ⟨x5_1,rfl,HA,HK1,HB⟩:=hrel
      cases gk with
      | zero=>exact absurd HA.out (by simp [laws_eqEdgeS.l0])
      | succ k1 =>
        have H:=HA.out
        clear HA
        simp only [laws_eqEdgeS.l0] at H
        by_cases c4 : x5_1 < (l0.length : Int)
        · rw [if_pos c4] at H
          have c4b0 : decide (x5_1 < (l0.length : Int)) = true:=decide_eq_true c4
          clear c4
          by_cases c5 : 0 ≤ x5_1
          · rw [if_pos c5] at H
            have c5b0 : decide (0 ≤ x5_1) = true:=decide_eq_true c5
            clear c5
            by_cases c6 : x5_1 < (l1.length : Int)
            · rw [if_pos c6] at H
              have c6b0 : decide (x5_1 < (l1.length : Int)) = true:=decide_eq_true c6
              clear c6
              replace H:=Option.bind_eq_some_iff.mp H
              obtain ⟨t255,A70,H⟩:=H
              replace H : (if t255 = true then (laws_eqEdgeS.l0 k1 l0 l1 (wrap64 (x5_1 + 1))) else (some false)) = some r:=H
              have A7:=qn.mk A70
              clear A70
              by_cases c8 : t255 = true
              · subst c8
                have H1 : (laws_eqEdgeS.l0 k1 l0 l1 (wrap64 (x5_1 + 1))) = some r:=by rw [if_pos rfl] at H;exact H
                clear H
                have H:=H1
                clear H1
                have H':=qn.mk H
                clear H
                try go_wp2
                have n0_:=qn.mk (qd HB.out)
                clear HB
                have HB:=n0_
                clear n0_
                have p253 : 0 ≤ (x5_1 : Int):=of_decide_eq_true (by first|(with_reducible assumption)|assumption)
                have q253 : x5_1 < (l0.length : Int):=of_decide_eq_true (by first|(with_reducible assumption)|assumption)
                obtain ⟨ad253,e253,hx253_0,hx253_1,hx253_2,hx253_3,hx253_4⟩:=at_T101 HR0.out x5_1 p253 q253
                have hw253_4:=hx253_4
                have hw253_3:=hx253_3
                have hw253_2:=hx253_2
                have hw253_1:=hx253_1
                have hw253_0:=hx253_0
                cases e253
                replace hx253_0:=cb_ HB hx253_0
                replace hx253_1:=cb_ HB hx253_1
                replace hx253_2:=cb_ HB hx253_2
                replace hx253_3:=cb_ HB hx253_3
                replace hx253_4:=cb_ HB hx253_4
                replace p253:=eq_true p253
                replace q253:=eq_true q253
                have p254 : 0 ≤ (x5_1 : Int):=of_decide_eq_true (by first|(with_reducible assumption)|assumption)
                have q254 : x5_1 < (l1.length : Int):=of_decide_eq_true (by first|(with_reducible assumption)|assumption)
                obtain ⟨ad254,e254,hx254_0,hx254_1,hx254_2,hx254_3,hx254_4⟩:=at_T101 HR1.out x5_1 p254 q254
                have hw254_4:=hx254_4
                have hw254_3:=hx254_3
                have hw254_2:=hx254_2
                have hw254_1:=hx254_1
                have hw254_0:=hx254_0
                cases e254
                replace hx254_0:=cb_ HB hx254_0
                replace hx254_1:=cb_ HB hx254_1
                replace hx254_2:=cb_ HB hx254_2
                replace hx254_3:=cb_ HB hx254_3
                replace hx254_4:=cb_ HB hx254_4
                replace p254:=eq_true p254
                replace q254:=eq_true q254
                refine start_ (n:=10) (S:=fun w'=>w'.cell? (ad253.add ((x5_1).toNat * 5)) = some (.int .i64 ((rd_T101 l0 x5_1).f0)) ∧ w'.cell? ⟨(ad253.add ((x5_1).toNat * 5)).block,(ad253.add ((x5_1).toNat * 5)).off + 1,none⟩ = some (.int .i64 ((rd_T101 l0 x5_1).f1)) ∧ w'.cell? ⟨(ad253.add ((x5_1).toNat * 5)).block,(ad253.add ((x5_1).toNat * 5)).off + 2,none⟩ = some (.int .i64 ((rd_T101 l0 x5_1).f2)) ∧ w'.cell? ⟨(ad253.add ((x5_1).toNat * 5)).block,(ad253.add ((x5_1).toNat * 5)).off + 3,none⟩ = some (.int .i64 ((rd_T101 l0 x5_1).f3)) ∧ w'.cell? ⟨(ad253.add ((x5_1).toNat * 5)).block,(ad253.add ((x5_1).toNat * 5)).off + 4,none⟩ = some (.int .i64 ((rd_T101 l0 x5_1).f4)) ∧ w'.cell? (ad254.add ((x5_1).toNat * 5)) = some (.int .i64 ((rd_T101 l1 x5_1).f0)) ∧ w'.cell? ⟨(ad254.add ((x5_1).toNat * 5)).block,(ad254.add ((x5_1).toNat * 5)).off + 1,none⟩ = some (.int .i64 ((rd_T101 l1 x5_1).f1)) ∧ w'.cell? ⟨(ad254.add ((x5_1).toNat * 5)).block,(ad254.add ((x5_1).toNat * 5)).off + 2,none⟩ = some (.int .i64 ((rd_T101 l1 x5_1).f2)) ∧ w'.cell? ⟨(ad254.add ((x5_1).toNat * 5)).block,(ad254.add ((x5_1).toNat * 5)).off + 3,none⟩ = some (.int .i64 ((rd_T101 l1 x5_1).f3)) ∧ w'.cell? ⟨(ad254.add ((x5_1).toNat * 5)).block,(ad254.add ((x5_1).toNat * 5)).off + 4,none⟩ = some (.int .i64 ((rd_T101 l1 x5_1).f4))) (ds:=[]) #[false,false,false,false,false,false,false,false,false,false] (by kernel_rfl) rfl rfl ⟨(cb_ HB hw253_0:),(cb_ HB hw253_1:),(cb_ HB hw253_2:),(cb_ HB hw253_3:),(cb_ HB hw253_4:),(cb_ HB hw254_0:),(cb_ HB hw254_1:),(cb_ HB hw254_2:),(cb_ HB hw254_3:),(cb_ HB hw254_4:)⟩ (fun hHeld=>?_);refine with_tabW laws_eqEdgeS.tab6 laws_eqEdgeS.bits6 (fun HT_ HW_=>?_)
                generalize wr.drew = w9 at HB hx253_0 hx253_1 hx253_2 hx253_3 hx253_4 hx254_0 hx254_1 hx254_2 hx254_3 hx254_4 hHeld ⊢
                refine pure_ (i:=0) (N:=some 17) (v:=?_) (a':=?_) #[true,false,false,false,false,false,false,false,false,false] rfl rfl (any_of HT_.out (by kernel_rfl)) (fun _ _ _ h=>h) (Or.inl ⟨by rfl,?_⟩) ?_ ?_
                rotate_left
                · intro w'
                  go_simp
                  with_reducible rfl
                rotate_left
                · simp only [Act.put,List.setIfInBounds_toArray,List.set_cons_zero,List.set_cons_succ,i64_w,i32_w]
                  rfl
                refine pure_ (i:=1) (N:=some 18) (v:=?_) (a':=?_) #[true,true,false,false,false,false,false,false,false,false] rfl rfl (any_of HT_.out (by kernel_rfl)) (fun _ _ _ h=>h) (Or.inl ⟨by rfl,?_⟩) ?_ ?_
                rotate_left
                · intro w'
                  go_simp
                  with_reducible rfl
                rotate_left
                · simp only [Act.put,List.setIfInBounds_toArray,List.set_cons_zero,List.set_cons_succ,i64_w,i32_w]
                  rfl
                refine pure_ (i:=2) (N:=some 19) (v:=?_) (a':=?_) #[true,true,true,false,false,false,false,false,false,false] rfl rfl (any_of HT_.out (by kernel_rfl)) (fun _ _ _ h=>h) (Or.inl ⟨by rfl,?_⟩) ?_ ?_
                rotate_left
                · intro w'
                  go_simp
                  with_reducible rfl
                rotate_left
                · simp only [Act.put,List.setIfInBounds_toArray,List.set_cons_zero,List.set_cons_succ,i64_w,i32_w]
                  rfl
                refine pure_ (i:=4) (N:=some 21) (v:=?_) (a':=?_) #[true,true,true,false,true,false,false,false,false,false] rfl rfl (any_of HT_.out (by kernel_rfl)) (fun _ _ _ h=>h) (Or.inl ⟨by rfl,?_⟩) ?_ ?_
                rotate_left
                · intro w'
                  go_simp
                  with_reducible rfl
                rotate_left
                · simp only [Act.put,List.setIfInBounds_toArray,List.set_cons_zero,List.set_cons_succ,i64_w,i32_w]
                  rfl
                refine pure_ (i:=5) (N:=some 22) (v:=?_) (a':=?_) #[true,true,true,false,true,true,false,false,false,false] rfl rfl (any_of HT_.out (by kernel_rfl)) (fun _ _ _ h=>h) (Or.inl ⟨by rfl,?_⟩) ?_ ?_
                rotate_left
                · intro w'
                  go_simp
                  with_reducible rfl
                rotate_left
                · simp only [Act.put,List.setIfInBounds_toArray,List.set_cons_zero,List.set_cons_succ,i64_w,i32_w]
                  rfl
                refine pure_ (i:=6) (N:=some 23) (v:=?_) (a':=?_) #[true,true,true,false,true,true,true,false,false,false] rfl rfl (any_of HT_.out (by kernel_rfl)) (fun _ _ _ h=>h) (Or.inl ⟨by rfl,?_⟩) ?_ ?_
                rotate_left
                · intro w'
                  go_simp
                  with_reducible rfl
                rotate_left
                · simp only [Act.put,List.setIfInBounds_toArray,List.set_cons_zero,List.set_cons_succ,i64_w,i32_w]
                  rfl
                refine take_ (i:=3) (N:=some 20) (v:=?_) (a':=?_) #[true,true,true,true,true,true,true,false,false,false] rfl rfl (take_ofW HT_.out HW_.out (by kernel_rfl)) (fun _ _ _ h=>h) (Or.inl ⟨by rfl,?_⟩) hHeld ?_ ?_
                rotate_left
                · rintro w' ⟨s0,s1,s2,s3,s4,s5,s6,s7,s8,s9⟩
                  go_simp
                  with_reducible rfl
                rotate_left
                · simp only [Act.put,List.setIfInBounds_toArray,List.set_cons_zero,List.set_cons_succ,i64_w,i32_w]
                  rfl
                refine take_ (i:=7) (N:=some 24) (v:=?_) (a':=?_) #[true,true,true,true,true,true,true,true,false,false] rfl rfl (take_ofW HT_.out HW_.out (by kernel_rfl)) (fun _ _ _ h=>h) (Or.inl ⟨by rfl,?_⟩) hHeld ?_ ?_
                rotate_left
                · rintro w' ⟨s0,s1,s2,s3,s4,s5,s6,s7,s8,s9⟩
                  go_simp
                  with_reducible rfl
                rotate_left
                · simp only [Act.put,List.setIfInBounds_toArray,List.set_cons_zero,List.set_cons_succ,i64_w,i32_w]
                  rfl
                refine one_ (i:=8) (N:=some 25) #[true,true,true,true,true,true,true,true,true,false] rfl rfl (one_of HT_.out (by kernel_rfl)) (by decide) (fun K hK=>?_)
                refine goes_ Try.func80 (by kernel_rfl) rfl #[.agg #[.int .i64 ((rd_T101 l0 x5_1).f0),.int .i64 ((rd_T101 l0 x5_1).f1),.int .i64 ((rd_T101 l0 x5_1).f2),.int .i64 ((rd_T101 l0 x5_1).f3),.int .i64 ((rd_T101 l0 x5_1).f4)],.agg #[.int .i64 ((rd_T101 l1 x5_1).f0),.int .i64 ((rd_T101 l1 x5_1).f1),.int .i64 ((rd_T101 l1 x5_1).f2),.int .i64 ((rd_T101 l1 x5_1).f3),.int .i64 ((rd_T101 l1 x5_1).f4)]] (by rfl) rfl rfl (by (try simp only [List.map_toArray,List.map_cons,List.map_nil]);first|done|rfl|(simp only [List.length_drop,List.length_take];rfl)) ?_
                with_reducible refine (laws_eqEdge.calls ((rd_T101 l0 x5_1).f0) ((rd_T101 l0 x5_1).f1) ((rd_T101 l0 x5_1).f2) ((rd_T101 l0 x5_1).f3) ((rd_T101 l0 x5_1).f4) ((rd_T101 l1 x5_1).f0) ((rd_T101 l1 x5_1).f1) ((rd_T101 l1 x5_1).f2) ((rd_T101 l1 x5_1).f3) ((rd_T101 l1 x5_1).f4) true _ A7.out).mono ?_
                rintro e w10 ⟨rfl,hb⟩
                refine ⟨_,rfl,?_⟩
                have n0_:=hs_ HB hb
                clear HB
                have HB:=n0_
                clear n0_
                (try clear hb)
                (try clear hb2)
                (try clear hk)
                (try clear hi)
                refine hK.out _ _ ⟨(cb_ HB hw253_0:),(cb_ HB hw253_1:),(cb_ HB hw253_2:),(cb_ HB hw253_3:),(cb_ HB hw253_4:),(cb_ HB hw254_0:),(cb_ HB hw254_1:),(cb_ HB hw254_2:),(cb_ HB hw254_3:),(cb_ HB hw254_4:)⟩ (fun hHeld=>?_)
                clear hK K
                refine norm_ (a':=?_) ?_ ?_
                rotate_left
                · show Act.put _ (some 25) _ = _
                  simp only [Act.put,List.setIfInBounds_toArray,List.set_cons_zero,List.set_cons_succ,i64_w,i32_w]
                  rfl
                refine pure_ (i:=9) (N:=some 26) (v:=?_) (a':=?_) #[true,true,true,true,true,true,true,true,true,true] rfl rfl (any_of HT_.out (by kernel_rfl)) (fun _ _ _ h=>h) (Or.inl ⟨by rfl,?_⟩) ?_ ?_
                rotate_left
                · intro w'
                  go_simp
                  with_reducible rfl
                rotate_left
                · simp only [Act.put,List.setIfInBounds_toArray,List.set_cons_zero,List.set_cons_succ,i64_w,i32_w]
                  rfl
                refine done_ (done_of HT_.out (by kernel_rfl)) ?_
                try go_wp2
                go_roundg k1
                case measure=>have:=HK1.out;omega
                case rel=>exact ⟨(wrap64 (x5_1 + 1)),(by first|rfl|(simp;done)|(simp [*];done)),H',⟨by have:=HK1.out;omega⟩,⟨by repeat (first|(with_reducible first|exact HB.out|apply qf|apply qa|apply qd)|exact HB.out)⟩⟩
              · replace c8:=Bool.eq_false_iff.mpr c8
                subst c8
                have H1 : (some false) = some r:=by rw [if_neg (show ¬ (false = true) by decide)] at H;exact H
                clear H
                have H:=H1
                clear H1
                obtain rfl:=Option.some.inj H
                try go_wp2
                have n0_:=qn.mk (qd HB.out)
                clear HB
                have HB:=n0_
                clear n0_
                have p253 : 0 ≤ (x5_1 : Int):=of_decide_eq_true (by first|(with_reducible assumption)|assumption)
                have q253 : x5_1 < (l0.length : Int):=of_decide_eq_true (by first|(with_reducible assumption)|assumption)
                obtain ⟨ad253,e253,hx253_0,hx253_1,hx253_2,hx253_3,hx253_4⟩:=at_T101 HR0.out x5_1 p253 q253
                have hw253_4:=hx253_4
                have hw253_3:=hx253_3
                have hw253_2:=hx253_2
                have hw253_1:=hx253_1
                have hw253_0:=hx253_0
                cases e253
                replace hx253_0:=cb_ HB hx253_0
                replace hx253_1:=cb_ HB hx253_1
                replace hx253_2:=cb_ HB hx253_2
                replace hx253_3:=cb_ HB hx253_3
                replace hx253_4:=cb_ HB hx253_4
                replace p253:=eq_true p253
                replace q253:=eq_true q253
                have p254 : 0 ≤ (x5_1 : Int):=of_decide_eq_true (by first|(with_reducible assumption)|assumption)
                have q254 : x5_1 < (l1.length : Int):=of_decide_eq_true (by first|(with_reducible assumption)|assumption)
                obtain ⟨ad254,e254,hx254_0,hx254_1,hx254_2,hx254_3,hx254_4⟩:=at_T101 HR1.out x5_1 p254 q254
                have hw254_4:=hx254_4
                have hw254_3:=hx254_3
                have hw254_2:=hx254_2
                have hw254_1:=hx254_1
                have hw254_0:=hx254_0
                cases e254
                replace hx254_0:=cb_ HB hx254_0
                replace hx254_1:=cb_ HB hx254_1
                replace hx254_2:=cb_ HB hx254_2
                replace hx254_3:=cb_ HB hx254_3
                replace hx254_4:=cb_ HB hx254_4
                replace p254:=eq_true p254
                replace q254:=eq_true q254
                refine start_ (n:=10) (S:=fun w'=>w'.cell? (ad253.add ((x5_1).toNat * 5)) = some (.int .i64 ((rd_T101 l0 x5_1).f0)) ∧ w'.cell? ⟨(ad253.add ((x5_1).toNat * 5)).block,(ad253.add ((x5_1).toNat * 5)).off + 1,none⟩ = some (.int .i64 ((rd_T101 l0 x5_1).f1)) ∧ w'.cell? ⟨(ad253.add ((x5_1).toNat * 5)).block,(ad253.add ((x5_1).toNat * 5)).off + 2,none⟩ = some (.int .i64 ((rd_T101 l0 x5_1).f2)) ∧ w'.cell? ⟨(ad253.add ((x5_1).toNat * 5)).block,(ad253.add ((x5_1).toNat * 5)).off + 3,none⟩ = some (.int .i64 ((rd_T101 l0 x5_1).f3)) ∧ w'.cell? ⟨(ad253.add ((x5_1).toNat * 5)).block,(ad253.add ((x5_1).toNat * 5)).off + 4,none⟩ = some (.int .i64 ((rd_T101 l0 x5_1).f4)) ∧ w'.cell? (ad254.add ((x5_1).toNat * 5)) = some (.int .i64 ((rd_T101 l1 x5_1).f0)) ∧ w'.cell? ⟨(ad254.add ((x5_1).toNat * 5)).block,(ad254.add ((x5_1).toNat * 5)).off + 1,none⟩ = some (.int .i64 ((rd_T101 l1 x5_1).f1)) ∧ w'.cell? ⟨(ad254.add ((x5_1).toNat * 5)).block,(ad254.add ((x5_1).toNat * 5)).off + 2,none⟩ = some (.int .i64 ((rd_T101 l1 x5_1).f2)) ∧ w'.cell? ⟨(ad254.add ((x5_1).toNat * 5)).block,(ad254.add ((x5_1).toNat * 5)).off + 3,none⟩ = some (.int .i64 ((rd_T101 l1 x5_1).f3)) ∧ w'.cell? ⟨(ad254.add ((x5_1).toNat * 5)).block,(ad254.add ((x5_1).toNat * 5)).off + 4,none⟩ = some (.int .i64 ((rd_T101 l1 x5_1).f4))) (ds:=[]) #[false,false,false,false,false,false,false,false,false,false] (by kernel_rfl) rfl rfl ⟨(cb_ HB hw253_0:),(cb_ HB hw253_1:),(cb_ HB hw253_2:),(cb_ HB hw253_3:),(cb_ HB hw253_4:),(cb_ HB hw254_0:),(cb_ HB hw254_1:),(cb_ HB hw254_2:),(cb_ HB hw254_3:),(cb_ HB hw254_4:)⟩ (fun hHeld=>?_);refine with_tabW laws_eqEdgeS.tab6 laws_eqEdgeS.bits6 (fun HT_ HW_=>?_)
                generalize wr.drew = w11 at HB hx253_0 hx253_1 hx253_2 hx253_3 hx253_4 hx254_0 hx254_1 hx254_2 hx254_3 hx254_4 hHeld ⊢
                refine pure_ (i:=0) (N:=some 17) (v:=?_) (a':=?_) #[true,false,false,false,false,false,false,false,false,false] rfl rfl (any_of HT_.out (by kernel_rfl)) (fun _ _ _ h=>h) (Or.inl ⟨by rfl,?_⟩) ?_ ?_
                rotate_left
                · intro w'
                  go_simp
                  with_reducible rfl
                rotate_left
                · simp only [Act.put,List.setIfInBounds_toArray,List.set_cons_zero,List.set_cons_succ,i64_w,i32_w]
                  rfl
                refine pure_ (i:=1) (N:=some 18) (v:=?_) (a':=?_) #[true,true,false,false,false,false,false,false,false,false] rfl rfl (any_of HT_.out (by kernel_rfl)) (fun _ _ _ h=>h) (Or.inl ⟨by rfl,?_⟩) ?_ ?_
                rotate_left
                · intro w'
                  go_simp
                  with_reducible rfl
                rotate_left
                · simp only [Act.put,List.setIfInBounds_toArray,List.set_cons_zero,List.set_cons_succ,i64_w,i32_w]
                  rfl
                refine pure_ (i:=2) (N:=some 19) (v:=?_) (a':=?_) #[true,true,true,false,false,false,false,false,false,false] rfl rfl (any_of HT_.out (by kernel_rfl)) (fun _ _ _ h=>h) (Or.inl ⟨by rfl,?_⟩) ?_ ?_
                rotate_left
                · intro w'
                  go_simp
                  with_reducible rfl
                rotate_left
                · simp only [Act.put,List.setIfInBounds_toArray,List.set_cons_zero,List.set_cons_succ,i64_w,i32_w]
                  rfl
                refine pure_ (i:=4) (N:=some 21) (v:=?_) (a':=?_) #[true,true,true,false,true,false,false,false,false,false] rfl rfl (any_of HT_.out (by kernel_rfl)) (fun _ _ _ h=>h) (Or.inl ⟨by rfl,?_⟩) ?_ ?_
                rotate_left
                · intro w'
                  go_simp
                  with_reducible rfl
                rotate_left
                · simp only [Act.put,List.setIfInBounds_toArray,List.set_cons_zero,List.set_cons_succ,i64_w,i32_w]
                  rfl
                refine pure_ (i:=5) (N:=some 22) (v:=?_) (a':=?_) #[true,true,true,false,true,true,false,false,false,false] rfl rfl (any_of HT_.out (by kernel_rfl)) (fun _ _ _ h=>h) (Or.inl ⟨by rfl,?_⟩) ?_ ?_
                rotate_left
                · intro w'
                  go_simp
                  with_reducible rfl
                rotate_left
                · simp only [Act.put,List.setIfInBounds_toArray,List.set_cons_zero,List.set_cons_succ,i64_w,i32_w]
                  rfl
                refine pure_ (i:=6) (N:=some 23) (v:=?_) (a':=?_) #[true,true,true,false,true,true,true,false,false,false] rfl rfl (any_of HT_.out (by kernel_rfl)) (fun _ _ _ h=>h) (Or.inl ⟨by rfl,?_⟩) ?_ ?_
                rotate_left
                · intro w'
                  go_simp
                  with_reducible rfl
                rotate_left
                · simp only [Act.put,List.setIfInBounds_toArray,List.set_cons_zero,List.set_cons_succ,i64_w,i32_w]
                  rfl
                refine take_ (i:=3) (N:=some 20) (v:=?_) (a':=?_) #[true,true,true,true,true,true,true,false,false,false] rfl rfl (take_ofW HT_.out HW_.out (by kernel_rfl)) (fun _ _ _ h=>h) (Or.inl ⟨by rfl,?_⟩) hHeld ?_ ?_
                rotate_left
                · rintro w' ⟨s0,s1,s2,s3,s4,s5,s6,s7,s8,s9⟩
                  go_simp
                  with_reducible rfl
                rotate_left
                · simp only [Act.put,List.setIfInBounds_toArray,List.set_cons_zero,List.set_cons_succ,i64_w,i32_w]
                  rfl
                refine take_ (i:=7) (N:=some 24) (v:=?_) (a':=?_) #[true,true,true,true,true,true,true,true,false,false] rfl rfl (take_ofW HT_.out HW_.out (by kernel_rfl)) (fun _ _ _ h=>h) (Or.inl ⟨by rfl,?_⟩) hHeld ?_ ?_
                rotate_left
                · rintro w' ⟨s0,s1,s2,s3,s4,s5,s6,s7,s8,s9⟩
                  go_simp
                  with_reducible rfl
                rotate_left
                · simp only [Act.put,List.setIfInBounds_toArray,List.set_cons_zero,List.set_cons_succ,i64_w,i32_w]
                  rfl
                refine one_ (i:=8) (N:=some 25) #[true,true,true,true,true,true,true,true,true,false] rfl rfl (one_of HT_.out (by kernel_rfl)) (by decide) (fun K hK=>?_)
                refine goes_ Try.func80 (by kernel_rfl) rfl #[.agg #[.int .i64 ((rd_T101 l0 x5_1).f0),.int .i64 ((rd_T101 l0 x5_1).f1),.int .i64 ((rd_T101 l0 x5_1).f2),.int .i64 ((rd_T101 l0 x5_1).f3),.int .i64 ((rd_T101 l0 x5_1).f4)],.agg #[.int .i64 ((rd_T101 l1 x5_1).f0),.int .i64 ((rd_T101 l1 x5_1).f1),.int .i64 ((rd_T101 l1 x5_1).f2),.int .i64 ((rd_T101 l1 x5_1).f3),.int .i64 ((rd_T101 l1 x5_1).f4)]] (by rfl) rfl rfl (by (try simp only [List.map_toArray,List.map_cons,List.map_nil]);first|done|rfl|(simp only [List.length_drop,List.length_take];rfl)) ?_
                with_reducible refine (laws_eqEdge.calls ((rd_T101 l0 x5_1).f0) ((rd_T101 l0 x5_1).f1) ((rd_T101 l0 x5_1).f2) ((rd_T101 l0 x5_1).f3) ((rd_T101 l0 x5_1).f4) ((rd_T101 l1 x5_1).f0) ((rd_T101 l1 x5_1).f1) ((rd_T101 l1 x5_1).f2) ((rd_T101 l1 x5_1).f3) ((rd_T101 l1 x5_1).f4) false _ A7.out).mono ?_
                rintro e w12 ⟨rfl,hb⟩
                refine ⟨_,rfl,?_⟩
                have n0_:=hs_ HB hb
                clear HB
                have HB:=n0_
                clear n0_
                (try clear hb)
                (try clear hb2)
                (try clear hk)
                (try clear hi)
                refine hK.out _ _ ⟨(cb_ HB hw253_0:),(cb_ HB hw253_1:),(cb_ HB hw253_2:),(cb_ HB hw253_3:),(cb_ HB hw253_4:),(cb_ HB hw254_0:),(cb_ HB hw254_1:),(cb_ HB hw254_2:),(cb_ HB hw254_3:),(cb_ HB hw254_4:)⟩ (fun hHeld=>?_)
                clear hK K
                refine norm_ (a':=?_) ?_ ?_
                rotate_left
                · show Act.put _ (some 25) _ = _
                  simp only [Act.put,List.setIfInBounds_toArray,List.set_cons_zero,List.set_cons_succ,i64_w,i32_w]
                  rfl
                refine pure_ (i:=9) (N:=some 26) (v:=?_) (a':=?_) #[true,true,true,true,true,true,true,true,true,true] rfl rfl (any_of HT_.out (by kernel_rfl)) (fun _ _ _ h=>h) (Or.inl ⟨by rfl,?_⟩) ?_ ?_
                rotate_left
                · intro w'
                  go_simp
                  with_reducible rfl
                rotate_left
                · simp only [Act.put,List.setIfInBounds_toArray,List.set_cons_zero,List.set_cons_succ,i64_w,i32_w]
                  rfl
                refine done_ (done_of HT_.out (by kernel_rfl)) ?_
                try go_wp2
                go_ret
                exact ⟨by first|rfl|(simp [errW_none,errW_some] <;> rfl)|(simp [*,errW_none,errW_some] <;> rfl),by repeat (first|(with_reducible first|exact HB.out|apply qf|apply qa|apply qd)|exact HB.out)⟩
            · rw [if_neg c6] at H
              exact absurd H (by simp)
          · rw [if_neg c5] at H
            exact absurd H (by simp)
        · rw [if_neg c4] at H
          have c4b0 : decide (x5_1 < (l0.length : Int)) = false:=decide_eq_false c4
          clear c4
          obtain rfl:=Option.some.inj H
          go_wp2
          go_ret
          exact ⟨by first|rfl|(simp [errW_none,errW_some] <;> rfl)|(simp [*,errW_none,errW_some] <;> rfl),by repeat (first|(with_reducible first|exact HB.out|apply qf|apply qa|apply qd)|exact HB.out)⟩
  · rw [if_neg c3] at H
    have c3b0 : ((l0.length : Int) == (l1.length : Int)) = false:=beq_eq_false_iff_ne.mpr c3
    have c3b1 : ((l0.length : Int) != (l1.length : Int)) = true:=bne_iff_ne.mpr c3
    have c3b2 : (l0.length == l1.length) = false:=by first|simpa using c3|(simp at c3 ⊢;omega)
    obtain rfl:=Option.some.inj H
    go_enter Try.func61,Try.ntmps61
    go_wp2
    go_ret
    exact ⟨by first|rfl|(simp [errW_none,errW_some] <;> rfl)|(simp [*,errW_none,errW_some] <;> rfl),by repeat (first|(with_reducible first|exact HB.out|apply qf|apply qa|apply qd)|exact HB.out)⟩

/-! ### laws_eqGraph: function 24 -/
def laws_eqGraph.f (k : Nat) (a0_0 : Int) (l0_1 : List (S101)) (a1_0 : Int) (l1_1 : List (S101)) : Option (Bool):=if a0_0 = a1_0 then ((laws_eqEdgeS.f k l0_1 l1_1).bind fun t258=>(if t258 = true then (some true) else (some false))) else (some false)
theorem laws_eqGraph.mono : ∀ a0 a1 a2 a3 k,LeO (laws_eqGraph.f k a0 a1 a2 a3) (laws_eqGraph.f (k + 1) a0 a1 a2 a3):=by
  intro a0 a1 a2 a3 k
  unfold laws_eqGraph.f
  repeat' first
      | (with_reducible exact laws_eqEdgeS.mono _ _ _)
      | (with_reducible exact LeO.refl _)
      | (with_reducible exact LeO.none _)
      | (with_reducible refine LeO.ite ?_ ?_)
      | (with_reducible refine LeO.bind ?_ (fun _=>?_))
      | exact laws_eqEdgeS.mono _ _ _
      | exact LeO.none _
      | refine LeO.ite ?_ ?_
      | refine LeO.bind ?_ (fun _=>?_)
set_option maxHeartbeats 8000000 in
set_option maxRecDepth 100000 in
theorem laws_eqGraph.calls (k : Nat) (a0_0 : Int) (A0_1 : Option Addr) (c0_1 : Nat) (l0_1 : List (S101)) (a1_0 : Int) (A1_1 : Option Addr) (c1_1 : Nat) (l1_1 : List (S101)) (r : Bool) (w : World) (hr0_1 : Kd.C k101 w A0_1 l0_1.length l0_1) (hc0_1 : l0_1.length ≤ c0_1) (hr1_1 : Kd.C k101 w A1_1 l1_1.length l1_1) (hc1_1 : l1_1.length ≤ c1_1) (h : laws_eqGraph.f k a0_0 l0_1 a1_0 l1_1 = some r) :
    Calls Try.prog 24 #[.agg #[.int .i64 a0_0,.slice A0_1 l0_1.length c0_1],.agg #[.int .i64 a1_0,.slice A1_1 l1_1.length c1_1]] w fun e w'=>e = .returned (.bool r) ∧ Below w.heap.size w w':=by
  have hu61:=Try.underlying61
  have HR0_1:=qn.mk hr0_1
  have HC0_1:=qn.mk hc0_1
  clear hr0_1 hc0_1
  have HR1_1:=qn.mk hr1_1
  have HC1_1:=qn.mk hc1_1
  clear hr1_1 hc1_1
  have HB:=qn.mk (Below.refl w.heap.size w)
  have H : (if a0_0 = a1_0 then ((laws_eqEdgeS.f k l0_1 l1_1).bind fun t258=>(if t258 = true then (some true) else (some false))) else (some false)) = some r:=h
  clear h
  by_cases c3 : a0_0 = a1_0
  · rw [if_pos c3] at H
    have c3b0 : (a0_0 == a1_0) = true:=beq_iff_eq.mpr c3
    have c3b1 : (a0_0 != a1_0) = false:=bne_eq_false_iff_eq.mpr c3
    clear c3
    replace H:=Option.bind_eq_some_iff.mp H
    obtain ⟨t258,A40,H⟩:=H
    replace H : (if t258 = true then (some true) else (some false)) = some r:=H
    have A4:=qn.mk A40
    clear A40
    by_cases c5 : t258 = true
    · subst c5
      have H1 : (some true) = some r:=by rw [if_pos rfl] at H;exact H
      clear H
      have H:=H1
      clear H1
      obtain rfl:=Option.some.inj H
      go_enter Try.func24,Try.ntmps24
      go_wp2_with (first|((with_reducible refine gate_dst (N:=2) rfl ?_);refine box_event ?hg (N:=2) ?hd (cs:=#[.int .i64 a0_0,.slice A0_1 l0_1.length c0_1]) (t:=61) ?hr ?_;(case hd=>rfl);(case hg=>rfl);(case hr=>first|(go_simp;done)|(go_simp;rfl));intro gb256 hg w6 hbox hb;have n0_:=hs_ HB hb;have n1_:=qn.mk (hbox);have n2_:=qn.mk ((by rw [hg];exact (qj (by repeat (first|(with_reducible first|exact HB.out|apply qf|apply qa|apply qd)|exact HB.out))) : w.heap.size ≤ gb256));have n3_:=qn.mk ((by rw [hg];exact (qj (by repeat (first|(with_reducible first|exact HB.out|apply qf|apply qa|apply qd)|exact HB.out))) : w.heap.size ≤ gb256));clear HB;have HB:=n0_;have BK256:=n1_;have GW256:=n2_;have GE256:=n3_;clear n0_ n1_ n2_ n3_;clear hb hbox hg)|((with_reducible refine gate_dst (N:=3) rfl ?_);refine box_event ?hg (N:=3) ?hd (cs:=#[.int .i64 a1_0,.slice A1_1 l1_1.length c1_1]) (t:=61) ?hr ?_;(case hd=>rfl);(case hg=>rfl);(case hr=>first|(go_simp;done)|(go_simp;rfl));intro gb257 hg w7 hbox hb;have n0_:=bb_ BK256 hb;have n1_:=hs_ HB hb;have n2_:=qn.mk (hbox);have n3_:=qn.mk ((by rw [hg];exact (qj (by repeat (first|(with_reducible first|exact HB.out|apply qf|apply qa|apply qd|refine qg ?_ GE256.out)|exact HB.out))) : w.heap.size ≤ gb257));have n4_:=qn.mk ((by rw [hg];exact (qj (by repeat (first|(with_reducible first|exact HB.out|apply qf|apply qa|apply qd|refine qg ?_ GE256.out)|exact HB.out))) : w.heap.size ≤ gb257));have n5_:=qn.mk ((by rw [hg];exact nl_ BK256 : gb256 ≠ gb257));have n6_:=qn.mk ((by rw [hg];exact ng_ BK256 : gb257 ≠ gb256));clear BK256;clear HB;have BK256:=n0_;have HB:=n1_;have BK257:=n2_;have GW257:=n3_;have GE257:=n4_;have NB256_257:=n5_;have NB257_256:=n6_;clear n0_ n1_ n2_ n3_ n4_ n5_ n6_;clear hb hbox hg;have hnb8:=NB256_257.out;have hnc8:=NB257_256.out;have hcz9_0 : w7.cell? ⟨gb256,0,none⟩ = some (.int .i64 a0_0):=(qh BK256.out 0).trans rfl;have hcz9_1 : w7.cell? ⟨gb256,1,none⟩ = some (.slice A0_1 l0_1.length c0_1):=(qh BK256.out 1).trans rfl;have hfz9_0:=qi BK256.out 0;have hfz9_1:=qi BK256.out 1;have hcz10_0 : w7.cell? ⟨gb257,0,none⟩ = some (.int .i64 a1_0):=(qh BK257.out 0).trans rfl;have hcz10_1 : w7.cell? ⟨gb257,1,none⟩ = some (.slice A1_1 l1_1.length c1_1):=(qh BK257.out 1).trans rfl;have hfz10_0:=qi BK257.out 0;have hfz10_1:=qi BK257.out 1)|((with_reducible refine gate_callee (f:=61) rfl ?_);refine goesL_ (some 14) rfl rfl Try.func61 (by kernel_rfl) rfl #[.slice A0_1 l0_1.length c0_1,.slice A1_1 l1_1.length c1_1] rfl (by (try simp only [List.map_toArray,List.map_cons,List.map_nil]);first|done|rfl|(simp only [List.length_drop,List.length_take];rfl)) ?_;(with_reducible refine (laws_eqEdgeS.calls k _ _ l0_1 _ _ l1_1 true _ ?side1 ?side2 ?side3 ?side4 A4.out).mono ?_);(case side1=>repeat (first|exact (Kd.C_below HR0_1.out HB.out)|(with_reducible refine Kd.C_alloc ?_ _)|(with_reducible refine Kd.C_drewN ?_ _)|(with_reducible refine Kd.C_drew ?_)));(case side2=>exact HC0_1.out);(case side3=>repeat (first|exact (Kd.C_below HR1_1.out HB.out)|(with_reducible refine Kd.C_alloc ?_ _)|(with_reducible refine Kd.C_drewN ?_ _)|(with_reducible refine Kd.C_drew ?_)));(case side4=>exact HC1_1.out);rintro e w11 ⟨rfl,hb⟩;refine ⟨_,rfl,?_⟩;have n0_:=bb_ BK256 hb;have n1_:=bb_ BK257 hb;have n2_:=hs_ HB hb;clear BK256;clear BK257;clear HB;have BK256:=n0_;have BK257:=n1_;have HB:=n2_;clear n0_ n1_ n2_;(try clear hb);(try clear hb2);(try clear hk);(try clear hi)))
      go_ret
      exact ⟨by first|rfl|(simp [errW_none,errW_some] <;> rfl)|(simp [*,errW_none,errW_some] <;> rfl),by repeat (first|(with_reducible first|exact HB.out|apply qf|apply qa|apply qd|refine qg ?_ GE256.out|refine qg ?_ GE257.out)|exact HB.out)⟩
    · replace c5:=Bool.eq_false_iff.mpr c5
      subst c5
      have H1 : (some false) = some r:=by rw [if_neg (show ¬ (false = true) by decide)] at H;exact H
      clear H
      have H:=H1
      clear H1
      obtain rfl:=Option.some.inj H
      go_enter Try.func24,Try.ntmps24
      go_wp2_with (first|((with_reducible refine gate_dst (N:=2) rfl ?_);refine box_event ?hg (N:=2) ?hd (cs:=#[.int .i64 a0_0,.slice A0_1 l0_1.length c0_1]) (t:=61) ?hr ?_;(case hd=>rfl);(case hg=>rfl);(case hr=>first|(go_simp;done)|(go_simp;rfl));intro gb256 hg w12 hbox hb;have n0_:=hs_ HB hb;have n1_:=qn.mk (hbox);have n2_:=qn.mk ((by rw [hg];exact (qj (by repeat (first|(with_reducible first|exact HB.out|apply qf|apply qa|apply qd)|exact HB.out))) : w.heap.size ≤ gb256));have n3_:=qn.mk ((by rw [hg];exact (qj (by repeat (first|(with_reducible first|exact HB.out|apply qf|apply qa|apply qd)|exact HB.out))) : w.heap.size ≤ gb256));clear HB;have HB:=n0_;have BK256:=n1_;have GW256:=n2_;have GE256:=n3_;clear n0_ n1_ n2_ n3_;clear hb hbox hg)|((with_reducible refine gate_dst (N:=3) rfl ?_);refine box_event ?hg (N:=3) ?hd (cs:=#[.int .i64 a1_0,.slice A1_1 l1_1.length c1_1]) (t:=61) ?hr ?_;(case hd=>rfl);(case hg=>rfl);(case hr=>first|(go_simp;done)|(go_simp;rfl));intro gb257 hg w13 hbox hb;have n0_:=bb_ BK256 hb;have n1_:=hs_ HB hb;have n2_:=qn.mk (hbox);have n3_:=qn.mk ((by rw [hg];exact (qj (by repeat (first|(with_reducible first|exact HB.out|apply qf|apply qa|apply qd|refine qg ?_ GE256.out)|exact HB.out))) : w.heap.size ≤ gb257));have n4_:=qn.mk ((by rw [hg];exact (qj (by repeat (first|(with_reducible first|exact HB.out|apply qf|apply qa|apply qd|refine qg ?_ GE256.out)|exact HB.out))) : w.heap.size ≤ gb257));have n5_:=qn.mk ((by rw [hg];exact nl_ BK256 : gb256 ≠ gb257));have n6_:=qn.mk ((by rw [hg];exact ng_ BK256 : gb257 ≠ gb256));clear BK256;clear HB;have BK256:=n0_;have HB:=n1_;have BK257:=n2_;have GW257:=n3_;have GE257:=n4_;have NB256_257:=n5_;have NB257_256:=n6_;clear n0_ n1_ n2_ n3_ n4_ n5_ n6_;clear hb hbox hg;have hnb14:=NB256_257.out;have hnc14:=NB257_256.out;have hcz15_0 : w13.cell? ⟨gb256,0,none⟩ = some (.int .i64 a0_0):=(qh BK256.out 0).trans rfl;have hcz15_1 : w13.cell? ⟨gb256,1,none⟩ = some (.slice A0_1 l0_1.length c0_1):=(qh BK256.out 1).trans rfl;have hfz15_0:=qi BK256.out 0;have hfz15_1:=qi BK256.out 1;have hcz16_0 : w13.cell? ⟨gb257,0,none⟩ = some (.int .i64 a1_0):=(qh BK257.out 0).trans rfl;have hcz16_1 : w13.cell? ⟨gb257,1,none⟩ = some (.slice A1_1 l1_1.length c1_1):=(qh BK257.out 1).trans rfl;have hfz16_0:=qi BK257.out 0;have hfz16_1:=qi BK257.out 1)|((with_reducible refine gate_callee (f:=61) rfl ?_);refine goesL_ (some 14) rfl rfl Try.func61 (by kernel_rfl) rfl #[.slice A0_1 l0_1.length c0_1,.slice A1_1 l1_1.length c1_1] rfl (by (try simp only [List.map_toArray,List.map_cons,List.map_nil]);first|done|rfl|(simp only [List.length_drop,List.length_take];rfl)) ?_;(with_reducible refine (laws_eqEdgeS.calls k _ _ l0_1 _ _ l1_1 false _ ?side1 ?side2 ?side3 ?side4 A4.out).mono ?_);(case side1=>repeat (first|exact (Kd.C_below HR0_1.out HB.out)|(with_reducible refine Kd.C_alloc ?_ _)|(with_reducible refine Kd.C_drewN ?_ _)|(with_reducible refine Kd.C_drew ?_)));(case side2=>exact HC0_1.out);(case side3=>repeat (first|exact (Kd.C_below HR1_1.out HB.out)|(with_reducible refine Kd.C_alloc ?_ _)|(with_reducible refine Kd.C_drewN ?_ _)|(with_reducible refine Kd.C_drew ?_)));(case side4=>exact HC1_1.out);rintro e w17 ⟨rfl,hb⟩;refine ⟨_,rfl,?_⟩;have n0_:=bb_ BK256 hb;have n1_:=bb_ BK257 hb;have n2_:=hs_ HB hb;clear BK256;clear BK257;clear HB;have BK256:=n0_;have BK257:=n1_;have HB:=n2_;clear n0_ n1_ n2_;(try clear hb);(try clear hb2);(try clear hk);(try clear hi)))
      go_ret
      exact ⟨by first|rfl|(simp [errW_none,errW_some] <;> rfl)|(simp [*,errW_none,errW_some] <;> rfl),by repeat (first|(with_reducible first|exact HB.out|apply qf|apply qa|apply qd|refine qg ?_ GE256.out|refine qg ?_ GE257.out)|exact HB.out)⟩
  · rw [if_neg c3] at H
    have c3b0 : (a0_0 == a1_0) = false:=beq_eq_false_iff_ne.mpr c3
    have c3b1 : (a0_0 != a1_0) = true:=bne_iff_ne.mpr c3
    obtain rfl:=Option.some.inj H
    go_enter Try.func24,Try.ntmps24
    go_wp2_with (first|((with_reducible refine gate_dst (N:=2) rfl ?_);refine box_event ?hg (N:=2) ?hd (cs:=#[.int .i64 a0_0,.slice A0_1 l0_1.length c0_1]) (t:=61) ?hr ?_;(case hd=>rfl);(case hg=>rfl);(case hr=>first|(go_simp;done)|(go_simp;rfl));intro gb256 hg w18 hbox hb;have n0_:=hs_ HB hb;have n1_:=qn.mk (hbox);have n2_:=qn.mk ((by rw [hg];exact (qj (by repeat (first|(with_reducible first|exact HB.out|apply qf|apply qa|apply qd)|exact HB.out))) : w.heap.size ≤ gb256));have n3_:=qn.mk ((by rw [hg];exact (qj (by repeat (first|(with_reducible first|exact HB.out|apply qf|apply qa|apply qd)|exact HB.out))) : w.heap.size ≤ gb256));clear HB;have HB:=n0_;have BK256:=n1_;have GW256:=n2_;have GE256:=n3_;clear n0_ n1_ n2_ n3_;clear hb hbox hg)|((with_reducible refine gate_dst (N:=3) rfl ?_);refine box_event ?hg (N:=3) ?hd (cs:=#[.int .i64 a1_0,.slice A1_1 l1_1.length c1_1]) (t:=61) ?hr ?_;(case hd=>rfl);(case hg=>rfl);(case hr=>first|(go_simp;done)|(go_simp;rfl));intro gb257 hg w19 hbox hb;have n0_:=bb_ BK256 hb;have n1_:=hs_ HB hb;have n2_:=qn.mk (hbox);have n3_:=qn.mk ((by rw [hg];exact (qj (by repeat (first|(with_reducible first|exact HB.out|apply qf|apply qa|apply qd|refine qg ?_ GE256.out)|exact HB.out))) : w.heap.size ≤ gb257));have n4_:=qn.mk ((by rw [hg];exact (qj (by repeat (first|(with_reducible first|exact HB.out|apply qf|apply qa|apply qd|refine qg ?_ GE256.out)|exact HB.out))) : w.heap.size ≤ gb257));have n5_:=qn.mk ((by rw [hg];exact nl_ BK256 : gb256 ≠ gb257));have n6_:=qn.mk ((by rw [hg];exact ng_ BK256 : gb257 ≠ gb256));clear BK256;clear HB;have BK256:=n0_;have HB:=n1_;have BK257:=n2_;have GW257:=n3_;have GE257:=n4_;have NB256_257:=n5_;have NB257_256:=n6_;clear n0_ n1_ n2_ n3_ n4_ n5_ n6_;clear hb hbox hg;have hnb20:=NB256_257.out;have hnc20:=NB257_256.out;have hcz21_0 : w19.cell? ⟨gb256,0,none⟩ = some (.int .i64 a0_0):=(qh BK256.out 0).trans rfl;have hcz21_1 : w19.cell? ⟨gb256,1,none⟩ = some (.slice A0_1 l0_1.length c0_1):=(qh BK256.out 1).trans rfl;have hfz21_0:=qi BK256.out 0;have hfz21_1:=qi BK256.out 1;have hcz22_0 : w19.cell? ⟨gb257,0,none⟩ = some (.int .i64 a1_0):=(qh BK257.out 0).trans rfl;have hcz22_1 : w19.cell? ⟨gb257,1,none⟩ = some (.slice A1_1 l1_1.length c1_1):=(qh BK257.out 1).trans rfl;have hfz22_0:=qi BK257.out 0;have hfz22_1:=qi BK257.out 1))
    go_ret
    exact ⟨by first|rfl|(simp [errW_none,errW_some] <;> rfl)|(simp [*,errW_none,errW_some] <;> rfl),by repeat (first|(with_reducible first|exact HB.out|apply qf|apply qa|apply qd|refine qg ?_ GE256.out|refine qg ?_ GE257.out)|exact HB.out)⟩

/-! ### laws_eqIntS: function 62 -/
def laws_eqIntS.l0 : Nat → List Int → List Int → Int → Option (Bool)
  | 0,_,_,_=>none
  | k + 1,x0,x1,x5=>if x5 < (x0.length : Int) then (if 0 ≤ x5 then (if x5 < (x1.length : Int) then (if (rd x0 x5) = (rd x1 x5) then (laws_eqIntS.l0 k x0 x1 (wrap64 (x5 + 1))) else (some false)) else (none)) else (none)) else (some true)
def laws_eqIntS.f (k : Nat) (l0 : List Int) (l1 : List Int) : Option (Bool):=if (l0.length : Int) = (l1.length : Int) then (laws_eqIntS.l0 k l0 l1 0) else (some false)
theorem laws_eqIntS.mono_l : ∀ k,(∀ y0 y1 y2,LeO (laws_eqIntS.l0 k y0 y1 y2) (laws_eqIntS.l0 (k + 1) y0 y1 y2))
  | 0=>fun _ _ _ r h=>by simp [laws_eqIntS.l0] at h
  | k + 1=>by
    have ih0:=laws_eqIntS.mono_l k
    · intro y0 y1 y2
      unfold laws_eqIntS.l0
      repeat' first
      | (with_reducible exact ih0 _ _ _)
      | (with_reducible exact LeO.refl _)
      | (with_reducible exact LeO.none _)
      | (with_reducible refine LeO.ite ?_ ?_)
      | (with_reducible refine LeO.bind ?_ (fun _=>?_))
      | exact ih0 _ _ _
      | exact LeO.none _
      | refine LeO.ite ?_ ?_
      | refine LeO.bind ?_ (fun _=>?_)
theorem laws_eqIntS.mono : ∀ a0 a1 k,LeO (laws_eqIntS.f k a0 a1) (laws_eqIntS.f (k + 1) a0 a1):=by
  intro a0 a1 k
  have ih0:=laws_eqIntS.mono_l k
  unfold laws_eqIntS.f
  repeat' first
      | (with_reducible exact ih0 _ _ _)
      | (with_reducible exact LeO.refl _)
      | (with_reducible exact LeO.none _)
      | (with_reducible refine LeO.ite ?_ ?_)
      | (with_reducible refine LeO.bind ?_ (fun _=>?_))
      | exact ih0 _ _ _
      | exact LeO.none _
      | refine LeO.ite ?_ ?_
      | refine LeO.bind ?_ (fun _=>?_)
set_option maxHeartbeats 8000000 in
set_option maxRecDepth 100000 in
theorem laws_eqIntS.calls (k : Nat) (A0 : Option Addr) (c0 : Nat) (l0 : List Int) (A1 : Option Addr) (c1 : Nat) (l1 : List Int) (r : Bool) (w : World) (hr0 : Kd.C (Kd.int .i64) w A0 l0.length l0) (hc0 : l0.length ≤ c0) (hr1 : Kd.C (Kd.int .i64) w A1 l1.length l1) (hc1 : l1.length ≤ c1) (h : laws_eqIntS.f k l0 l1 = some r) :
    Calls Try.prog 62 #[.slice A0 l0.length c0,.slice A1 l1.length c1] w fun e w'=>e = .returned (.bool r) ∧ Drawn0 w w':=by
  have HR0:=qn.mk hr0
  have HC0:=qn.mk hc0
  clear hr0 hc0
  have HR1:=qn.mk hr1
  have HC1:=qn.mk hc1
  clear hr1 hc1
  have H : (if (l0.length : Int) = (l1.length : Int) then (laws_eqIntS.l0 k l0 l1 0) else (some false)) = some r:=h
  clear h
  by_cases c3 : (l0.length : Int) = (l1.length : Int)
  · rw [if_pos c3] at H
    have c3b0 : ((l0.length : Int) == (l1.length : Int)) = true:=beq_iff_eq.mpr c3
    have c3b1 : ((l0.length : Int) != (l1.length : Int)) = false:=bne_eq_false_iff_eq.mpr c3
    have c3b2 : (l0.length == l1.length) = true:=by first|simpa using c3|(simp at c3 ⊢;omega)
    clear c3
    have H':=qn.mk H
    clear H
    go_enter Try.func62,Try.ntmps62
    go_wp2
    repeat (go_quiet (fail);try go_wp2)
    go_loopg [5] k (fun kq v5 w'=>∃ (x5_1 : Int),v5 = .int .i64 x5_1 ∧ qn (laws_eqIntS.l0 kq l0 l1 x5_1 = some r) ∧ qn (kq ≤ k) ∧ Drawn0 w w')
    case atStart=>exact ⟨(0),(by first|rfl|(simp;done)|(simp [*];done)),H',⟨Nat.le_refl _⟩,by repeat (first|exact Drawn0.refl _|apply Drawn0.step)⟩
    case round =>
      clear H'
      try clear c1
      try clear p2
      try clear c3
      try clear c3b0
      try clear c3b1
      try clear c3b2
      obtain ⟨x5_1,rfl,HA,HK1,⟨m1,rfl⟩⟩:=hrel
      cases gk with
      | zero=>exact absurd HA.out (by simp [laws_eqIntS.l0])
      | succ k1 =>
        have H:=HA.out
        clear HA
        simp only [laws_eqIntS.l0] at H
        by_cases c4 : x5_1 < (l0.length : Int)
        · rw [if_pos c4] at H
          have c4b0 : decide (x5_1 < (l0.length : Int)) = true:=decide_eq_true c4
          clear c4
          by_cases c5 : 0 ≤ x5_1
          · rw [if_pos c5] at H
            have c5b0 : decide (0 ≤ x5_1) = true:=decide_eq_true c5
            clear c5
            by_cases c6 : x5_1 < (l1.length : Int)
            · rw [if_pos c6] at H
              have c6b0 : decide (x5_1 < (l1.length : Int)) = true:=decide_eq_true c6
              clear c6
              by_cases c7 : (rd l0 x5_1) = (rd l1 x5_1)
              · rw [if_pos c7] at H
                have c7b0 : ((rd l0 x5_1) == (rd l1 x5_1)) = true:=beq_iff_eq.mpr c7
                have c7b1 : ((rd l0 x5_1) != (rd l1 x5_1)) = false:=bne_eq_false_iff_eq.mpr c7
                clear c7
                have H':=qn.mk H
                clear H
                have p259 : 0 ≤ (x5_1 : Int):=of_decide_eq_true (by first|(with_reducible assumption)|assumption)
                have q259 : x5_1 < (l0.length : Int):=of_decide_eq_true (by first|(with_reducible assumption)|assumption)
                obtain ⟨ad259,e259,hx259_0⟩:=Kd.at_int HR0.out x5_1 p259 q259
                cases e259
                replace p259:=eq_true p259
                replace q259:=eq_true q259
                have p260 : 0 ≤ (x5_1 : Int):=of_decide_eq_true (by first|(with_reducible assumption)|assumption)
                have q260 : x5_1 < (l1.length : Int):=of_decide_eq_true (by first|(with_reducible assumption)|assumption)
                obtain ⟨ad260,e260,hx260_0⟩:=Kd.at_int HR1.out x5_1 p260 q260
                cases e260
                replace p260:=eq_true p260
                replace q260:=eq_true q260
                go_wp2
                repeat (go_quiet (fail);try go_wp2)
                go_roundg k1
                case measure=>have:=HK1.out;omega
                case rel=>exact ⟨(wrap64 (x5_1 + 1)),(by first|rfl|(simp;done)|(simp [*];done)),H',⟨by have:=HK1.out;omega⟩,by repeat (first|exact Drawn0.refl _|apply Drawn0.step)⟩
              · rw [if_neg c7] at H
                have c7b0 : ((rd l0 x5_1) == (rd l1 x5_1)) = false:=beq_eq_false_iff_ne.mpr c7
                have c7b1 : ((rd l0 x5_1) != (rd l1 x5_1)) = true:=bne_iff_ne.mpr c7
                obtain rfl:=Option.some.inj H
                have p259 : 0 ≤ (x5_1 : Int):=of_decide_eq_true (by first|(with_reducible assumption)|assumption)
                have q259 : x5_1 < (l0.length : Int):=of_decide_eq_true (by first|(with_reducible assumption)|assumption)
                obtain ⟨ad259,e259,hx259_0⟩:=Kd.at_int HR0.out x5_1 p259 q259
                cases e259
                replace p259:=eq_true p259
                replace q259:=eq_true q259
                have p260 : 0 ≤ (x5_1 : Int):=of_decide_eq_true (by first|(with_reducible assumption)|assumption)
                have q260 : x5_1 < (l1.length : Int):=of_decide_eq_true (by first|(with_reducible assumption)|assumption)
                obtain ⟨ad260,e260,hx260_0⟩:=Kd.at_int HR1.out x5_1 p260 q260
                cases e260
                replace p260:=eq_true p260
                replace q260:=eq_true q260
                go_wp2
                repeat (go_quiet (fail);try go_wp2)
                go_ret
                exact ⟨by first|rfl|(simp;done)|(simp [*];done),by repeat (first|exact Drawn0.refl _|apply Drawn0.step)⟩
            · rw [if_neg c6] at H
              exact absurd H (by simp)
          · rw [if_neg c5] at H
            exact absurd H (by simp)
        · rw [if_neg c4] at H
          have c4b0 : decide (x5_1 < (l0.length : Int)) = false:=decide_eq_false c4
          clear c4
          obtain rfl:=Option.some.inj H
          go_wp2
          repeat (go_quiet (fail);try go_wp2)
          go_ret
          exact ⟨by first|rfl|(simp;done)|(simp [*];done),by repeat (first|exact Drawn0.refl _|apply Drawn0.step)⟩
  · rw [if_neg c3] at H
    have c3b0 : ((l0.length : Int) == (l1.length : Int)) = false:=beq_eq_false_iff_ne.mpr c3
    have c3b1 : ((l0.length : Int) != (l1.length : Int)) = true:=bne_iff_ne.mpr c3
    have c3b2 : (l0.length == l1.length) = false:=by first|simpa using c3|(simp at c3 ⊢;omega)
    obtain rfl:=Option.some.inj H
    go_enter Try.func62,Try.ntmps62
    go_wp2
    repeat (go_quiet (fail);try go_wp2)
    go_ret
    exact ⟨by first|rfl|(simp;done)|(simp [*];done),by repeat (first|exact Drawn0.refl _|apply Drawn0.step)⟩

/-! ### laws_eqGroup: function 81 -/
def laws_eqGroup.f (k : Nat) (l0_0 : List Int) (a0_1 : Int) (l1_0 : List Int) (a1_1 : Int) : Option (Bool):=(laws_eqIntS.f k l0_0 l1_0).bind fun t263=>(if t263 = true then (if a0_1 = a1_1 then (some true) else (some false)) else (some false))
theorem laws_eqGroup.mono : ∀ a0 a1 a2 a3 k,LeO (laws_eqGroup.f k a0 a1 a2 a3) (laws_eqGroup.f (k + 1) a0 a1 a2 a3):=by
  intro a0 a1 a2 a3 k
  unfold laws_eqGroup.f
  repeat' first
      | (with_reducible exact laws_eqIntS.mono _ _ _)
      | (with_reducible exact LeO.refl _)
      | (with_reducible exact LeO.none _)
      | (with_reducible refine LeO.ite ?_ ?_)
      | (with_reducible refine LeO.bind ?_ (fun _=>?_))
      | exact laws_eqIntS.mono _ _ _
      | exact LeO.none _
      | refine LeO.ite ?_ ?_
      | refine LeO.bind ?_ (fun _=>?_)
set_option maxHeartbeats 8000000 in
set_option maxRecDepth 100000 in
theorem laws_eqGroup.calls (k : Nat) (A0_0 : Option Addr) (c0_0 : Nat) (l0_0 : List Int) (a0_1 : Int) (A1_0 : Option Addr) (c1_0 : Nat) (l1_0 : List Int) (a1_1 : Int) (r : Bool) (w : World) (hr0_0 : Kd.C (Kd.int .i64) w A0_0 l0_0.length l0_0) (hc0_0 : l0_0.length ≤ c0_0) (hr1_0 : Kd.C (Kd.int .i64) w A1_0 l1_0.length l1_0) (hc1_0 : l1_0.length ≤ c1_0) (h : laws_eqGroup.f k l0_0 a0_1 l1_0 a1_1 = some r) :
    Calls Try.prog 81 #[.agg #[.slice A0_0 l0_0.length c0_0,.int .i64 a0_1],.agg #[.slice A1_0 l1_0.length c1_0,.int .i64 a1_1]] w fun e w'=>e = .returned (.bool r) ∧ Below w.heap.size w w':=by
  have hu97:=Try.underlying97
  have HR0_0:=qn.mk hr0_0
  have HC0_0:=qn.mk hc0_0
  clear hr0_0 hc0_0
  have HR1_0:=qn.mk hr1_0
  have HC1_0:=qn.mk hc1_0
  clear hr1_0 hc1_0
  have HB:=qn.mk (Below.refl w.heap.size w)
  have H : ((laws_eqIntS.f k l0_0 l1_0).bind fun t263=>(if t263 = true then (if a0_1 = a1_1 then (some true) else (some false)) else (some false))) = some r:=h
  clear h
  replace H:=Option.bind_eq_some_iff.mp H
  obtain ⟨t263,A30,H⟩:=H
  replace H : (if t263 = true then (if a0_1 = a1_1 then (some true) else (some false)) else (some false)) = some r:=H
  have A3:=qn.mk A30
  clear A30
  by_cases c4 : t263 = true
  · subst c4
    have H1 : (if a0_1 = a1_1 then (some true) else (some false)) = some r:=by rw [if_pos rfl] at H;exact H
    clear H
    have H:=H1
    clear H1
    by_cases c5 : a0_1 = a1_1
    · rw [if_pos c5] at H
      have c5b0 : (a0_1 == a1_1) = true:=beq_iff_eq.mpr c5
      have c5b1 : (a0_1 != a1_1) = false:=bne_eq_false_iff_eq.mpr c5
      clear c5
      obtain rfl:=Option.some.inj H
      go_enter Try.func81,Try.ntmps81
      go_wp2_with (first|((with_reducible refine gate_dst (N:=2) rfl ?_);refine box_event ?hg (N:=2) ?hd (cs:=#[.slice A0_0 l0_0.length c0_0,.int .i64 a0_1]) (t:=97) ?hr ?_;(case hd=>rfl);(case hg=>rfl);(case hr=>first|(go_simp;done)|(go_simp;rfl));intro gb261 hg w6 hbox hb;have n0_:=hs_ HB hb;have n1_:=qn.mk (hbox);have n2_:=qn.mk ((by rw [hg];exact (qj (by repeat (first|(with_reducible first|exact HB.out|apply qf|apply qa|apply qd)|exact HB.out))) : w.heap.size ≤ gb261));have n3_:=qn.mk ((by rw [hg];exact (qj (by repeat (first|(with_reducible first|exact HB.out|apply qf|apply qa|apply qd)|exact HB.out))) : w.heap.size ≤ gb261));clear HB;have HB:=n0_;have BK261:=n1_;have GW261:=n2_;have GE261:=n3_;clear n0_ n1_ n2_ n3_;clear hb hbox hg)|((with_reducible refine gate_dst (N:=3) rfl ?_);refine box_event ?hg (N:=3) ?hd (cs:=#[.slice A1_0 l1_0.length c1_0,.int .i64 a1_1]) (t:=97) ?hr ?_;(case hd=>rfl);(case hg=>rfl);(case hr=>first|(go_simp;done)|(go_simp;rfl));intro gb262 hg w7 hbox hb;have n0_:=bb_ BK261 hb;have n1_:=hs_ HB hb;have n2_:=qn.mk (hbox);have n3_:=qn.mk ((by rw [hg];exact (qj (by repeat (first|(with_reducible first|exact HB.out|apply qf|apply qa|apply qd|refine qg ?_ GE261.out)|exact HB.out))) : w.heap.size ≤ gb262));have n4_:=qn.mk ((by rw [hg];exact (qj (by repeat (first|(with_reducible first|exact HB.out|apply qf|apply qa|apply qd|refine qg ?_ GE261.out)|exact HB.out))) : w.heap.size ≤ gb262));have n5_:=qn.mk ((by rw [hg];exact nl_ BK261 : gb261 ≠ gb262));have n6_:=qn.mk ((by rw [hg];exact ng_ BK261 : gb262 ≠ gb261));clear BK261;clear HB;have BK261:=n0_;have HB:=n1_;have BK262:=n2_;have GW262:=n3_;have GE262:=n4_;have NB261_262:=n5_;have NB262_261:=n6_;clear n0_ n1_ n2_ n3_ n4_ n5_ n6_;clear hb hbox hg;have hnb8:=NB261_262.out;have hnc8:=NB262_261.out;have hcz9_0 : w7.cell? ⟨gb261,0,none⟩ = some (.slice A0_0 l0_0.length c0_0):=(qh BK261.out 0).trans rfl;have hcz9_1 : w7.cell? ⟨gb261,1,none⟩ = some (.int .i64 a0_1):=(qh BK261.out 1).trans rfl;have hfz9_0:=qi BK261.out 0;have hfz9_1:=qi BK261.out 1;have hcz10_0 : w7.cell? ⟨gb262,0,none⟩ = some (.slice A1_0 l1_0.length c1_0):=(qh BK262.out 0).trans rfl;have hcz10_1 : w7.cell? ⟨gb262,1,none⟩ = some (.int .i64 a1_1):=(qh BK262.out 1).trans rfl;have hfz10_0:=qi BK262.out 0;have hfz10_1:=qi BK262.out 1)|((with_reducible refine gate_callee (f:=62) rfl ?_);refine goesL_ (some 9) rfl rfl Try.func62 (by kernel_rfl) rfl #[.slice A0_0 l0_0.length c0_0,.slice A1_0 l1_0.length c1_0] rfl (by (try simp only [List.map_toArray,List.map_cons,List.map_nil]);first|done|rfl|(simp only [List.length_drop,List.length_take];rfl)) ?_;(with_reducible refine (laws_eqIntS.calls k _ _ l0_0 _ _ l1_0 true _ ?side1 ?side2 ?side3 ?side4 A3.out).mono ?_);(case side1=>repeat (first|exact (Kd.C_below HR0_0.out HB.out)|(with_reducible refine Kd.C_alloc ?_ _)|(with_reducible refine Kd.C_drewN ?_ _)|(with_reducible refine Kd.C_drew ?_)));(case side2=>exact HC0_0.out);(case side3=>repeat (first|exact (Kd.C_below HR1_0.out HB.out)|(with_reducible refine Kd.C_alloc ?_ _)|(with_reducible refine Kd.C_drewN ?_ _)|(with_reducible refine Kd.C_drew ?_)));(case side4=>exact HC1_0.out);rintro e w' ⟨rfl,⟨nd,rfl⟩⟩;refine ⟨_,rfl,?_⟩))
      go_ret
      exact ⟨by first|rfl|(simp [errW_none,errW_some] <;> rfl)|(simp [*,errW_none,errW_some] <;> rfl),by repeat (first|(with_reducible first|exact HB.out|apply qf|apply qa|apply qd|refine qg ?_ GE261.out|refine qg ?_ GE262.out)|exact HB.out)⟩
    · rw [if_neg c5] at H
      have c5b0 : (a0_1 == a1_1) = false:=beq_eq_false_iff_ne.mpr c5
      have c5b1 : (a0_1 != a1_1) = true:=bne_iff_ne.mpr c5
      obtain rfl:=Option.some.inj H
      go_enter Try.func81,Try.ntmps81
      go_wp2_with (first|((with_reducible refine gate_dst (N:=2) rfl ?_);refine box_event ?hg (N:=2) ?hd (cs:=#[.slice A0_0 l0_0.length c0_0,.int .i64 a0_1]) (t:=97) ?hr ?_;(case hd=>rfl);(case hg=>rfl);(case hr=>first|(go_simp;done)|(go_simp;rfl));intro gb261 hg w11 hbox hb;have n0_:=hs_ HB hb;have n1_:=qn.mk (hbox);have n2_:=qn.mk ((by rw [hg];exact (qj (by repeat (first|(with_reducible first|exact HB.out|apply qf|apply qa|apply qd)|exact HB.out))) : w.heap.size ≤ gb261));have n3_:=qn.mk ((by rw [hg];exact (qj (by repeat (first|(with_reducible first|exact HB.out|apply qf|apply qa|apply qd)|exact HB.out))) : w.heap.size ≤ gb261));clear HB;have HB:=n0_;have BK261:=n1_;have GW261:=n2_;have GE261:=n3_;clear n0_ n1_ n2_ n3_;clear hb hbox hg)|((with_reducible refine gate_dst (N:=3) rfl ?_);refine box_event ?hg (N:=3) ?hd (cs:=#[.slice A1_0 l1_0.length c1_0,.int .i64 a1_1]) (t:=97) ?hr ?_;(case hd=>rfl);(case hg=>rfl);(case hr=>first|(go_simp;done)|(go_simp;rfl));intro gb262 hg w12 hbox hb;have n0_:=bb_ BK261 hb;have n1_:=hs_ HB hb;have n2_:=qn.mk (hbox);have n3_:=qn.mk ((by rw [hg];exact (qj (by repeat (first|(with_reducible first|exact HB.out|apply qf|apply qa|apply qd|refine qg ?_ GE261.out)|exact HB.out))) : w.heap.size ≤ gb262));have n4_:=qn.mk ((by rw [hg];exact (qj (by repeat (first|(with_reducible first|exact HB.out|apply qf|apply qa|apply qd|refine qg ?_ GE261.out)|exact HB.out))) : w.heap.size ≤ gb262));have n5_:=qn.mk ((by rw [hg];exact nl_ BK261 : gb261 ≠ gb262));have n6_:=qn.mk ((by rw [hg];exact ng_ BK261 : gb262 ≠ gb261));clear BK261;clear HB;have BK261:=n0_;have HB:=n1_;have BK262:=n2_;have GW262:=n3_;have GE262:=n4_;have NB261_262:=n5_;have NB262_261:=n6_;clear n0_ n1_ n2_ n3_ n4_ n5_ n6_;clear hb hbox hg;have hnb13:=NB261_262.out;have hnc13:=NB262_261.out;have hcz14_0 : w12.cell? ⟨gb261,0,none⟩ = some (.slice A0_0 l0_0.length c0_0):=(qh BK261.out 0).trans rfl;have hcz14_1 : w12.cell? ⟨gb261,1,none⟩ = some (.int .i64 a0_1):=(qh BK261.out 1).trans rfl;have hfz14_0:=qi BK261.out 0;have hfz14_1:=qi BK261.out 1;have hcz15_0 : w12.cell? ⟨gb262,0,none⟩ = some (.slice A1_0 l1_0.length c1_0):=(qh BK262.out 0).trans rfl;have hcz15_1 : w12.cell? ⟨gb262,1,none⟩ = some (.int .i64 a1_1):=(qh BK262.out 1).trans rfl;have hfz15_0:=qi BK262.out 0;have hfz15_1:=qi BK262.out 1)|((with_reducible refine gate_callee (f:=62) rfl ?_);refine goesL_ (some 9) rfl rfl Try.func62 (by kernel_rfl) rfl #[.slice A0_0 l0_0.length c0_0,.slice A1_0 l1_0.length c1_0] rfl (by (try simp only [List.map_toArray,List.map_cons,List.map_nil]);first|done|rfl|(simp only [List.length_drop,List.length_take];rfl)) ?_;(with_reducible refine (laws_eqIntS.calls k _ _ l0_0 _ _ l1_0 true _ ?side1 ?side2 ?side3 ?side4 A3.out).mono ?_);(case side1=>repeat (first|exact (Kd.C_below HR0_0.out HB.out)|(with_reducible refine Kd.C_alloc ?_ _)|(with_reducible refine Kd.C_drewN ?_ _)|(with_reducible refine Kd.C_drew ?_)));(case side2=>exact HC0_0.out);(case side3=>repeat (first|exact (Kd.C_below HR1_0.out HB.out)|(with_reducible refine Kd.C_alloc ?_ _)|(with_reducible refine Kd.C_drewN ?_ _)|(with_reducible refine Kd.C_drew ?_)));(case side4=>exact HC1_0.out);rintro e w' ⟨rfl,⟨nd,rfl⟩⟩;refine ⟨_,rfl,?_⟩))
      go_ret
      exact ⟨by first|rfl|(simp [errW_none,errW_some] <;> rfl)|(simp [*,errW_none,errW_some] <;> rfl),by repeat (first|(with_reducible first|exact HB.out|apply qf|apply qa|apply qd|refine qg ?_ GE261.out|refine qg ?_ GE262.out)|exact HB.out)⟩
  · replace c4:=Bool.eq_false_iff.mpr c4
    subst c4
    have H1 : (some false) = some r:=by rw [if_neg (show ¬ (false = true) by decide)] at H;exact H
    clear H
    have H:=H1
    clear H1
    obtain rfl:=Option.some.inj H
    go_enter Try.func81,Try.ntmps81
    go_wp2_with (first|((with_reducible refine gate_dst (N:=2) rfl ?_);refine box_event ?hg (N:=2) ?hd (cs:=#[.slice A0_0 l0_0.length c0_0,.int .i64 a0_1]) (t:=97) ?hr ?_;(case hd=>rfl);(case hg=>rfl);(case hr=>first|(go_simp;done)|(go_simp;rfl));intro gb261 hg w16 hbox hb;have n0_:=hs_ HB hb;have n1_:=qn.mk (hbox);have n2_:=qn.mk ((by rw [hg];exact (qj (by repeat (first|(with_reducible first|exact HB.out|apply qf|apply qa|apply qd)|exact HB.out))) : w.heap.size ≤ gb261));have n3_:=qn.mk ((by rw [hg];exact (qj (by repeat (first|(with_reducible first|exact HB.out|apply qf|apply qa|apply qd)|exact HB.out))) : w.heap.size ≤ gb261));clear HB;have HB:=n0_;have BK261:=n1_;have GW261:=n2_;have GE261:=n3_;clear n0_ n1_ n2_ n3_;clear hb hbox hg)|((with_reducible refine gate_dst (N:=3) rfl ?_);refine box_event ?hg (N:=3) ?hd (cs:=#[.slice A1_0 l1_0.length c1_0,.int .i64 a1_1]) (t:=97) ?hr ?_;(case hd=>rfl);(case hg=>rfl);(case hr=>first|(go_simp;done)|(go_simp;rfl));intro gb262 hg w17 hbox hb;have n0_:=bb_ BK261 hb;have n1_:=hs_ HB hb;have n2_:=qn.mk (hbox);have n3_:=qn.mk ((by rw [hg];exact (qj (by repeat (first|(with_reducible first|exact HB.out|apply qf|apply qa|apply qd|refine qg ?_ GE261.out)|exact HB.out))) : w.heap.size ≤ gb262));have n4_:=qn.mk ((by rw [hg];exact (qj (by repeat (first|(with_reducible first|exact HB.out|apply qf|apply qa|apply qd|refine qg ?_ GE261.out)|exact HB.out))) : w.heap.size ≤ gb262));have n5_:=qn.mk ((by rw [hg];exact nl_ BK261 : gb261 ≠ gb262));have n6_:=qn.mk ((by rw [hg];exact ng_ BK261 : gb262 ≠ gb261));clear BK261;clear HB;have BK261:=n0_;have HB:=n1_;have BK262:=n2_;have GW262:=n3_;have GE262:=n4_;have NB261_262:=n5_;have NB262_261:=n6_;clear n0_ n1_ n2_ n3_ n4_ n5_ n6_;clear hb hbox hg;have hnb18:=NB261_262.out;have hnc18:=NB262_261.out;have hcz19_0 : w17.cell? ⟨gb261,0,none⟩ = some (.slice A0_0 l0_0.length c0_0):=(qh BK261.out 0).trans rfl;have hcz19_1 : w17.cell? ⟨gb261,1,none⟩ = some (.int .i64 a0_1):=(qh BK261.out 1).trans rfl;have hfz19_0:=qi BK261.out 0;have hfz19_1:=qi BK261.out 1;have hcz20_0 : w17.cell? ⟨gb262,0,none⟩ = some (.slice A1_0 l1_0.length c1_0):=(qh BK262.out 0).trans rfl;have hcz20_1 : w17.cell? ⟨gb262,1,none⟩ = some (.int .i64 a1_1):=(qh BK262.out 1).trans rfl;have hfz20_0:=qi BK262.out 0;have hfz20_1:=qi BK262.out 1)|((with_reducible refine gate_callee (f:=62) rfl ?_);refine goesL_ (some 9) rfl rfl Try.func62 (by kernel_rfl) rfl #[.slice A0_0 l0_0.length c0_0,.slice A1_0 l1_0.length c1_0] rfl (by (try simp only [List.map_toArray,List.map_cons,List.map_nil]);first|done|rfl|(simp only [List.length_drop,List.length_take];rfl)) ?_;(with_reducible refine (laws_eqIntS.calls k _ _ l0_0 _ _ l1_0 false _ ?side1 ?side2 ?side3 ?side4 A3.out).mono ?_);(case side1=>repeat (first|exact (Kd.C_below HR0_0.out HB.out)|(with_reducible refine Kd.C_alloc ?_ _)|(with_reducible refine Kd.C_drewN ?_ _)|(with_reducible refine Kd.C_drew ?_)));(case side2=>exact HC0_0.out);(case side3=>repeat (first|exact (Kd.C_below HR1_0.out HB.out)|(with_reducible refine Kd.C_alloc ?_ _)|(with_reducible refine Kd.C_drewN ?_ _)|(with_reducible refine Kd.C_drew ?_)));(case side4=>exact HC1_0.out);rintro e w' ⟨rfl,⟨nd,rfl⟩⟩;refine ⟨_,rfl,?_⟩))
    go_ret
    exact ⟨by first|rfl|(simp [errW_none,errW_some] <;> rfl)|(simp [*,errW_none,errW_some] <;> rfl),by repeat (first|(with_reducible first|exact HB.out|apply qf|apply qa|apply qd|refine qg ?_ GE261.out|refine qg ?_ GE262.out)|exact HB.out)⟩

end Go.Proofs.Ytcdofljgeiohgaa.QFnExactProofOk
