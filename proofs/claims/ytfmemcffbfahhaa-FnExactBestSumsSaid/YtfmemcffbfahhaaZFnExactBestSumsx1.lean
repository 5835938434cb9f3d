/- Lean functions for the Go functions that the law FnExactBestSums reaches, and that each Go function comes to just its Lean function's answer; by a program of this session. -/
import Derived.Test.YtfmemcffbfahhaaZFnExactBestSumsx0
namespace Go.Proofs.Ytfmemcffbfahhaa.QFnExactBestSums
open Go.RowKit Go.Proofs.YtfmemcffbfahhaaW.PrintWords Go.Proofs.YtfmemcffbfahhaaW.PrintLast Go.Proofs.YtfmemcffbfahhaaW.PrintMore
attribute [local go_sem] max2_int min2_int max_two min_two max_three min_three max_four min_four   -- for this text's walks alone
set_option linter.unusedVariables false
set_option linter.unusedSimpArgs false

/-! ### laws_szEdgeS: function 81 -/
def laws_szEdgeS.f (l0 : List (S148)) (a1 : Int) : Option (Int):=if (wrap64 (a1 - (l0.length : Int))) < 0 then (some (-1)) else (some (wrap64 (a1 - (l0.length : Int))))
set_option maxHeartbeats 8000000 in
set_option maxRecDepth 100000 in
theorem laws_szEdgeS.calls (A0 : Option Addr) (c0 : Nat) (l0 : List (S148)) (a1 : Int) (r : Int) (w : World) (hr0 : Kd.C k148 w A0 l0.length l0) (hc0 : l0.length ≤ c0) (h : laws_szEdgeS.f l0 a1 = some r) :
    Calls Try.prog 81 #[.slice A0 l0.length c0,.int .i64 a1] w fun e w'=>e = .returned (.int .i64 r) ∧ Drawn0 w w':=by
  have HR0:=qn.mk hr0
  have HC0:=qn.mk hc0
  clear hr0 hc0
  have H : (if (wrap64 (a1 - (l0.length : Int))) < 0 then (some (-1)) else (some (wrap64 (a1 - (l0.length : Int))))) = some r:=h
  clear h
  by_cases c3 : (wrap64 (a1 - (l0.length : Int))) < 0
  · rw [if_pos c3] at H
    have c3b0 : decide ((wrap64 (a1 - (l0.length : Int))) < 0) = true:=decide_eq_true c3
    clear c3
    obtain rfl:=Option.some.inj H
    go_enter Try.func81,Try.ntmps81
    go_wp2
    go_ret
    exact ⟨by first|rfl|(simp;done)|(simp [*];done),by repeat (first|exact Drawn0.refl _|apply Drawn0.step)⟩
  · rw [if_neg c3] at H
    have c3b0 : decide ((wrap64 (a1 - (l0.length : Int))) < 0) = false:=decide_eq_false c3
    clear c3
    obtain rfl:=Option.some.inj H
    go_enter Try.func81,Try.ntmps81
    go_wp2
    go_ret
    exact ⟨by first|rfl|(simp;done)|(simp [*];done),by repeat (first|exact Drawn0.refl _|apply Drawn0.step)⟩

/-! ### laws_szGraph: function 33 -/
def laws_szGraph.f (a0_0 : Int) (l0_1 : List (S148)) (a1 : Int) : Option (Int):=(laws_szEdgeS.f l0_1 a1).bind fun t102=>(if t102 < 0 then (some (-1)) else (some t102))
set_option maxHeartbeats 8000000 in
set_option maxRecDepth 100000 in
theorem laws_szGraph.calls (a0_0 : Int) (A0_1 : Option Addr) (c0_1 : Nat) (l0_1 : List (S148)) (a1 : Int) (r : Int) (w : World) (hr0_1 : Kd.C k148 w A0_1 l0_1.length l0_1) (hc0_1 : l0_1.length ≤ c0_1) (h : laws_szGraph.f a0_0 l0_1 a1 = some r) :
    Calls Try.prog 33 #[.agg #[.int .i64 a0_0,.slice A0_1 l0_1.length c0_1],.int .i64 a1] w fun e w'=>e = .returned (.int .i64 r) ∧ Below w.heap.size w w':=by
  have hu65:=Try.underlying65
  have HR0_1:=qn.mk hr0_1
  have HC0_1:=qn.mk hc0_1
  clear hr0_1 hc0_1
  have HB:=qn.mk (Below.refl w.heap.size w)
  have H : ((laws_szEdgeS.f l0_1 a1).bind fun t102=>(if t102 < 0 then (some (-1)) else (some t102))) = some r:=h
  clear h
  replace H:=Option.bind_eq_some_iff.mp H
  obtain ⟨t102,A30,H⟩:=H
  replace H : (if t102 < 0 then (some (-1)) else (some t102)) = some r:=H
  have A3:=qn.mk A30
  clear A30
  by_cases c4 : t102 < 0
  · rw [if_pos c4] at H
    have c4b0 : decide (t102 < 0) = true:=decide_eq_true c4
    clear c4
    obtain rfl:=Option.some.inj H
    go_enter Try.func33,Try.ntmps33
    go_wp2_with (first|((with_reducible refine gate_dst (N:=2) rfl ?_);refine box_event ?hg (N:=2) ?hd (cs:=#[.int .i64 a0_0,.slice A0_1 l0_1.length c0_1]) (t:=65) ?hr ?_;(case hd=>rfl);(case hg=>rfl);(case hr=>first|(go_simp;done)|(go_simp;rfl));intro gb101 hg w5 hbox hb;have n0_:=hs_ HB hb;have n1_:=qn.mk (hbox);have n2_:=qn.mk ((by rw [hg];exact (qj (by repeat (first|(with_reducible first|exact HB.out|apply qf|apply qa|apply qd)|exact HB.out))) : w.heap.size ≤ gb101));have n3_:=qn.mk ((by rw [hg];exact (qj (by repeat (first|(with_reducible first|exact HB.out|apply qf|apply qa|apply qd)|exact HB.out))) : w.heap.size ≤ gb101));clear HB;have HB:=n0_;have BK101:=n1_;have GW101:=n2_;have GE101:=n3_;clear n0_ n1_ n2_ n3_;clear hb hbox hg;have hcz6_0 : w5.cell? ⟨gb101,0,none⟩ = some (.int .i64 a0_0):=(qh BK101.out 0).trans rfl;have hcz6_1 : w5.cell? ⟨gb101,1,none⟩ = some (.slice A0_1 l0_1.length c0_1):=(qh BK101.out 1).trans rfl;have hfz6_0:=qi BK101.out 0;have hfz6_1:=qi BK101.out 1)|((with_reducible refine gate_callee (f:=81) rfl ?_);refine goesL_ (some 8) rfl rfl Try.func81 (by kernel_rfl) rfl #[.slice A0_1 l0_1.length c0_1,.int .i64 a1] rfl (by (try simp only [List.map_toArray,List.map_cons,List.map_nil]);first|done|rfl|(simp only [List.length_drop,List.length_take];rfl)) ?_;(with_reducible refine (laws_szEdgeS.calls _ _ l0_1 a1 t102 _ ?side1 ?side2 A3.out).mono ?_);(case side1=>repeat (first|exact (Kd.C_below HR0_1.out HB.out)|(with_reducible refine Kd.C_alloc ?_ _)|(with_reducible refine Kd.C_drewN ?_ _)|(with_reducible refine Kd.C_drew ?_)));(case side2=>exact HC0_1.out);rintro e w' ⟨rfl,⟨nd,rfl⟩⟩;refine ⟨_,rfl,?_⟩))
    go_ret
    exact ⟨by first|rfl|(simp [errW_none,errW_some] <;> rfl)|(simp [*,errW_none,errW_some] <;> rfl),by repeat (first|(with_reducible first|exact HB.out|apply qf|apply qa|apply qd|refine qg ?_ GE101.out)|exact HB.out)⟩
  · rw [if_neg c4] at H
    have c4b0 : decide (t102 < 0) = false:=decide_eq_false c4
    clear c4
    obtain rfl:=Option.some.inj H
    go_enter Try.func33,Try.ntmps33
    go_wp2_with (first|((with_reducible refine gate_dst (N:=2) rfl ?_);refine box_event ?hg (N:=2) ?hd (cs:=#[.int .i64 a0_0,.slice A0_1 l0_1.length c0_1]) (t:=65) ?hr ?_;(case hd=>rfl);(case hg=>rfl);(case hr=>first|(go_simp;done)|(go_simp;rfl));intro gb101 hg w7 hbox hb;have n0_:=hs_ HB hb;have n1_:=qn.mk (hbox);have n2_:=qn.mk ((by rw [hg];exact (qj (by repeat (first|(with_reducible first|exact HB.out|apply qf|apply qa|apply qd)|exact HB.out))) : w.heap.size ≤ gb101));have n3_:=qn.mk ((by rw [hg];exact (qj (by repeat (first|(with_reducible first|exact HB.out|apply qf|apply qa|apply qd)|exact HB.out))) : w.heap.size ≤ gb101));clear HB;have HB:=n0_;have BK101:=n1_;have GW101:=n2_;have GE101:=n3_;clear n0_ n1_ n2_ n3_;clear hb hbox hg;have hcz8_0 : w7.cell? ⟨gb101,0,none⟩ = some (.int .i64 a0_0):=(qh BK101.out 0).trans rfl;have hcz8_1 : w7.cell? ⟨gb101,1,none⟩ = some (.slice A0_1 l0_1.length c0_1):=(qh BK101.out 1).trans rfl;have hfz8_0:=qi BK101.out 0;have hfz8_1:=qi BK101.out 1)|((with_reducible refine gate_callee (f:=81) rfl ?_);refine goesL_ (some 8) rfl rfl Try.func81 (by kernel_rfl) rfl #[.slice A0_1 l0_1.length c0_1,.int .i64 a1] rfl (by (try simp only [List.map_toArray,List.map_cons,List.map_nil]);first|done|rfl|(simp only [List.length_drop,List.length_take];rfl)) ?_;(with_reducible refine (laws_szEdgeS.calls _ _ l0_1 a1 t102 _ ?side1 ?side2 A3.out).mono ?_);(case side1=>repeat (first|exact (Kd.C_below HR0_1.out HB.out)|(with_reducible refine Kd.C_alloc ?_ _)|(with_reducible refine Kd.C_drewN ?_ _)|(with_reducible refine Kd.C_drew ?_)));(case side2=>exact HC0_1.out);rintro e w' ⟨rfl,⟨nd,rfl⟩⟩;refine ⟨_,rfl,?_⟩))
    go_ret
    exact ⟨by first|rfl|(simp [errW_none,errW_some] <;> rfl)|(simp [*,errW_none,errW_some] <;> rfl),by repeat (first|(with_reducible first|exact HB.out|apply qf|apply qa|apply qd|refine qg ?_ GE101.out)|exact HB.out)⟩

/-! ### laws_toEdge: function 117 -/
def laws_toEdge.f (a0_0 : Int) (a0_1 : Int) (a0_2 : Int) (a0_3 : Int) (a0_4 : Int) : Option (Int × Int × Int × Int × Int):=some (a0_0,a0_1,a0_2,a0_3,a0_4)
set_option maxHeartbeats 8000000 in
set_option maxRecDepth 100000 in
theorem laws_toEdge.calls (a0_0 : Int) (a0_1 : Int) (a0_2 : Int) (a0_3 : Int) (a0_4 : Int) (r1 : Int) (r2 : Int) (r3 : Int) (r4 : Int) (r5 : Int) (w : World) (h : laws_toEdge.f a0_0 a0_1 a0_2 a0_3 a0_4 = some (r1,r2,r3,r4,r5)) :
    Calls Try.prog 117 #[.agg #[.int .i64 a0_0,.int .i64 a0_1,.int .i64 a0_2,.int .i64 a0_3,.int .i64 a0_4]] w fun e w'=>e = .returned (.agg #[.int .i64 r1,.int .i64 r2,.int .i64 r3,.int .i64 r4,.int .i64 r5]) ∧ Below w.heap.size w w':=by
  have hu148:=Try.underlying148
  have hu36:=Try.underlying36
  have HB:=qn.mk (Below.refl w.heap.size w)
  have H : (some (a0_0,a0_1,a0_2,a0_3,a0_4)) = some (r1,r2,r3,r4,r5):=h
  clear h
  simp only [Option.some.injEq,Prod.mk.injEq] at H
  obtain ⟨rfl,rfl,rfl,rfl,rfl⟩:=H
  go_enter Try.func117,Try.ntmps117
  go_wp2_with (first|((with_reducible refine gate_dst (N:=1) rfl ?_);refine box_event ?hg (N:=1) ?hd (cs:=#[.int .i64 a0_0,.int .i64 a0_1,.int .i64 a0_2,.int .i64 a0_3,.int .i64 a0_4]) (t:=148) ?hr ?_;(case hd=>rfl);(case hg=>rfl);(case hr=>first|(go_simp;done)|(go_simp;rfl));intro gb103 hg w2 hbox hb;have n0_:=hs_ HB hb;have n1_:=qn.mk (hbox);have n2_:=qn.mk ((by rw [hg];exact (qj (by repeat (first|(with_reducible first|exact HB.out|apply qf|apply qa|apply qd)|exact HB.out))) : w.heap.size ≤ gb103));have n3_:=qn.mk ((by rw [hg];exact (qj (by repeat (first|(with_reducible first|exact HB.out|apply qf|apply qa|apply qd)|exact HB.out))) : w.heap.size ≤ gb103));clear HB;have HB:=n0_;have BK103:=n1_;have GW103:=n2_;have GE103:=n3_;clear n0_ n1_ n2_ n3_;clear hb hbox hg)|((with_reducible refine gate_dst (N:=2) rfl ?_);refine box_event ?hg (N:=2) ?hd (cs:=#[.int .i64 0,.int .i64 0,.int .i64 0,.int .i64 0,.int .i64 0]) (t:=36) ?hr ?_;(case hd=>rfl);(case hg=>rfl);(case hr=>first|(go_simp;done)|(go_simp;rfl));intro gb104 hg w3 hbox hb;have n0_:=bb_ BK103 hb;have n1_:=hs_ HB hb;have n2_:=qn.mk (hbox);have n3_:=qn.mk ((by rw [hg];exact (qj (by repeat (first|(with_reducible first|exact HB.out|apply qf|apply qa|apply qd|refine qg ?_ GE103.out)|exact HB.out))) : w.heap.size ≤ gb104));have n4_:=qn.mk ((by rw [hg];exact (qj (by repeat (first|(with_reducible first|exact HB.out|apply qf|apply qa|apply qd|refine qg ?_ GE103.out)|exact HB.out))) : w.heap.size ≤ gb104));have n5_:=qn.mk ((by rw [hg];exact nl_ BK103 : gb103 ≠ gb104));have n6_:=qn.mk ((by rw [hg];exact ng_ BK103 : gb104 ≠ gb103));clear BK103;clear HB;have BK103:=n0_;have HB:=n1_;have BK104:=n2_;have GW104:=n3_;have GE104:=n4_;have NB103_104:=n5_;have NB104_103:=n6_;clear n0_ n1_ n2_ n3_ n4_ n5_ n6_;clear hb hbox hg)|((with_reducible refine gate_dst (N:=3) rfl ?_);refine box_event ?hg (N:=3) ?hd (cs:=#[.int .i64 0,.int .i64 0,.int .i64 0,.int .i64 0,.int .i64 0]) (t:=36) ?hr ?_;(case hd=>rfl);(case hg=>rfl);(case hr=>first|(go_simp;done)|(go_simp;rfl));intro gb105 hg w4 hbox hb;have n0_:=bb_ BK103 hb;have n1_:=bb_ BK104 hb;have n2_:=hs_ HB hb;have n3_:=qn.mk (hbox);have n4_:=qn.mk ((by rw [hg];exact (qj (by repeat (first|(with_reducible first|exact HB.out|apply qf|apply qa|apply qd|refine qg ?_ GE103.out|refine qg ?_ GE104.out)|exact HB.out))) : w.heap.size ≤ gb105));have n5_:=qn.mk ((by rw [hg];exact (qj (by repeat (first|(with_reducible first|exact HB.out|apply qf|apply qa|apply qd|refine qg ?_ GE103.out|refine qg ?_ GE104.out)|exact HB.out))) : w.heap.size ≤ gb105));have n6_:=qn.mk ((by rw [hg];exact nl_ BK103 : gb103 ≠ gb105));have n7_:=qn.mk ((by rw [hg];exact ng_ BK103 : gb105 ≠ gb103));have n8_:=qn.mk ((by rw [hg];exact nl_ BK104 : gb104 ≠ gb105));have n9_:=qn.mk ((by rw [hg];exact ng_ BK104 : gb105 ≠ gb104));clear BK103;clear BK104;clear HB;have BK103:=n0_;have BK104:=n1_;have HB:=n2_;have BK105:=n3_;have GW105:=n4_;have GE105:=n5_;have NB103_105:=n6_;have NB105_103:=n7_;have NB104_105:=n8_;have NB105_104:=n9_;clear n0_ n1_ n2_ n3_ n4_ n5_ n6_ n7_ n8_ n9_;clear hb hbox hg;have hnb5:=NB103_104.out;have hnc5:=NB104_103.out;have hnb6:=NB103_105.out;have hnc6:=NB105_103.out;have hcz7_0 : w4.cell? ⟨gb103,0,none⟩ = some (.int .i64 a0_0):=(qh BK103.out 0).trans rfl;have hcz7_1 : w4.cell? ⟨gb103,1,none⟩ = some (.int .i64 a0_1):=(qh BK103.out 1).trans rfl;have hcz7_2 : w4.cell? ⟨gb103,2,none⟩ = some (.int .i64 a0_2):=(qh BK103.out 2).trans rfl;have hcz7_3 : w4.cell? ⟨gb103,3,none⟩ = some (.int .i64 a0_3):=(qh BK103.out 3).trans rfl;have hcz7_4 : w4.cell? ⟨gb103,4,none⟩ = some (.int .i64 a0_4):=(qh BK103.out 4).trans rfl;have hfz7_0:=qi BK103.out 0;have hfz7_1:=qi BK103.out 1;have hfz7_2:=qi BK103.out 2;have hfz7_3:=qi BK103.out 3;have hfz7_4:=qi BK103.out 4;have hnb8:=NB105_104.out;have hnc8:=NB104_105.out;have hcz9_0 : w4.cell? ⟨gb105,0,none⟩ = some (.int .i64 0):=(qh BK105.out 0).trans rfl;have hcz9_1 : w4.cell? ⟨gb105,1,none⟩ = some (.int .i64 0):=(qh BK105.out 1).trans rfl;have hcz9_2 : w4.cell? ⟨gb105,2,none⟩ = some (.int .i64 0):=(qh BK105.out 2).trans rfl;have hcz9_3 : w4.cell? ⟨gb105,3,none⟩ = some (.int .i64 0):=(qh BK105.out 3).trans rfl;have hcz9_4 : w4.cell? ⟨gb105,4,none⟩ = some (.int .i64 0):=(qh BK105.out 4).trans rfl;have hfz9_0:=qi BK105.out 0;have hfz9_1:=qi BK105.out 1;have hfz9_2:=qi BK105.out 2;have hfz9_3:=qi BK105.out 3;have hfz9_4:=qi BK105.out 4;have hcz10_0 : w4.cell? ⟨gb104,0,none⟩ = some (.int .i64 0):=(qh BK104.out 0).trans rfl;have hcz10_1 : w4.cell? ⟨gb104,1,none⟩ = some (.int .i64 0):=(qh BK104.out 1).trans rfl;have hcz10_2 : w4.cell? ⟨gb104,2,none⟩ = some (.int .i64 0):=(qh BK104.out 2).trans rfl;have hcz10_3 : w4.cell? ⟨gb104,3,none⟩ = some (.int .i64 0):=(qh BK104.out 3).trans rfl;have hcz10_4 : w4.cell? ⟨gb104,4,none⟩ = some (.int .i64 0):=(qh BK104.out 4).trans rfl;have hfz10_0:=qi BK104.out 0;have hfz10_1:=qi BK104.out 1;have hfz10_2:=qi BK104.out 2;have hfz10_3:=qi BK104.out 3;have hfz10_4:=qi BK104.out 4))
  refine bodyPost_ret (results_cell_row rfl _ _ gb104 36 #[.int .i64 a0_0,.int .i64 a0_1,.int .i64 a0_2,.int .i64 a0_3,.int .i64 a0_4] (0,0) _ rfl (by (with_reducible repeat (first|refine qb ?_ _|refine qe ?_|refine qc ?_ _));refine blk_put (cs:=#[.int .i64 a0_0,.int .i64 a0_1,.int .i64 a0_2,.int .i64 a0_3,.int .i64 0]) ?_ 4 _ rfl;(with_reducible repeat (first|refine qb ?_ _|refine qe ?_|refine qc ?_ _));refine blk_put (cs:=#[.int .i64 a0_0,.int .i64 a0_1,.int .i64 a0_2,.int .i64 0,.int .i64 0]) ?_ 3 _ rfl;(with_reducible repeat (first|refine qb ?_ _|refine qe ?_|refine qc ?_ _));refine blk_put (cs:=#[.int .i64 a0_0,.int .i64 a0_1,.int .i64 0,.int .i64 0,.int .i64 0]) ?_ 2 _ rfl;(with_reducible repeat (first|refine qb ?_ _|refine qe ?_|refine qc ?_ _));refine blk_put (cs:=#[.int .i64 a0_0,.int .i64 0,.int .i64 0,.int .i64 0,.int .i64 0]) ?_ 1 _ rfl;(with_reducible repeat (first|refine qb ?_ _|refine qe ?_|refine qc ?_ _));refine blk_put (cs:=#[.int .i64 0,.int .i64 0,.int .i64 0,.int .i64 0,.int .i64 0]) ?_ 0 _ rfl;(with_reducible repeat (first|refine qb ?_ _|refine qe ?_|refine qc ?_ _));refine blk_far ?_ NB104_105.out _;(with_reducible repeat (first|refine qb ?_ _|refine qe ?_|refine qc ?_ _));refine blk_far ?_ NB104_105.out _;(with_reducible repeat (first|refine qb ?_ _|refine qe ?_|refine qc ?_ _));refine blk_far ?_ NB104_105.out _;(with_reducible repeat (first|refine qb ?_ _|refine qe ?_|refine qc ?_ _));refine blk_far ?_ NB104_105.out _;(with_reducible repeat (first|refine qb ?_ _|refine qe ?_|refine qc ?_ _));refine blk_far ?_ NB104_105.out _;(with_reducible repeat (first|refine qb ?_ _|refine qe ?_|refine qc ?_ _));exact BK104.out) Try.underlying36 rfl (by kernel_rfl)) rfl ?_
  exact ⟨by first|rfl|(simp [errW_none,errW_some] <;> rfl)|(simp [*,errW_none,errW_some] <;> rfl),by repeat (first|(with_reducible first|exact HB.out|apply qf|apply qa|apply qd|refine qg ?_ GE103.out|refine qg ?_ GE104.out|refine qg ?_ GE105.out)|exact HB.out)⟩

/-! ### laws_toEdgeS: function 84 -/
def laws_toEdgeS.l0 : Nat → List (S148) → List (S36) → Int → Option ((List (S36)))
  | 0,_,_,_=>none
  | k + 1,x0,x3,x4=>if x4 < (x0.length : Int) then (if 0 ≤ x4 then ((laws_toEdge.f ((rd_T148 x0 x4).f0) ((rd_T148 x0 x4).f1) ((rd_T148 x0 x4).f2) ((rd_T148 x0 x4).f3) ((rd_T148 x0 x4).f4)).bind fun bt110=>(if x4 < (x3.length : Int) then (laws_toEdgeS.l0 k x0 (x3.set (x4 : Int).toNat (⟨bt110.1,bt110.2.1,bt110.2.2.1,bt110.2.2.2.1,bt110.2.2.2.2⟩ : S36)) (wrap64 (x4 + 1))) else (none))) else (none)) else (some x3)
def laws_toEdgeS.f (k : Nat) (l0 : List (S148)) : Option ((List (S36))):=if 0 ≤ (l0.length : Int) then (if ((l0.length : Int) : Int).toNat ≤ 7036874417766 then (laws_toEdgeS.l0 k l0 (List.replicate ((l0.length : Int) : Int).toNat z36) 0) else (none)) else (none)
theorem laws_toEdgeS.mono_l : ∀ k,(∀ y0 y1 y2,LeO (laws_toEdgeS.l0 k y0 y1 y2) (laws_toEdgeS.l0 (k + 1) y0 y1 y2))
  | 0=>fun _ _ _ r h=>by simp [laws_toEdgeS.l0] at h
  | k + 1=>by
    have ih0:=laws_toEdgeS.mono_l k
    · intro y0 y1 y2
      unfold laws_toEdgeS.l0
      repeat' first
      | (with_reducible exact ih0 _ _ _)
      | (with_reducible exact LeO.refl _)
      | (with_reducible exact LeO.none _)
      | (with_reducible refine LeO.ite ?_ ?_)
      | (with_reducible refine LeO.bind ?_ (fun _=>?_))
      | exact ih0 _ _ _
      | exact LeO.none _
      | refine LeO.ite ?_ ?_
      | refine LeO.bind ?_ (fun _=>?_)
theorem laws_toEdgeS.mono : ∀ a0 k,LeO (laws_toEdgeS.f k a0) (laws_toEdgeS.f (k + 1) a0):=by
  intro a0 k
  have ih0:=laws_toEdgeS.mono_l k
  unfold laws_toEdgeS.f
  repeat' first
      | (with_reducible exact ih0 _ _ _)
      | (with_reducible exact LeO.refl _)
      | (with_reducible exact LeO.none _)
      | (with_reducible refine LeO.ite ?_ ?_)
      | (with_reducible refine LeO.bind ?_ (fun _=>?_))
      | exact ih0 _ _ _
      | exact LeO.none _
      | refine LeO.ite ?_ ?_
      | refine LeO.bind ?_ (fun _=>?_)
set_option maxHeartbeats 8000000 in
set_option maxRecDepth 100000 in
theorem laws_toEdgeS.calls (k : Nat) (A0 : Option Addr) (c0 : Nat) (l0 : List (S148)) (r : List (S36)) (w : World) (hr0 : Kd.C k148 w A0 l0.length l0) (hc0 : l0.length ≤ c0) (h : laws_toEdgeS.f k l0 = some r) :
    Calls Try.prog 84 #[.slice A0 l0.length c0] w fun e w'=>∃ v0_ : Value,e = .returned (v0_) ∧ Kd.R k36 36 w' w.heap.size (fun _=>True) v0_ r ∧ Below w.heap.size w w':=by
  have hu148:=Try.underlying148
  have hu36:=Try.underlying36
  have HR0:=qn.mk hr0
  have HC0:=qn.mk hc0
  clear hr0 hc0
  have HB:=qn.mk (Below.refl w.heap.size w)
  have H : (if 0 ≤ (l0.length : Int) then (if ((l0.length : Int) : Int).toNat ≤ 7036874417766 then (laws_toEdgeS.l0 k l0 (List.replicate ((l0.length : Int) : Int).toNat z36) 0) else (none)) else (none)) = some r:=h
  clear h
  by_cases c2 : 0 ≤ (l0.length : Int)
  · rw [if_pos c2] at H
    have c2b0:=eq_true c2
    have c2b1 : decide (0 ≤ (l0.length : Int)) = true:=decide_eq_true c2
    clear c2
    by_cases c3 : ((l0.length : Int) : Int).toNat ≤ 7036874417766
    · rw [if_pos c3] at H
      have c3b0:=eq_true c3
      have c3b1 : decide (((l0.length : Int) : Int).toNat ≤ 7036874417766) = true:=decide_eq_true c3
      clear c3
      obtain ⟨y106,hy106⟩ : ∃ y_ : List (S36),y_ = (List.replicate ((l0.length : Int) : Int).toNat z36):=⟨_,rfl⟩
      replace H : (laws_toEdgeS.l0 k l0 y106 0) = some r:=by first|(rw [hy106];with_reducible exact H)|(have H2_:=(Option.bind_some _ _).symm.trans H;rw [hy106];with_reducible exact H2_)|(have H2_:=(Option.bind_some _ _).symm.trans H;with_reducible exact H2_)|with_reducible exact H|(rw [hy106];exact H)|exact H
      have Ny106:=qn.mk hy106
      clear hy106
      have H':=qn.mk H
      clear H
      go_enter Try.func84,Try.ntmps84
      go_wp2_with (first|((with_reducible refine gate_dst (N:=7) rfl ?_);refine Kd.R_make k36 _ 36 rfl (N:=7) rfl 24 _ _ rfl (l0.length : Int) rfl rfl Try.underlying24 (.agg #[(.int .i64 0),(.int .i64 0),(.int .i64 0),(.int .i64 0),(.int .i64 0)]) 40 info36 rfl (by decide) (by omega) z36 (ok:=fun _=>True) (okp:=fun _=>True) (k36_mkM _ _ _ z36 ) (fun _ hk=>hk) trivial (of_decide_eq_true (by first|(with_reducible assumption)|assumption)) (Nat.le_trans (Nat.mul_le_mul_right _ (of_decide_eq_true (by first|(with_reducible assumption)|assumption) : (l0.length : Int).toNat ≤ 7036874417766)) (by omega)) (Below.refl _ _) (Nat.le_refl _) ?_;intro v107 w4 ho5 hb hg_ hnew_;clear hg_ hnew_;(first|rw [← Ny106.out] at ho5|(simp only [Int.reduceToNat] at ho5;rw [← Ny106.out] at ho5));have n0_:=qn.mk (Kd.R_lower ho5 (qj (by repeat (first|(with_reducible first|exact HB.out|apply qf|apply qa|apply qd)|exact HB.out))));have n1_:=hs_ HB hb;clear HB;have HO108:=n0_;have HB:=n1_;clear n0_ n1_;clear hb ho5))
      go_loopg [4] k (fun kq v4 w'=>∃ (x3_1 : List (S36)) (x4_1 : Int),v4 = .int .i64 x4_1 ∧ qn (laws_toEdgeS.l0 kq l0 x3_1 x4_1 = some r) ∧ qn (kq ≤ k) ∧ qn (Kd.R k36 36 w' w.heap.size (fun _=>True) v107 x3_1) ∧ qn (Below w.heap.size w w'))
      case atStart=>exact ⟨(y106),(0),(by first|rfl|(simp;done)|(simp [*];done)),H',⟨Nat.le_refl _⟩,⟨by (with_reducible repeat (first|apply Kd.R_alloc|apply Kd.R_drewN|apply Kd.R_drew));exact HO108.out⟩,⟨by repeat (first|(with_reducible first|exact HB.out|apply qf|apply qa|apply qd)|exact HB.out)⟩⟩
      case round =>
        clear H'
        try clear c2
        try clear c2b0
        try clear c2b1
        try clear p2
        try clear c3
        try clear c3b0
        try clear c3b1
        obtain ⟨x3_1,x4_1,rfl,HA,HK1,HO_3,HB⟩:=hrel
        cases gk with
        | zero=>exact absurd HA.out (by simp [laws_toEdgeS.l0])
        | succ k1 =>
          have H:=HA.out
          clear HA
          simp only [laws_toEdgeS.l0] at H
          by_cases c6 : x4_1 < (l0.length : Int)
          · rw [if_pos c6] at H
            have c6b0 : decide (x4_1 < (l0.length : Int)) = true:=decide_eq_true c6
            clear c6
            by_cases c7 : 0 ≤ x4_1
            · rw [if_pos c7] at H
              have c7b0 : decide (0 ≤ x4_1) = true:=decide_eq_true c7
              clear c7
              replace H:=Option.bind_eq_some_iff.mp H
              obtain ⟨⟨t110,t111,t112,t113,t114⟩,A80,H⟩:=H
              replace H : (if x4_1 < (x3_1.length : Int) then (laws_toEdgeS.l0 k1 l0 (x3_1.set (x4_1 : Int).toNat (⟨t110,t111,t112,t113,t114⟩ : S36)) (wrap64 (x4_1 + 1))) else (none)) = some r:=H
              have A8:=qn.mk A80
              clear A80
              by_cases c9 : x4_1 < (x3_1.length : Int)
              · rw [if_pos c9] at H
                have c9b0 : decide (x4_1 < (x3_1.length : Int)) = true:=decide_eq_true c9
                clear c9
                obtain ⟨y115,hy115⟩ : ∃ y_ : List (S36),y_ = (x3_1.set (x4_1 : Int).toNat (⟨t110,t111,t112,t113,t114⟩ : S36)):=⟨_,rfl⟩
                replace H : (laws_toEdgeS.l0 k1 l0 y115 (wrap64 (x4_1 + 1))) = some r:=by first|(rw [hy115];with_reducible exact H)|(have H2_:=(Option.bind_some _ _).symm.trans H;rw [hy115];with_reducible exact H2_)|(have H2_:=(Option.bind_some _ _).symm.trans H;with_reducible exact H2_)|with_reducible exact H|(rw [hy115];exact H)|exact H
                have Ny115:=qn.mk hy115
                clear hy115
                have H':=qn.mk H
                clear H
                have p109 : 0 ≤ (x4_1 : Int):=of_decide_eq_true (by first|(with_reducible assumption)|assumption)
                have q109 : x4_1 < (l0.length : Int):=of_decide_eq_true (by first|(with_reducible assumption)|assumption)
                obtain ⟨ad109,e109,hx109_0,hx109_1,hx109_2,hx109_3,hx109_4⟩:=at_T148 HR0.out x4_1 p109 q109
                cases e109
                replace hx109_0:=cb_ HB hx109_0
                replace hx109_1:=cb_ HB hx109_1
                replace hx109_2:=cb_ HB hx109_2
                replace hx109_3:=cb_ HB hx109_3
                replace hx109_4:=cb_ HB hx109_4
                replace p109:=eq_true p109
                replace q109:=eq_true q109
                go_wp2_with (first|((with_reducible refine gate_callee (f:=117) rfl ?_);refine goesL_ (some 20) rfl rfl Try.func117 (by kernel_rfl) rfl #[.agg #[.int .i64 ((rd_T148 l0 x4_1).f0),.int .i64 ((rd_T148 l0 x4_1).f1),.int .i64 ((rd_T148 l0 x4_1).f2),.int .i64 ((rd_T148 l0 x4_1).f3),.int .i64 ((rd_T148 l0 x4_1).f4)]] rfl (by (try simp only [List.map_toArray,List.map_cons,List.map_nil]);first|done|rfl|(simp only [List.length_drop,List.length_take];rfl)) ?_;(with_reducible refine (laws_toEdge.calls ((rd_T148 l0 x4_1).f0) ((rd_T148 l0 x4_1).f1) ((rd_T148 l0 x4_1).f2) ((rd_T148 l0 x4_1).f3) ((rd_T148 l0 x4_1).f4) t110 t111 t112 t113 t114 _ A8.out).mono ?_);rintro e w11 ⟨rfl,hb⟩;refine ⟨_,rfl,?_⟩;have n0_:=rb_ HO_3 hb;have n1_:=hs_ HB hb;clear HO_3;clear HB;have HO_3:=n0_;have HB:=n1_;clear n0_ n1_;(try clear hb);(try clear hb2);(try clear hk);(try clear hi);have p10 : 0 ≤ (x4_1 : Int):=of_decide_eq_true (by first|(with_reducible assumption)|assumption);have q10 : (x4_1 : Int) < ((x3_1.length : Int) : Int):=of_decide_eq_true (by first|(with_reducible assumption)|assumption);obtain ⟨go10,co10,eo10,gb10,gl10,cl10,HG10⟩:=Kd.R_form HO_3.out (by omega);(first|cases eo10|(injection eo10 with ea_ en_ ec_;(first|subst ea_|(injection ea_ with ea_;subst ea_));subst ec_;clear en_));have GB10:=qn.mk gb10;have GG10:=qn.mk HG10;clear gb10 gl10 HG10;obtain ⟨ce10,hcl10,hM10,hcc10,hfr10⟩:=Kd.R_elem HO_3.out z36 (x4_1 : Int) p10 q10;obtain rfl:=k36_openM hM10;have hx10_0 : w11.cell? ⟨go10,(x4_1 : Int).toNat * 5,none⟩ = some (.int .i64 ((rd_T36 x3_1 x4_1).f0)):=hcc10 0 _ rfl;have hx10_1 : w11.cell? ⟨go10,(x4_1 : Int).toNat * 5 + 1,none⟩ = some (.int .i64 ((rd_T36 x3_1 x4_1).f1)):=hcc10 1 _ rfl;have hx10_2 : w11.cell? ⟨go10,(x4_1 : Int).toNat * 5 + 2,none⟩ = some (.int .i64 ((rd_T36 x3_1 x4_1).f2)):=hcc10 2 _ rfl;have hx10_3 : w11.cell? ⟨go10,(x4_1 : Int).toNat * 5 + 3,none⟩ = some (.int .i64 ((rd_T36 x3_1 x4_1).f3)):=hcc10 3 _ rfl;have hx10_4 : w11.cell? ⟨go10,(x4_1 : Int).toNat * 5 + 4,none⟩ = some (.int .i64 ((rd_T36 x3_1 x4_1).f4)):=hcc10 4 _ rfl;have hf10_0 : w11.frozen? ⟨go10,(x4_1 : Int).toNat * 5,none⟩ = false:=hfr10 0;have hf10_1 : w11.frozen? ⟨go10,(x4_1 : Int).toNat * 5 + 1,none⟩ = false:=hfr10 1;have hf10_2 : w11.frozen? ⟨go10,(x4_1 : Int).toNat * 5 + 2,none⟩ = false:=hfr10 2;have hf10_3 : w11.frozen? ⟨go10,(x4_1 : Int).toNat * 5 + 3,none⟩ = false:=hfr10 3;have hf10_4 : w11.frozen? ⟨go10,(x4_1 : Int).toNat * 5 + 4,none⟩ = false:=hfr10 4;clear hcl10 hcc10 hfr10 hM10;replace p10:=eq_true p10;replace q10:=eq_true q10;have HX12:=qn.mk (show Kd.R k36 36 w11 w.heap.size (fun _=>True) (.slice (some ⟨go10,0,none⟩) x3_1.length co10) x3_1 from (by (with_reducible repeat (first|apply Kd.R_alloc|apply Kd.R_drewN|apply Kd.R_drew));exact HO_3.out));obtain ⟨ce12,hcl12,hM12,hcc12,hfr12⟩:=Kd.R_elem HX12.out z36 (x4_1 : Int) (of_decide_eq_true (by first|(with_reducible assumption)|assumption)) (by have h_ : (x4_1 : Int) < ((x3_1.length : Int) : Int):=of_decide_eq_true (by first|(with_reducible assumption)|assumption);first|exact h_|(have e_:=(Kd.R_reads' HO_3.out).1;omega)|simpa using h_);obtain rfl:=k36_openM hM12;have HP12:=Kd.R_seg HX12.out (x4_1 : Int) (of_decide_eq_true (by first|(with_reducible assumption)|assumption)) (by have h_ : (x4_1 : Int) < ((x3_1.length : Int) : Int):=of_decide_eq_true (by first|(with_reducible assumption)|assumption);first|exact h_|(have e_:=(Kd.R_reads' HO_3.out).1;omega)|simpa using h_) (seg:=[.int .i64 t110,.int .i64 t111,.int .i64 t112,.int .i64 t113,.int .i64 t114]) (j:=0) hcl12 hcc12 (show 5 ≤ 5 from by decide) (x':=(⟨t110,t111,t112,t113,t114⟩ : S36)) (k36_mkM _ _ _ (⟨t110,t111,t112,t113,t114⟩ : S36) ) (fun _ hk=>hk);have hx12_0:=hcc12 0 _ rfl;(try simp only [show (k36).sz = 5 from rfl,Nat.mul_one,Nat.add_zero] at hx12_0);have hf12_0:=hfr12 0;(try simp only [show (k36).sz = 5 from rfl,Nat.mul_one,Nat.add_zero] at hf12_0);have hx12_1:=hcc12 1 _ rfl;(try simp only [show (k36).sz = 5 from rfl,Nat.mul_one,Nat.add_zero] at hx12_1);have hf12_1:=hfr12 1;(try simp only [show (k36).sz = 5 from rfl,Nat.mul_one,Nat.add_zero] at hf12_1);have hx12_2:=hcc12 2 _ rfl;(try simp only [show (k36).sz = 5 from rfl,Nat.mul_one,Nat.add_zero] at hx12_2);have hf12_2:=hfr12 2;(try simp only [show (k36).sz = 5 from rfl,Nat.mul_one,Nat.add_zero] at hf12_2);have hx12_3:=hcc12 3 _ rfl;(try simp only [show (k36).sz = 5 from rfl,Nat.mul_one,Nat.add_zero] at hx12_3);have hf12_3:=hfr12 3;(try simp only [show (k36).sz = 5 from rfl,Nat.mul_one,Nat.add_zero] at hf12_3);have hx12_4:=hcc12 4 _ rfl;(try simp only [show (k36).sz = 5 from rfl,Nat.mul_one,Nat.add_zero] at hx12_4);have hf12_4:=hfr12 4;(try simp only [show (k36).sz = 5 from rfl,Nat.mul_one,Nat.add_zero] at hf12_4);clear hcl12 hcc12 hfr12 hM12)|((with_reducible refine gate_store (t:=36) (p:=21) rfl ?_);refine store_event (t:=36) (p:=21) (v:=?vo_w13) (w1:=(((((w11.setCell ⟨go10,(x4_1 : Int).toNat * 5,none⟩ (.int .i64 t110)).setCell ⟨go10,(x4_1 : Int).toNat * 5 + 1,none⟩ (.int .i64 t111)).setCell ⟨go10,(x4_1 : Int).toNat * 5 + 2,none⟩ (.int .i64 t112)).setCell ⟨go10,(x4_1 : Int).toNat * 5 + 3,none⟩ (.int .i64 t113)).setCell ⟨go10,(x4_1 : Int).toNat * 5 + 4,none⟩ (.int .i64 t114))) ?hg ?ho ?hn ?hr ?_;(case ho=>rfl);(case hg=>rfl);(case hn=>rfl);(case hr=>first|(go_simp;done)|(go_simp;rfl));intro w13 hw;have hg : w11.grownBy w13 (some go10):=(by rw [hw];exact HP12.2);have hp_ : Kd.R k36 36 w13 w.heap.size (fun _=>True) (.slice (some ⟨go10,0,none⟩) x3_1.length co10) y115:=(by rw [hw,Ny115.out];exact HP12.1);clear HP12;have n0_:=qn.mk (hp_);have n1_:=qn.mk ((by rw [hw];exact qg (qg (qg (qg (qg (HB.out) GB10.out) GB10.out) GB10.out) GB10.out) GB10.out : Below w.heap.size w w13));clear HO_3;clear HB;have HO_3:=n0_;have HB:=n1_;clear n0_ n1_;clear hg hw hp_))
                go_roundg k1
                case measure=>have:=HK1.out;omega
                case rel=>exact ⟨(y115),(wrap64 (x4_1 + 1)),(by first|rfl|(simp;done)|(simp [*];done)),H',⟨by have:=HK1.out;omega⟩,⟨by (with_reducible repeat (first|apply Kd.R_alloc|apply Kd.R_drewN|apply Kd.R_drew));exact HO_3.out⟩,⟨by repeat (first|(with_reducible first|exact HB.out|apply qf|apply qa|apply qd)|exact HB.out)⟩⟩
              · rw [if_neg c9] at H
                exact absurd H (by simp)
            · rw [if_neg c7] at H
              exact absurd H (by simp)
          · rw [if_neg c6] at H
            have c6b0 : decide (x4_1 < (l0.length : Int)) = false:=decide_eq_false c6
            clear c6
            obtain rfl:=Option.some.inj H
            go_wp2
            go_ret
            exact ⟨_,by first|rfl|(simp [errW_none,errW_some] <;> rfl)|(simp [*,errW_none,errW_some] <;> rfl),by (with_reducible repeat (first|apply Kd.R_alloc|apply Kd.R_drewN|apply Kd.R_drew));exact HO_3.out,by repeat (first|(with_reducible first|exact HB.out|apply qf|apply qa|apply qd)|exact HB.out)⟩
    · rw [if_neg c3] at H
      exact absurd H (by simp)
  · rw [if_neg c2] at H
    exact absurd H (by simp)

/-! ### laws_toGraph: function 35 -/
def laws_toGraph.f (k : Nat) (a0_0 : Int) (l0_1 : List (S148)) : Option (Int × (List (S36))):=(laws_toEdgeS.f k l0_1).bind fun t119=>(some (a0_0,t119))
theorem laws_toGraph.mono : ∀ a0 a1 k,LeO (laws_toGraph.f k a0 a1) (laws_toGraph.f (k + 1) a0 a1):=by
  intro a0 a1 k
  unfold laws_toGraph.f
  repeat' first
      | (with_reducible exact laws_toEdgeS.mono _ _)
      | (with_reducible exact LeO.refl _)
      | (with_reducible exact LeO.none _)
      | (with_reducible refine LeO.ite ?_ ?_)
      | (with_reducible refine LeO.bind ?_ (fun _=>?_))
      | exact laws_toEdgeS.mono _ _
      | exact LeO.none _
      | refine LeO.ite ?_ ?_
      | refine LeO.bind ?_ (fun _=>?_)
set_option maxHeartbeats 8000000 in
set_option maxRecDepth 100000 in
theorem laws_toGraph.calls (k : Nat) (a0_0 : Int) (A0_1 : Option Addr) (c0_1 : Nat) (l0_1 : List (S148)) (r1 : Int) (r2 : List (S36)) (w : World) (hr0_1 : Kd.C k148 w A0_1 l0_1.length l0_1) (hc0_1 : l0_1.length ≤ c0_1) (h : laws_toGraph.f k a0_0 l0_1 = some (r1,r2)) :
    Calls Try.prog 35 #[.agg #[.int .i64 a0_0,.slice A0_1 l0_1.length c0_1]] w fun e w'=>∃ v1_ : Value,e = .returned (.agg #[.int .i64 r1,v1_]) ∧ Kd.R k36 36 w' w.heap.size (fun _=>True) v1_ r2 ∧ Below w.heap.size w w':=by
  have hu65:=Try.underlying65
  have hu26:=Try.underlying26
  have HR0_1:=qn.mk hr0_1
  have HC0_1:=qn.mk hc0_1
  clear hr0_1 hc0_1
  have HB:=qn.mk (Below.refl w.heap.size w)
  have H : ((laws_toEdgeS.f k l0_1).bind fun t119=>(some (a0_0,t119))) = some (r1,r2):=h
  clear h
  replace H:=Option.bind_eq_some_iff.mp H
  obtain ⟨t119,A20,H⟩:=H
  replace H : (some (a0_0,t119)) = some (r1,r2):=H
  have A2:=qn.mk A20
  clear A20
  simp only [Option.some.injEq,Prod.mk.injEq] at H
  obtain ⟨rfl,rfl⟩:=H
  go_enter Try.func35,Try.ntmps35
  go_wp2_with (first|((with_reducible refine gate_dst (N:=1) rfl ?_);refine box_event ?hg (N:=1) ?hd (cs:=#[.int .i64 a0_0,.slice A0_1 l0_1.length c0_1]) (t:=65) ?hr ?_;(case hd=>rfl);(case hg=>rfl);(case hr=>first|(go_simp;done)|(go_simp;rfl));intro gb116 hg w3 hbox hb;have n0_:=hs_ HB hb;have n1_:=qn.mk (hbox);have n2_:=qn.mk ((by rw [hg];exact (qj (by repeat (first|(with_reducible first|exact HB.out|apply qf|apply qa|apply qd)|exact HB.out))) : w.heap.size ≤ gb116));have n3_:=qn.mk ((by rw [hg];exact (qj (by repeat (first|(with_reducible first|exact HB.out|apply qf|apply qa|apply qd)|exact HB.out))) : w.heap.size ≤ gb116));clear HB;have HB:=n0_;have BK116:=n1_;have GW116:=n2_;have GE116:=n3_;clear n0_ n1_ n2_ n3_;clear hb hbox hg)|((with_reducible refine gate_dst (N:=2) rfl ?_);refine box_event ?hg (N:=2) ?hd (cs:=#[.int .i64 0,.slice none 0 0]) (t:=26) ?hr ?_;(case hd=>rfl);(case hg=>rfl);(case hr=>first|(go_simp;done)|(go_simp;rfl));intro gb117 hg w4 hbox hb;have n0_:=bb_ BK116 hb;have n1_:=hs_ HB hb;have n2_:=qn.mk (hbox);have n3_:=qn.mk ((by rw [hg];exact (qj (by repeat (first|(with_reducible first|exact HB.out|apply qf|apply qa|apply qd|refine qg ?_ GE116.out)|exact HB.out))) : w.heap.size ≤ gb117));have n4_:=qn.mk ((by rw [hg];exact (qj (by repeat (first|(with_reducible first|exact HB.out|apply qf|apply qa|apply qd|refine qg ?_ GE116.out)|exact HB.out))) : w.heap.size ≤ gb117));have n5_:=qn.mk ((by rw [hg];exact nl_ BK116 : gb116 ≠ gb117));have n6_:=qn.mk ((by rw [hg];exact ng_ BK116 : gb117 ≠ gb116));clear BK116;clear HB;have BK116:=n0_;have HB:=n1_;have BK117:=n2_;have GW117:=n3_;have GE117:=n4_;have NB116_117:=n5_;have NB117_116:=n6_;clear n0_ n1_ n2_ n3_ n4_ n5_ n6_;clear hb hbox hg)|((with_reducible refine gate_dst (N:=3) rfl ?_);refine box_event ?hg (N:=3) ?hd (cs:=#[.int .i64 0,.slice none 0 0]) (t:=26) ?hr ?_;(case hd=>rfl);(case hg=>rfl);(case hr=>first|(go_simp;done)|(go_simp;rfl));intro gb118 hg w5 hbox hb;have n0_:=bb_ BK116 hb;have n1_:=bb_ BK117 hb;have n2_:=hs_ HB hb;have n3_:=qn.mk (hbox);have n4_:=qn.mk ((by rw [hg];exact (qj (by repeat (first|(with_reducible first|exact HB.out|apply qf|apply qa|apply qd|refine qg ?_ GE116.out|refine qg ?_ GE117.out)|exact HB.out))) : w.heap.size ≤ gb118));have n5_:=qn.mk ((by rw [hg];exact (qj (by repeat (first|(with_reducible first|exact HB.out|apply qf|apply qa|apply qd|refine qg ?_ GE116.out|refine qg ?_ GE117.out)|exact HB.out))) : w.heap.size ≤ gb118));have n6_:=qn.mk ((by rw [hg];exact nl_ BK116 : gb116 ≠ gb118));have n7_:=qn.mk ((by rw [hg];exact ng_ BK116 : gb118 ≠ gb116));have n8_:=qn.mk ((by rw [hg];exact nl_ BK117 : gb117 ≠ gb118));have n9_:=qn.mk ((by rw [hg];exact ng_ BK117 : gb118 ≠ gb117));clear BK116;clear BK117;clear HB;have BK116:=n0_;have BK117:=n1_;have HB:=n2_;have BK118:=n3_;have GW118:=n4_;have GE118:=n5_;have NB116_118:=n6_;have NB118_116:=n7_;have NB117_118:=n8_;have NB118_117:=n9_;clear n0_ n1_ n2_ n3_ n4_ n5_ n6_ n7_ n8_ n9_;clear hb hbox hg;have hnb6:=NB116_117.out;have hnc6:=NB117_116.out;have hnb7:=NB116_118.out;have hnc7:=NB118_116.out;have hcz8_0 : w5.cell? ⟨gb116,0,none⟩ = some (.int .i64 a0_0):=(qh BK116.out 0).trans rfl;have hcz8_1 : w5.cell? ⟨gb116,1,none⟩ = some (.slice A0_1 l0_1.length c0_1):=(qh BK116.out 1).trans rfl;have hfz8_0:=qi BK116.out 0;have hfz8_1:=qi BK116.out 1;have hnb9:=NB118_117.out;have hnc9:=NB117_118.out;have hcz10_0 : w5.cell? ⟨gb118,0,none⟩ = some (.int .i64 0):=(qh BK118.out 0).trans rfl;have hcz10_1 : w5.cell? ⟨gb118,1,none⟩ = some (.slice none 0 0):=(qh BK118.out 1).trans rfl;have hfz10_0:=qi BK118.out 0;have hfz10_1:=qi BK118.out 1)|((with_reducible refine gate_callee (f:=84) rfl ?_);refine goesL_ (some 9) rfl rfl Try.func84 (by kernel_rfl) rfl #[.slice A0_1 l0_1.length c0_1] rfl (by (try simp only [List.map_toArray,List.map_cons,List.map_nil]);first|done|rfl|(simp only [List.length_drop,List.length_take];rfl)) ?_;(with_reducible refine (laws_toEdgeS.calls k _ _ l0_1 t119 _ ?side1 ?side2 A2.out).mono ?_);(case side1=>exact Kd.C_below HR0_1.out (by repeat (first|(with_reducible first|exact HB.out|apply qf|apply qa|apply qd|refine qg ?_ GE116.out|refine qg ?_ GE117.out|refine qg ?_ GE118.out)|exact HB.out)));(case side2=>exact HC0_1.out);rintro e w11 ⟨v120,rfl,ho0,hb⟩;refine ⟨_,rfl,?_⟩;have n0_:=qn.mk (Kd.R_lower ho0 (qj (by repeat (first|(with_reducible first|exact HB.out|apply qf|apply qa|apply qd|refine qg ?_ GE116.out|refine qg ?_ GE117.out|refine qg ?_ GE118.out)|exact HB.out))));have n1_:=qn.mk (ql (g:=gb116) (o:=.cells #[.int .i64 a0_0,.slice A0_1 l0_1.length c0_1] 65 (0,0)) (by (with_reducible repeat (first|refine qb ?_ _|refine qe ?_|refine qc ?_ _));refine blk_far ?_ NB116_118.out _;(with_reducible repeat (first|refine qb ?_ _|refine qe ?_|refine qc ?_ _));exact BK116.out) hb);have n2_:=qn.mk (ql (g:=gb117) (o:=.cells #[.int .i64 0,.slice none 0 0] 26 (0,0)) (by (with_reducible repeat (first|refine qb ?_ _|refine qe ?_|refine qc ?_ _));refine blk_far ?_ NB117_118.out _;(with_reducible repeat (first|refine qb ?_ _|refine qe ?_|refine qc ?_ _));exact BK117.out) hb);have n3_:=qn.mk (ql (g:=gb118) (o:=.cells #[.int .i64 a0_0,.slice none 0 0] 26 (0,0)) (by (with_reducible repeat (first|refine qb ?_ _|refine qe ?_|refine qc ?_ _));refine blk_put (cs:=#[.int .i64 0,.slice none 0 0]) ?_ 0 _ rfl;(with_reducible repeat (first|refine qb ?_ _|refine qe ?_|refine qc ?_ _));exact BK118.out) hb);have n4_:=hs_ HB hb;clear BK116;clear BK117;clear BK118;clear HB;have HO121:=n0_;have BK116:=n1_;have BK117:=n2_;have BK118:=n3_;have HB:=n4_;clear n0_ n1_ n2_ n3_ n4_;(try clear hb);(try clear hb2);(try clear hk);(try clear hi);(try clear ho0);obtain ⟨Ao12,co12,eo12⟩:=Kd.R_slice HO121.out;subst eo12;have hcz13_0 : w11.cell? ⟨gb118,0,none⟩ = some (.int .i64 a0_0):=(qh BK118.out 0).trans rfl;have hcz13_1 : w11.cell? ⟨gb118,1,none⟩ = some (.slice none 0 0):=(qh BK118.out 1).trans rfl;have hfz13_0:=qi BK118.out 0;have hfz13_1:=qi BK118.out 1;have hcz14_0 : w11.cell? ⟨gb117,0,none⟩ = some (.int .i64 0):=(qh BK117.out 0).trans rfl;have hcz14_1 : w11.cell? ⟨gb117,1,none⟩ = some (.slice none 0 0):=(qh BK117.out 1).trans rfl;have hfz14_0:=qi BK117.out 0;have hfz14_1:=qi BK117.out 1))
  refine bodyPost_ret (results_cell_row rfl _ _ gb117 26 #[.int .i64 a0_0,.slice Ao12 t119.length co12] (0,0) _ rfl (by (with_reducible repeat (first|refine qb ?_ _|refine qe ?_|refine qc ?_ _));refine blk_put (cs:=#[.int .i64 a0_0,.slice none 0 0]) ?_ 1 _ rfl;(with_reducible repeat (first|refine qb ?_ _|refine qe ?_|refine qc ?_ _));refine blk_put (cs:=#[.int .i64 0,.slice none 0 0]) ?_ 0 _ rfl;(with_reducible repeat (first|refine qb ?_ _|refine qe ?_|refine qc ?_ _));refine blk_far ?_ NB117_118.out _;(with_reducible repeat (first|refine qb ?_ _|refine qe ?_|refine qc ?_ _));exact BK117.out) Try.underlying26 rfl (by kernel_rfl)) rfl ?_
  exact ⟨_,by first|rfl|(simp [errW_none,errW_some] <;> rfl)|(simp [*,errW_none,errW_some] <;> rfl),by (with_reducible repeat (first|apply Kd.R_alloc|apply Kd.R_drewN|apply Kd.R_drew));exact Kd.R_mono (Kd.R_far (p:=⟨gb117,1,none⟩) (Kd.R_far (p:=⟨gb117,0,none⟩) (Kd.R_far (p:=⟨gb118,1,none⟩) (Kd.R_types (Kd.R_types HO121.out BK118.out (by decide)) BK117.out (by decide)) (fun _ hk=>hk.1.2) (.slice Ao12 t119.length co12)) (fun _ hk=>hk.2) (.int .i64 a0_0)) (fun _ hk=>hk.2) (.slice Ao12 t119.length co12)) (fun _ hk=>trivial),by repeat (first|(with_reducible first|exact HB.out|apply qf|apply qa|apply qd|refine qg ?_ GE116.out|refine qg ?_ GE117.out|refine qg ?_ GE118.out)|exact HB.out)⟩

/-! ### laws_eqEdge: function 118 -/
def laws_eqEdge.f (a0_0 : Int) (a0_1 : Int) (a0_2 : Int) (a0_3 : Int) (a0_4 : Int) (a1_0 : Int) (a1_1 : Int) (a1_2 : Int) (a1_3 : Int) (a1_4 : Int) : Option (Bool):=if a0_0 = a1_0 then (if a0_1 = a1_1 then (if a0_2 = a1_2 then (if a0_3 = a1_3 then (if a0_4 = a1_4 then (some true) else (some false)) else (some false)) else (some false)) else (some false)) else (some false)
set_option maxHeartbeats 8000000 in
set_option maxRecDepth 100000 in
theorem laws_eqEdge.calls (a0_0 : Int) (a0_1 : Int) (a0_2 : Int) (a0_3 : Int) (a0_4 : Int) (a1_0 : Int) (a1_1 : Int) (a1_2 : Int) (a1_3 : Int) (a1_4 : Int) (r : Bool) (w : World) (h : laws_eqEdge.f a0_0 a0_1 a0_2 a0_3 a0_4 a1_0 a1_1 a1_2 a1_3 a1_4 = some r) :
    Calls Try.prog 118 #[.agg #[.int .i64 a0_0,.int .i64 a0_1,.int .i64 a0_2,.int .i64 a0_3,.int .i64 a0_4],.agg #[.int .i64 a1_0,.int .i64 a1_1,.int .i64 a1_2,.int .i64 a1_3,.int .i64 a1_4]] w fun e w'=>e = .returned (.bool r) ∧ Below w.heap.size w w':=by
  have hu36:=Try.underlying36
  have HB:=qn.mk (Below.refl w.heap.size w)
  have H : (if a0_0 = a1_0 then (if a0_1 = a1_1 then (if a0_2 = a1_2 then (if a0_3 = a1_3 then (if a0_4 = a1_4 then (some true) else (some false)) else (some false)) else (some false)) else (some false)) else (some false)) = some r:=h
  clear h
  by_cases c3 : a0_0 = a1_0
  · rw [if_pos c3] at H
    have c3b0 : (a0_0 == a1_0) = true:=beq_iff_eq.mpr c3
    have c3b1 : (a0_0 != a1_0) = false:=bne_eq_false_iff_eq.mpr c3
    clear c3
    by_cases c4 : a0_1 = a1_1
    · rw [if_pos c4] at H
      have c4b0 : (a0_1 == a1_1) = true:=beq_iff_eq.mpr c4
      have c4b1 : (a0_1 != a1_1) = false:=bne_eq_false_iff_eq.mpr c4
      clear c4
      by_cases c5 : a0_2 = a1_2
      · rw [if_pos c5] at H
        have c5b0 : (a0_2 == a1_2) = true:=beq_iff_eq.mpr c5
        have c5b1 : (a0_2 != a1_2) = false:=bne_eq_false_iff_eq.mpr c5
        clear c5
        by_cases c6 : a0_3 = a1_3
        · rw [if_pos c6] at H
          have c6b0 : (a0_3 == a1_3) = true:=beq_iff_eq.mpr c6
          have c6b1 : (a0_3 != a1_3) = false:=bne_eq_false_iff_eq.mpr c6
          clear c6
          by_cases c7 : a0_4 = a1_4
          · rw [if_pos c7] at H
            have c7b0 : (a0_4 == a1_4) = true:=beq_iff_eq.mpr c7
            have c7b1 : (a0_4 != a1_4) = false:=bne_eq_false_iff_eq.mpr c7
            clear c7
            obtain rfl:=Option.some.inj H
            go_enter Try.func118,Try.ntmps118
            go_wp2_with (first|((with_reducible refine gate_dst (N:=2) rfl ?_);refine box_event ?hg (N:=2) ?hd (cs:=#[.int .i64 a0_0,.int .i64 a0_1,.int .i64 a0_2,.int .i64 a0_3,.int .i64 a0_4]) (t:=36) ?hr ?_;(case hd=>rfl);(case hg=>rfl);(case hr=>first|(go_simp;done)|(go_simp;rfl));intro gb122 hg w8 hbox hb;have n0_:=hs_ HB hb;have n1_:=qn.mk (hbox);have n2_:=qn.mk ((by rw [hg];exact (qj (by repeat (first|(with_reducible first|exact HB.out|apply qf|apply qa|apply qd)|exact HB.out))) : w.heap.size ≤ gb122));have n3_:=qn.mk ((by rw [hg];exact (qj (by repeat (first|(with_reducible first|exact HB.out|apply qf|apply qa|apply qd)|exact HB.out))) : w.heap.size ≤ gb122));clear HB;have HB:=n0_;have BK122:=n1_;have GW122:=n2_;have GE122:=n3_;clear n0_ n1_ n2_ n3_;clear hb hbox hg)|((with_reducible refine gate_dst (N:=3) rfl ?_);refine box_event ?hg (N:=3) ?hd (cs:=#[.int .i64 a1_0,.int .i64 a1_1,.int .i64 a1_2,.int .i64 a1_3,.int .i64 a1_4]) (t:=36) ?hr ?_;(case hd=>rfl);(case hg=>rfl);(case hr=>first|(go_simp;done)|(go_simp;rfl));intro gb123 hg w9 hbox hb;have n0_:=bb_ BK122 hb;have n1_:=hs_ HB hb;have n2_:=qn.mk (hbox);have n3_:=qn.mk ((by rw [hg];exact (qj (by repeat (first|(with_reducible first|exact HB.out|apply qf|apply qa|apply qd|refine qg ?_ GE122.out)|exact HB.out))) : w.heap.size ≤ gb123));have n4_:=qn.mk ((by rw [hg];exact (qj (by repeat (first|(with_reducible first|exact HB.out|apply qf|apply qa|apply qd|refine qg ?_ GE122.out)|exact HB.out))) : w.heap.size ≤ gb123));have n5_:=qn.mk ((by rw [hg];exact nl_ BK122 : gb122 ≠ gb123));have n6_:=qn.mk ((by rw [hg];exact ng_ BK122 : gb123 ≠ gb122));clear BK122;clear HB;have BK122:=n0_;have HB:=n1_;have BK123:=n2_;have GW123:=n3_;have GE123:=n4_;have NB122_123:=n5_;have NB123_122:=n6_;clear n0_ n1_ n2_ n3_ n4_ n5_ n6_;clear hb hbox hg;have hnb10:=NB122_123.out;have hnc10:=NB123_122.out;have hcz11_0 : w9.cell? ⟨gb122,0,none⟩ = some (.int .i64 a0_0):=(qh BK122.out 0).trans rfl;have hcz11_1 : w9.cell? ⟨gb122,1,none⟩ = some (.int .i64 a0_1):=(qh BK122.out 1).trans rfl;have hcz11_2 : w9.cell? ⟨gb122,2,none⟩ = some (.int .i64 a0_2):=(qh BK122.out 2).trans rfl;have hcz11_3 : w9.cell? ⟨gb122,3,none⟩ = some (.int .i64 a0_3):=(qh BK122.out 3).trans rfl;have hcz11_4 : w9.cell? ⟨gb122,4,none⟩ = some (.int .i64 a0_4):=(qh BK122.out 4).trans rfl;have hfz11_0:=qi BK122.out 0;have hfz11_1:=qi BK122.out 1;have hfz11_2:=qi BK122.out 2;have hfz11_3:=qi BK122.out 3;have hfz11_4:=qi BK122.out 4;have hcz12_0 : w9.cell? ⟨gb123,0,none⟩ = some (.int .i64 a1_0):=(qh BK123.out 0).trans rfl;have hcz12_1 : w9.cell? ⟨gb123,1,none⟩ = some (.int .i64 a1_1):=(qh BK123.out 1).trans rfl;have hcz12_2 : w9.cell? ⟨gb123,2,none⟩ = some (.int .i64 a1_2):=(qh BK123.out 2).trans rfl;have hcz12_3 : w9.cell? ⟨gb123,3,none⟩ = some (.int .i64 a1_3):=(qh BK123.out 3).trans rfl;have hcz12_4 : w9.cell? ⟨gb123,4,none⟩ = some (.int .i64 a1_4):=(qh BK123.out 4).trans rfl;have hfz12_0:=qi BK123.out 0;have hfz12_1:=qi BK123.out 1;have hfz12_2:=qi BK123.out 2;have hfz12_3:=qi BK123.out 3;have hfz12_4:=qi BK123.out 4))
            go_ret
            exact ⟨by first|rfl|(simp [errW_none,errW_some] <;> rfl)|(simp [*,errW_none,errW_some] <;> rfl),by repeat (first|(with_reducible first|exact HB.out|apply qf|apply qa|apply qd|refine qg ?_ GE122.out|refine qg ?_ GE123.out)|exact HB.out)⟩
          · rw [if_neg c7] at H
            have c7b0 : (a0_4 == a1_4) = false:=beq_eq_false_iff_ne.mpr c7
            have c7b1 : (a0_4 != a1_4) = true:=bne_iff_ne.mpr c7
            obtain rfl:=Option.some.inj H
            go_enter Try.func118,Try.ntmps118
            go_wp2_with (first|((with_reducible refine gate_dst (N:=2) rfl ?_);refine box_event ?hg (N:=2) ?hd (cs:=#[.int .i64 a0_0,.int .i64 a0_1,.int .i64 a0_2,.int .i64 a0_3,.int .i64 a0_4]) (t:=36) ?hr ?_;(case hd=>rfl);(case hg=>rfl);(case hr=>first|(go_simp;done)|(go_simp;rfl));intro gb122 hg w13 hbox hb;have n0_:=hs_ HB hb;have n1_:=qn.mk (hbox);have n2_:=qn.mk ((by rw [hg];exact (qj (by repeat (first|(with_reducible first|exact HB.out|apply qf|apply qa|apply qd)|exact HB.out))) : w.heap.size ≤ gb122));have n3_:=qn.mk ((by rw [hg];exact (qj (by repeat (first|(with_reducible first|exact HB.out|apply qf|apply qa|apply qd)|exact HB.out))) : w.heap.size ≤ gb122));clear HB;have HB:=n0_;have BK122:=n1_;have GW122:=n2_;have GE122:=n3_;clear n0_ n1_ n2_ n3_;clear hb hbox hg)|((with_reducible refine gate_dst (N:=3) rfl ?_);refine box_event ?hg (N:=3) ?hd (cs:=#[.int .i64 a1_0,.int .i64 a1_1,.int .i64 a1_2,.int .i64 a1_3,.int .i64 a1_4]) (t:=36) ?hr ?_;(case hd=>rfl);(case hg=>rfl);(case hr=>first|(go_simp;done)|(go_simp;rfl));intro gb123 hg w14 hbox hb;have n0_:=bb_ BK122 hb;have n1_:=hs_ HB hb;have n2_:=qn.mk (hbox);have n3_:=qn.mk ((by rw [hg];exact (qj (by repeat (first|(with_reducible first|exact HB.out|apply qf|apply qa|apply qd|refine qg ?_ GE122.out)|exact HB.out))) : w.heap.size ≤ gb123));have n4_:=qn.mk ((by rw [hg];exact (qj (by repeat (first|(with_reducible first|exact HB.out|apply qf|apply qa|apply qd|refine qg ?_ GE122.out)|exact HB.out))) : w.heap.size ≤ gb123));have n5_:=qn.mk ((by rw [hg];exact nl_ BK122 : gb122 ≠ gb123));have n6_:=qn.mk ((by rw [hg];exact ng_ BK122 : gb123 ≠ gb122));clear BK122;clear HB;have BK122:=n0_;have HB:=n1_;have BK123:=n2_;have GW123:=n3_;have GE123:=n4_;have NB122_123:=n5_;have NB123_122:=n6_;clear n0_ n1_ n2_ n3_ n4_ n5_ n6_;clear hb hbox hg;have hnb15:=NB122_123.out;have hnc15:=NB123_122.out;have hcz16_0 : w14.cell? ⟨gb122,0,none⟩ = some (.int .i64 a0_0):=(qh BK122.out 0).trans rfl;have hcz16_1 : w14.cell? ⟨gb122,1,none⟩ = some (.int .i64 a0_1):=(qh BK122.out 1).trans rfl;have hcz16_2 : w14.cell? ⟨gb122,2,none⟩ = some (.int .i64 a0_2):=(qh BK122.out 2).trans rfl;have hcz16_3 : w14.cell? ⟨gb122,3,none⟩ = some (.int .i64 a0_3):=(qh BK122.out 3).trans rfl;have hcz16_4 : w14.cell? ⟨gb122,4,none⟩ = some (.int .i64 a0_4):=(qh BK122.out 4).trans rfl;have hfz16_0:=qi BK122.out 0;have hfz16_1:=qi BK122.out 1;have hfz16_2:=qi BK122.out 2;have hfz16_3:=qi BK122.out 3;have hfz16_4:=qi BK122.out 4;have hcz17_0 : w14.cell? ⟨gb123,0,none⟩ = some (.int .i64 a1_0):=(qh BK123.out 0).trans rfl;have hcz17_1 : w14.cell? ⟨gb123,1,none⟩ = some (.int .i64 a1_1):=(qh BK123.out 1).trans rfl;have hcz17_2 : w14.cell? ⟨gb123,2,none⟩ = some (.int .i64 a1_2):=(qh BK123.out 2).trans rfl;have hcz17_3 : w14.cell? ⟨gb123,3,none⟩ = some (.int .i64 a1_3):=(qh BK123.out 3).trans rfl;have hcz17_4 : w14.cell? ⟨gb123,4,none⟩ = some (.int .i64 a1_4):=(qh BK123.out 4).trans rfl;have hfz17_0:=qi BK123.out 0;have hfz17_1:=qi BK123.out 1;have hfz17_2:=qi BK123.out 2;have hfz17_3:=qi BK123.out 3;have hfz17_4:=qi BK123.out 4))
            go_ret
            exact ⟨by first|rfl|(simp [errW_none,errW_some] <;> rfl)|(simp [*,errW_none,errW_some] <;> rfl),by repeat (first|(with_reducible first|exact HB.out|apply qf|apply qa|apply qd|refine qg ?_ GE122.out|refine qg ?_ GE123.out)|exact HB.out)⟩
        · rw [if_neg c6] at H
          have c6b0 : (a0_3 == a1_3) = false:=beq_eq_false_iff_ne.mpr c6
          have c6b1 : (a0_3 != a1_3) = true:=bne_iff_ne.mpr c6
          obtain rfl:=Option.some.inj H
          go_enter Try.func118,Try.ntmps118
          go_wp2_with (first|((with_reducible refine gate_dst (N:=2) rfl ?_);refine box_event ?hg (N:=2) ?hd (cs:=#[.int .i64 a0_0,.int .i64 a0_1,.int .i64 a0_2,.int .i64 a0_3,.int .i64 a0_4]) (t:=36) ?hr ?_;(case hd=>rfl);(case hg=>rfl);(case hr=>first|(go_simp;done)|(go_simp;rfl));intro gb122 hg w18 hbox hb;have n0_:=hs_ HB hb;have n1_:=qn.mk (hbox);have n2_:=qn.mk ((by rw [hg];exact (qj (by repeat (first|(with_reducible first|exact HB.out|apply qf|apply qa|apply qd)|exact HB.out))) : w.heap.size ≤ gb122));have n3_:=qn.mk ((by rw [hg];exact (qj (by repeat (first|(with_reducible first|exact HB.out|apply qf|apply qa|apply qd)|exact HB.out))) : w.heap.size ≤ gb122));clear HB;have HB:=n0_;have BK122:=n1_;have GW122:=n2_;have GE122:=n3_;clear n0_ n1_ n2_ n3_;clear hb hbox hg)|((with_reducible refine gate_dst (N:=3) rfl ?_);refine box_event ?hg (N:=3) ?hd (cs:=#[.int .i64 a1_0,.int .i64 a1_1,.int .i64 a1_2,.int .i64 a1_3,.int .i64 a1_4]) (t:=36) ?hr ?_;(case hd=>rfl);(case hg=>rfl);(case hr=>first|(go_simp;done)|(go_simp;rfl));intro gb123 hg w19 hbox hb;have n0_:=bb_ BK122 hb;have n1_:=hs_ HB hb;have n2_:=qn.mk (hbox);have n3_:=qn.mk ((by rw [hg];exact (qj (by repeat (first|(with_reducible first|exact HB.out|apply qf|apply qa|apply qd|refine qg ?_ GE122.out)|exact HB.out))) : w.heap.size ≤ gb123));have n4_:=qn.mk ((by rw [hg];exact (qj (by repeat (first|(with_reducible first|exact HB.out|apply qf|apply qa|apply qd|refine qg ?_ GE122.out)|exact HB.out))) : w.heap.size ≤ gb123));have n5_:=qn.mk ((by rw [hg];exact nl_ BK122 : gb122 ≠ gb123));have n6_:=qn.mk ((by rw [hg];exact ng_ BK122 : gb123 ≠ gb122));clear BK122;clear HB;have BK122:=n0_;have HB:=n1_;have BK123:=n2_;have GW123:=n3_;have GE123:=n4_;have NB122_123:=n5_;have NB123_122:=n6_;clear n0_ n1_ n2_ n3_ n4_ n5_ n6_;clear hb hbox hg;have hnb20:=NB122_123.out;have hnc20:=NB123_122.out;have hcz21_0 : w19.cell? ⟨gb122,0,none⟩ = some (.int .i64 a0_0):=(qh BK122.out 0).trans rfl;have hcz21_1 : w19.cell? ⟨gb122,1,none⟩ = some (.int .i64 a0_1):=(qh BK122.out 1).trans rfl;have hcz21_2 : w19.cell? ⟨gb122,2,none⟩ = some (.int .i64 a0_2):=(qh BK122.out 2).trans rfl;have hcz21_3 : w19.cell? ⟨gb122,3,none⟩ = some (.int .i64 a0_3):=(qh BK122.out 3).trans rfl;have hcz21_4 : w19.cell? ⟨gb122,4,none⟩ = some (.int .i64 a0_4):=(qh BK122.out 4).trans rfl;have hfz21_0:=qi BK122.out 0;have hfz21_1:=qi BK122.out 1;have hfz21_2:=qi BK122.out 2;have hfz21_3:=qi BK122.out 3;have hfz21_4:=qi BK122.out 4;have hcz22_0 : w19.cell? ⟨gb123,0,none⟩ = some (.int .i64 a1_0):=(qh BK123.out 0).trans rfl;have hcz22_1 : w19.cell? ⟨gb123,1,none⟩ = some (.int .i64 a1_1):=(qh BK123.out 1).trans rfl;have hcz22_2 : w19.cell? ⟨gb123,2,none⟩ = some (.int .i64 a1_2):=(qh BK123.out 2).trans rfl;have hcz22_3 : w19.cell? ⟨gb123,3,none⟩ = some (.int .i64 a1_3):=(qh BK123.out 3).trans rfl;have hcz22_4 : w19.cell? ⟨gb123,4,none⟩ = some (.int .i64 a1_4):=(qh BK123.out 4).trans rfl;have hfz22_0:=qi BK123.out 0;have hfz22_1:=qi BK123.out 1;have hfz22_2:=qi BK123.out 2;have hfz22_3:=qi BK123.out 3;have hfz22_4:=qi BK123.out 4))
          go_ret
          exact ⟨by first|rfl|(simp [errW_none,errW_some] <;> rfl)|(simp [*,errW_none,errW_some] <;> rfl),by repeat (first|(with_reducible first|exact HB.out|apply qf|apply qa|apply qd|refine qg ?_ GE122.out|refine qg ?_ GE123.out)|exact HB.out)⟩
      · rw [if_neg c5] at H
        have c5b0 : (a0_2 == a1_2) = false:=beq_eq_false_iff_ne.mpr c5
        have c5b1 : (a0_2 != a1_2) = true:=bne_iff_ne.mpr c5
        obtain rfl:=Option.some.inj H
        go_enter Try.func118,Try.ntmps118
        go_wp2_with (first|((with_reducible refine gate_dst (N:=2) rfl ?_);refine box_event ?hg (N:=2) ?hd (cs:=#[.int .i64 a0_0,.int .i64 a0_1,.int .i64 a0_2,.int .i64 a0_3,.int .i64 a0_4]) (t:=36) ?hr ?_;(case hd=>rfl);(case hg=>rfl);(case hr=>first|(go_simp;done)|(go_simp;rfl));intro gb122 hg w23 hbox hb;have n0_:=hs_ HB hb;have n1_:=qn.mk (hbox);have n2_:=qn.mk ((by rw [hg];exact (qj (by repeat (first|(with_reducible first|exact HB.out|apply qf|apply qa|apply qd)|exact HB.out))) : w.heap.size ≤ gb122));have n3_:=qn.mk ((by rw [hg];exact (qj (by repeat (first|(with_reducible first|exact HB.out|apply qf|apply qa|apply qd)|exact HB.out))) : w.heap.size ≤ gb122));clear HB;have HB:=n0_;have BK122:=n1_;have GW122:=n2_;have GE122:=n3_;clear n0_ n1_ n2_ n3_;clear hb hbox hg)|((with_reducible refine gate_dst (N:=3) rfl ?_);refine box_event ?hg (N:=3) ?hd (cs:=#[.int .i64 a1_0,.int .i64 a1_1,.int .i64 a1_2,.int .i64 a1_3,.int .i64 a1_4]) (t:=36) ?hr ?_;(case hd=>rfl);(case hg=>rfl);(case hr=>first|(go_simp;done)|(go_simp;rfl));intro gb123 hg w24 hbox hb;have n0_:=bb_ BK122 hb;have n1_:=hs_ HB hb;have n2_:=qn.mk (hbox);have n3_:=qn.mk ((by rw [hg];exact (qj (by repeat (first|(with_reducible first|exact HB.out|apply qf|apply qa|apply qd|refine qg ?_ GE122.out)|exact HB.out))) : w.heap.size ≤ gb123));have n4_:=qn.mk ((by rw [hg];exact (qj (by repeat (first|(with_reducible first|exact HB.out|apply qf|apply qa|apply qd|refine qg ?_ GE122.out)|exact HB.out))) : w.heap.size ≤ gb123));have n5_:=qn.mk ((by rw [hg];exact nl_ BK122 : gb122 ≠ gb123));have n6_:=qn.mk ((by rw [hg];exact ng_ BK122 : gb123 ≠ gb122));clear BK122;clear HB;have BK122:=n0_;have HB:=n1_;have BK123:=n2_;have GW123:=n3_;have GE123:=n4_;have NB122_123:=n5_;have NB123_122:=n6_;clear n0_ n1_ n2_ n3_ n4_ n5_ n6_;clear hb hbox hg;have hnb25:=NB122_123.out;have hnc25:=NB123_122.out;have hcz26_0 : w24.cell? ⟨gb122,0,none⟩ = some (.int .i64 a0_0):=(qh BK122.out 0).trans rfl;have hcz26_1 : w24.cell? ⟨gb122,1,none⟩ = some (.int .i64 a0_1):=(qh BK122.out 1).trans rfl;have hcz26_2 : w24.cell? ⟨gb122,2,none⟩ = some (.int .i64 a0_2):=(qh BK122.out 2).trans rfl;have hcz26_3 : w24.cell? ⟨gb122,3,none⟩ = some (.int .i64 a0_3):=(qh BK122.out 3).trans rfl;have hcz26_4 : w24.cell? ⟨gb122,4,none⟩ = some (.int .i64 a0_4):=(qh BK122.out 4).trans rfl;have hfz26_0:=qi BK122.out 0;have hfz26_1:=qi BK122.out 1;have hfz26_2:=qi BK122.out 2;have hfz26_3:=qi BK122.out 3;have hfz26_4:=qi BK122.out 4;have hcz27_0 : w24.cell? ⟨gb123,0,none⟩ = some (.int .i64 a1_0):=(qh BK123.out 0).trans rfl;have hcz27_1 : w24.cell? ⟨gb123,1,none⟩ = some (.int .i64 a1_1):=(qh BK123.out 1).trans rfl;have hcz27_2 : w24.cell? ⟨gb123,2,none⟩ = some (.int .i64 a1_2):=(qh BK123.out 2).trans rfl;have hcz27_3 : w24.cell? ⟨gb123,3,none⟩ = some (.int .i64 a1_3):=(qh BK123.out 3).trans rfl;have hcz27_4 : w24.cell? ⟨gb123,4,none⟩ = some (.int .i64 a1_4):=(qh BK123.out 4).trans rfl;have hfz27_0:=qi BK123.out 0;have hfz27_1:=qi BK123.out 1;have hfz27_2:=qi BK123.out 2;have hfz27_3:=qi BK123.out 3;have hfz27_4:=qi BK123.out 4))
        go_ret
        exact ⟨by first|rfl|(simp [errW_none,errW_some] <;> rfl)|(simp [*,errW_none,errW_some] <;> rfl),by repeat (first|(with_reducible first|exact HB.out|apply qf|apply qa|apply qd|refine qg ?_ GE122.out|refine qg ?_ GE123.out)|exact HB.out)⟩
    · rw [if_neg c4] at H
      have c4b0 : (a0_1 == a1_1) = false:=beq_eq_false_iff_ne.mpr c4
      have c4b1 : (a0_1 != a1_1) = true:=bne_iff_ne.mpr c4
      obtain rfl:=Option.some.inj H
      go_enter Try.func118,Try.ntmps118
      go_wp2_with (first|((with_reducible refine gate_dst (N:=2) rfl ?_);refine box_event ?hg (N:=2) ?hd (cs:=#[.int .i64 a0_0,.int .i64 a0_1,.int .i64 a0_2,.int .i64 a0_3,.int .i64 a0_4]) (t:=36) ?hr ?_;(case hd=>rfl);(case hg=>rfl);(case hr=>first|(go_simp;done)|(go_simp;rfl));intro gb122 hg w28 hbox hb;have n0_:=hs_ HB hb;have n1_:=qn.mk (hbox);have n2_:=qn.mk ((by rw [hg];exact (qj (by repeat (first|(with_reducible first|exact HB.out|apply qf|apply qa|apply qd)|exact HB.out))) : w.heap.size ≤ gb122));have n3_:=qn.mk ((by rw [hg];exact (qj (by repeat (first|(with_reducible first|exact HB.out|apply qf|apply qa|apply qd)|exact HB.out))) : w.heap.size ≤ gb122));clear HB;have HB:=n0_;have BK122:=n1_;have GW122:=n2_;have GE122:=n3_;clear n0_ n1_ n2_ n3_;clear hb hbox hg)|((with_reducible refine gate_dst (N:=3) rfl ?_);refine box_event ?hg (N:=3) ?hd (cs:=#[.int .i64 a1_0,.int .i64 a1_1,.int .i64 a1_2,.int .i64 a1_3,.int .i64 a1_4]) (t:=36) ?hr ?_;(case hd=>rfl);(case hg=>rfl);(case hr=>first|(go_simp;done)|(go_simp;rfl));intro gb123 hg w29 hbox hb;have n0_:=bb_ BK122 hb;have n1_:=hs_ HB hb;have n2_:=qn.mk (hbox);have n3_:=qn.mk ((by rw [hg];exact (qj (by repeat (first|(with_reducible first|exact HB.out|apply qf|apply qa|apply qd|refine qg ?_ GE122.out)|exact HB.out))) : w.heap.size ≤ gb123));have n4_:=qn.mk ((by rw [hg];exact (qj (by repeat (first|(with_reducible first|exact HB.out|apply qf|apply qa|apply qd|refine qg ?_ GE122.out)|exact HB.out))) : w.heap.size ≤ gb123));have n5_:=qn.mk ((by rw [hg];exact nl_ BK122 : gb122 ≠ gb123));have n6_:=qn.mk ((by rw [hg];exact ng_ BK122 : gb123 ≠ gb122));clear BK122;clear HB;have BK122:=n0_;have HB:=n1_;have BK123:=n2_;have GW123:=n3_;have GE123:=n4_;have NB122_123:=n5_;have NB123_122:=n6_;clear n0_ n1_ n2_ n3_ n4_ n5_ n6_;clear hb hbox hg;have hnb30:=NB122_123.out;have hnc30:=NB123_122.out;have hcz31_0 : w29.cell? ⟨gb122,0,none⟩ = some (.int .i64 a0_0):=(qh BK122.out 0).trans rfl;have hcz31_1 : w29.cell? ⟨gb122,1,none⟩ = some (.int .i64 a0_1):=(qh BK122.out 1).trans rfl;have hcz31_2 : w29.cell? ⟨gb122,2,none⟩ = some (.int .i64 a0_2):=(qh BK122.out 2).trans rfl;have hcz31_3 : w29.cell? ⟨gb122,3,none⟩ = some (.int .i64 a0_3):=(qh BK122.out 3).trans rfl;have hcz31_4 : w29.cell? ⟨gb122,4,none⟩ = some (.int .i64 a0_4):=(qh BK122.out 4).trans rfl;have hfz31_0:=qi BK122.out 0;have hfz31_1:=qi BK122.out 1;have hfz31_2:=qi BK122.out 2;have hfz31_3:=qi BK122.out 3;have hfz31_4:=qi BK122.out 4;have hcz32_0 : w29.cell? ⟨gb123,0,none⟩ = some (.int .i64 a1_0):=(qh BK123.out 0).trans rfl;have hcz32_1 : w29.cell? ⟨gb123,1,none⟩ = some (.int .i64 a1_1):=(qh BK123.out 1).trans rfl;have hcz32_2 : w29.cell? ⟨gb123,2,none⟩ = some (.int .i64 a1_2):=(qh BK123.out 2).trans rfl;have hcz32_3 : w29.cell? ⟨gb123,3,none⟩ = some (.int .i64 a1_3):=(qh BK123.out 3).trans rfl;have hcz32_4 : w29.cell? ⟨gb123,4,none⟩ = some (.int .i64 a1_4):=(qh BK123.out 4).trans rfl;have hfz32_0:=qi BK123.out 0;have hfz32_1:=qi BK123.out 1;have hfz32_2:=qi BK123.out 2;have hfz32_3:=qi BK123.out 3;have hfz32_4:=qi BK123.out 4))
      go_ret
      exact ⟨by first|rfl|(simp [errW_none,errW_some] <;> rfl)|(simp [*,errW_none,errW_some] <;> rfl),by repeat (first|(with_reducible first|exact HB.out|apply qf|apply qa|apply qd|refine qg ?_ GE122.out|refine qg ?_ GE123.out)|exact HB.out)⟩
  · rw [if_neg c3] at H
    have c3b0 : (a0_0 == a1_0) = false:=beq_eq_false_iff_ne.mpr c3
    have c3b1 : (a0_0 != a1_0) = true:=bne_iff_ne.mpr c3
    obtain rfl:=Option.some.inj H
    go_enter Try.func118,Try.ntmps118
    go_wp2_with (first|((with_reducible refine gate_dst (N:=2) rfl ?_);refine box_event ?hg (N:=2) ?hd (cs:=#[.int .i64 a0_0,.int .i64 a0_1,.int .i64 a0_2,.int .i64 a0_3,.int .i64 a0_4]) (t:=36) ?hr ?_;(case hd=>rfl);(case hg=>rfl);(case hr=>first|(go_simp;done)|(go_simp;rfl));intro gb122 hg w33 hbox hb;have n0_:=hs_ HB hb;have n1_:=qn.mk (hbox);have n2_:=qn.mk ((by rw [hg];exact (qj (by repeat (first|(with_reducible first|exact HB.out|apply qf|apply qa|apply qd)|exact HB.out))) : w.heap.size ≤ gb122));have n3_:=qn.mk ((by rw [hg];exact (qj (by repeat (first|(with_reducible first|exact HB.out|apply qf|apply qa|apply qd)|exact HB.out))) : w.heap.size ≤ gb122));clear HB;have HB:=n0_;have BK122:=n1_;have GW122:=n2_;have GE122:=n3_;clear n0_ n1_ n2_ n3_;clear hb hbox hg)|((with_reducible refine gate_dst (N:=3) rfl ?_);refine box_event ?hg (N:=3) ?hd (cs:=#[.int .i64 a1_0,.int .i64 a1_1,.int .i64 a1_2,.int .i64 a1_3,.int .i64 a1_4]) (t:=36) ?hr ?_;(case hd=>rfl);(case hg=>rfl);(case hr=>first|(go_simp;done)|(go_simp;rfl));intro gb123 hg w34 hbox hb;have n0_:=bb_ BK122 hb;have n1_:=hs_ HB hb;have n2_:=qn.mk (hbox);have n3_:=qn.mk ((by rw [hg];exact (qj (by repeat (first|(with_reducible first|exact HB.out|apply qf|apply qa|apply qd|refine qg ?_ GE122.out)|exact HB.out))) : w.heap.size ≤ gb123));have n4_:=qn.mk ((by rw [hg];exact (qj (by repeat (first|(with_reducible first|exact HB.out|apply qf|apply qa|apply qd|refine qg ?_ GE122.out)|exact HB.out))) : w.heap.size ≤ gb123));have n5_:=qn.mk ((by rw [hg];exact nl_ BK122 : gb122 ≠ gb123));have n6_:=qn.mk ((by rw [hg];exact ng_ BK122 : gb123 ≠ gb122));clear BK122;clear HB;have BK122:=n0_;have HB:=n1_;have BK123:=n2_;have GW123:=n3_;have GE123:=n4_;have NB122_123:=n5_;have NB123_122:=n6_;clear n0_ n1_ n2_ n3_ n4_ n5_ n6_;clear hb hbox hg;have hnb35:=NB122_123.out;have hnc35:=NB123_122.out;have hcz36_0 : w34.cell? ⟨gb122,0,none⟩ = some (.int .i64 a0_0):=(qh BK122.out 0).trans rfl;have hcz36_1 : w34.cell? ⟨gb122,1,none⟩ = some (.int .i64 a0_1):=(qh BK122.out 1).trans rfl;have hcz36_2 : w34.cell? ⟨gb122,2,none⟩ = some (.int .i64 a0_2):=(qh BK122.out 2).trans rfl;have hcz36_3 : w34.cell? ⟨gb122,3,none⟩ = some (.int .i64 a0_3):=(qh BK122.out 3).trans rfl;have hcz36_4 : w34.cell? ⟨gb122,4,none⟩ = some (.int .i64 a0_4):=(qh BK122.out 4).trans rfl;have hfz36_0:=qi BK122.out 0;have hfz36_1:=qi BK122.out 1;have hfz36_2:=qi BK122.out 2;have hfz36_3:=qi BK122.out 3;have hfz36_4:=qi BK122.out 4;have hcz37_0 : w34.cell? ⟨gb123,0,none⟩ = some (.int .i64 a1_0):=(qh BK123.out 0).trans rfl;have hcz37_1 : w34.cell? ⟨gb123,1,none⟩ = some (.int .i64 a1_1):=(qh BK123.out 1).trans rfl;have hcz37_2 : w34.cell? ⟨gb123,2,none⟩ = some (.int .i64 a1_2):=(qh BK123.out 2).trans rfl;have hcz37_3 : w34.cell? ⟨gb123,3,none⟩ = some (.int .i64 a1_3):=(qh BK123.out 3).trans rfl;have hcz37_4 : w34.cell? ⟨gb123,4,none⟩ = some (.int .i64 a1_4):=(qh BK123.out 4).trans rfl;have hfz37_0:=qi BK123.out 0;have hfz37_1:=qi BK123.out 1;have hfz37_2:=qi BK123.out 2;have hfz37_3:=qi BK123.out 3;have hfz37_4:=qi BK123.out 4))
    go_ret
    exact ⟨by first|rfl|(simp [errW_none,errW_some] <;> rfl)|(simp [*,errW_none,errW_some] <;> rfl),by repeat (first|(with_reducible first|exact HB.out|apply qf|apply qa|apply qd|refine qg ?_ GE122.out|refine qg ?_ GE123.out)|exact HB.out)⟩

/-! ### laws_eqEdgeS: function 87 -/
def laws_eqEdgeS.l0 : Nat → List (S36) → List (S36) → Int → Option (Bool)
  | 0,_,_,_=>none
  | k + 1,x0,x1,x5=>if x5 < (x0.length : Int) then (if 0 ≤ x5 then (if x5 < (x1.length : Int) then ((laws_eqEdge.f ((rd_T36 x0 x5).f0) ((rd_T36 x0 x5).f1) ((rd_T36 x0 x5).f2) ((rd_T36 x0 x5).f3) ((rd_T36 x0 x5).f4) ((rd_T36 x1 x5).f0) ((rd_T36 x1 x5).f1) ((rd_T36 x1 x5).f2) ((rd_T36 x1 x5).f3) ((rd_T36 x1 x5).f4)).bind fun t126=>(if t126 = true then (laws_eqEdgeS.l0 k x0 x1 (wrap64 (x5 + 1))) else (some false))) else (none)) else (none)) else (some true)
def laws_eqEdgeS.f (k : Nat) (l0 : List (S36)) (l1 : List (S36)) : Option (Bool):=if (l0.length : Int) = (l1.length : Int) then (laws_eqEdgeS.l0 k l0 l1 0) else (some false)
theorem laws_eqEdgeS.mono_l : ∀ k,(∀ y0 y1 y2,LeO (laws_eqEdgeS.l0 k y0 y1 y2) (laws_eqEdgeS.l0 (k + 1) y0 y1 y2))
  | 0=>fun _ _ _ r h=>by simp [laws_eqEdgeS.l0] at h
  | k + 1=>by
    have ih0:=laws_eqEdgeS.mono_l k
    · intro y0 y1 y2
      unfold laws_eqEdgeS.l0
      repeat' first
      | (with_reducible exact ih0 _ _ _)
      | (with_reducible exact LeO.refl _)
      | (with_reducible exact LeO.none _)
      | (with_reducible refine LeO.ite ?_ ?_)
      | (with_reducible refine LeO.bind ?_ (fun _=>?_))
      | exact ih0 _ _ _
      | exact LeO.none _
      | refine LeO.ite ?_ ?_
      | refine LeO.bind ?_ (fun _=>?_)
theorem laws_eqEdgeS.mono : ∀ a0 a1 k,LeO (laws_eqEdgeS.f k a0 a1) (laws_eqEdgeS.f (k + 1) a0 a1):=by
  intro a0 a1 k
  have ih0:=laws_eqEdgeS.mono_l k
  unfold laws_eqEdgeS.f
  repeat' first
      | (with_reducible exact ih0 _ _ _)
      | (with_reducible exact LeO.refl _)
      | (with_reducible exact LeO.none _)
      | (with_reducible refine LeO.ite ?_ ?_)
      | (with_reducible refine LeO.bind ?_ (fun _=>?_))
      | exact ih0 _ _ _
      | exact LeO.none _
      | refine LeO.ite ?_ ?_
      | refine LeO.bind ?_ (fun _=>?_)
def laws_eqEdgeS.T6 : Bool × List (List Nat × List Nat):=(true,[([],[]),([],[]),([0,1],[0,1]),([2],[2]),([],[]),([],[]),([4,5],[4,5]),([6],[6]),([3,7],[3,7]),([8],[8])])
def laws_eqEdgeS.B6 : List Nat:=[0,0,3,7,0,0,48,112,255,511]
theorem laws_eqEdgeS.tab6 : rtab .any (opsOf Try.f87 6) = laws_eqEdgeS.T6:=by kernel_rfl
theorem laws_eqEdgeS.bits6 : waitsOk laws_eqEdgeS.T6.2 laws_eqEdgeS.B6 = true:=by kernel_rfl
set_option maxHeartbeats 8000000 in
set_option maxRecDepth 100000 in
theorem laws_eqEdgeS.calls (k : Nat) (A0 : Option Addr) (c0 : Nat) (l0 : List (S36)) (A1 : Option Addr) (c1 : Nat) (l1 : List (S36)) (r : Bool) (w : World) (hr0 : Kd.C k36 w A0 l0.length l0) (hc0 : l0.length ≤ c0) (hr1 : Kd.C k36 w A1 l1.length l1) (hc1 : l1.length ≤ c1) (h : laws_eqEdgeS.f k l0 l1 = some r) :
    Calls Try.prog 87 #[.slice A0 l0.length c0,.slice A1 l1.length c1] w fun e w'=>e = .returned (.bool r) ∧ Below w.heap.size w w':=by
  have hu36:=Try.underlying36
  have HR0:=qn.mk hr0
  have HC0:=qn.mk hc0
  clear hr0 hc0
  have HR1:=qn.mk hr1
  have HC1:=qn.mk hc1
  clear hr1 hc1
  have HB:=qn.mk (Below.refl w.heap.size w)
  have H : (if (l0.length : Int) = (l1.length : Int) then (laws_eqEdgeS.l0 k l0 l1 0) else (some false)) = some r:=h
  clear h
  by_cases c3 : (l0.length : Int) = (l1.length : Int)
  · rw [if_pos c3] at H
    have c3b0 : ((l0.length : Int) == (l1.length : Int)) = true:=beq_iff_eq.mpr c3
    have c3b1 : ((l0.length : Int) != (l1.length : Int)) = false:=bne_eq_false_iff_eq.mpr c3
    have c3b2 : (l0.length == l1.length) = true:=by first|simpa using c3|(simp at c3 ⊢;omega)
    clear c3
    have H':=qn.mk H
    clear H
    go_enter Try.func87,Try.ntmps87
    go_wp2
    go_loopg [5] k (fun kq v5 w'=>∃ (x5_1 : Int),v5 = .int .i64 x5_1 ∧ qn (laws_eqEdgeS.l0 kq l0 l1 x5_1 = some r) ∧ qn (kq ≤ k) ∧ qn (Below w.heap.size w w'))
    case atStart=>exact ⟨(0),(by first|rfl|(simp;done)|(simp [*];done)),H',⟨Nat.le_refl _⟩,⟨by repeat (first|(with_reducible first|exact HB.out|apply qf|apply qa|apply qd)|exact HB.out)⟩⟩
    case round =>
      clear H'
      try clear c1
      try clear p2
      try clear c3
      try clear c3b0
      try clear c3b1
      try clear c3b2
      obtain ⟨x5_1,rfl,HA,HK1,HB⟩:=hrel
      cases gk with
      | zero=>exact absurd HA.out (by simp [laws_eqEdgeS.l0])
      | succ k1 =>
        have H:=HA.out
        clear HA
        simp only [laws_eqEdgeS.l0] at H
        by_cases c4 : x5_1 < (l0.length : Int)
        · rw [if_pos c4] at H
          have c4b0 : decide (x5_1 < (l0.length : Int)) = true:=decide_eq_true c4
          clear c4
          by_cases c5 : 0 ≤ x5_1
          · rw [if_pos c5] at H
            have c5b0 : decide (0 ≤ x5_1) = true:=decide_eq_true c5
            clear c5
            by_cases c6 : x5_1 < (l1.length : Int)
            · rw [if_pos c6] at H
              have c6b0 : decide (x5_1 < (l1.length : Int)) = true:=decide_eq_true c6
              clear c6
              replace H:=Option.bind_eq_some_iff.mp H
              obtain ⟨t126,A70,H⟩:=H
              replace H : (if t126 = true then (laws_eqEdgeS.l0 k1 l0 l1 (wrap64 (x5_1 + 1))) else (some false)) = some r:=H
              have A7:=qn.mk A70
              clear A70
              by_cases c8 : t126 = true
              · subst c8
                have H1 : (laws_eqEdgeS.l0 k1 l0 l1 (wrap64 (x5_1 + 1))) = some r:=by rw [if_pos rfl] at H;exact H
                clear H
                have H:=H1
                clear H1
                have H':=qn.mk H
                clear H
                try go_wp2
                have n0_:=qn.mk (qd HB.out)
                clear HB
                have HB:=n0_
                clear n0_
                have p124 : 0 ≤ (x5_1 : Int):=of_decide_eq_true (by first|(with_reducible assumption)|assumption)
                have q124 : x5_1 < (l0.length : Int):=of_decide_eq_true (by first|(with_reducible assumption)|assumption)
                obtain ⟨ad124,e124,hx124_0,hx124_1,hx124_2,hx124_3,hx124_4⟩:=at_T36 HR0.out x5_1 p124 q124
                have hw124_4:=hx124_4
                have hw124_3:=hx124_3
                have hw124_2:=hx124_2
                have hw124_1:=hx124_1
                have hw124_0:=hx124_0
                cases e124
                replace hx124_0:=cb_ HB hx124_0
                replace hx124_1:=cb_ HB hx124_1
                replace hx124_2:=cb_ HB hx124_2
                replace hx124_3:=cb_ HB hx124_3
                replace hx124_4:=cb_ HB hx124_4
                replace p124:=eq_true p124
                replace q124:=eq_true q124
                have p125 : 0 ≤ (x5_1 : Int):=of_decide_eq_true (by first|(with_reducible assumption)|assumption)
                have q125 : x5_1 < (l1.length : Int):=of_decide_eq_true (by first|(with_reducible assumption)|assumption)
                obtain ⟨ad125,e125,hx125_0,hx125_1,hx125_2,hx125_3,hx125_4⟩:=at_T36 HR1.out x5_1 p125 q125
                have hw125_4:=hx125_4
                have hw125_3:=hx125_3
                have hw125_2:=hx125_2
                have hw125_1:=hx125_1
                have hw125_0:=hx125_0
                cases e125
                replace hx125_0:=cb_ HB hx125_0
                replace hx125_1:=cb_ HB hx125_1
                replace hx125_2:=cb_ HB hx125_2
                replace hx125_3:=cb_ HB hx125_3
                replace hx125_4:=cb_ HB hx125_4
                replace p125:=eq_true p125
                replace q125:=eq_true q125
                refine start_ (n:=10) (S:=fun w'=>w'.cell? (ad124.add ((x5_1).toNat * 5)) = some (.int .i64 ((rd_T36 l0 x5_1).f0)) ∧ w'.cell? ⟨(ad124.add ((x5_1).toNat * 5)).block,(ad124.add ((x5_1).toNat * 5)).off + 1,none⟩ = some (.int .i64 ((rd_T36 l0 x5_1).f1)) ∧ w'.cell? ⟨(ad124.add ((x5_1).toNat * 5)).block,(ad124.add ((x5_1).toNat * 5)).off + 2,none⟩ = some (.int .i64 ((rd_T36 l0 x5_1).f2)) ∧ w'.cell? ⟨(ad124.add ((x5_1).toNat * 5)).block,(ad124.add ((x5_1).toNat * 5)).off + 3,none⟩ = some (.int .i64 ((rd_T36 l0 x5_1).f3)) ∧ w'.cell? ⟨(ad124.add ((x5_1).toNat * 5)).block,(ad124.add ((x5_1).toNat * 5)).off + 4,none⟩ = some (.int .i64 ((rd_T36 l0 x5_1).f4)) ∧ w'.cell? (ad125.add ((x5_1).toNat * 5)) = some (.int .i64 ((rd_T36 l1 x5_1).f0)) ∧ w'.cell? ⟨(ad125.add ((x5_1).toNat * 5)).block,(ad125.add ((x5_1).toNat * 5)).off + 1,none⟩ = some (.int .i64 ((rd_T36 l1 x5_1).f1)) ∧ w'.cell? ⟨(ad125.add ((x5_1).toNat * 5)).block,(ad125.add ((x5_1).toNat * 5)).off + 2,none⟩ = some (.int .i64 ((rd_T36 l1 x5_1).f2)) ∧ w'.cell? ⟨(ad125.add ((x5_1).toNat * 5)).block,(ad125.add ((x5_1).toNat * 5)).off + 3,none⟩ = some (.int .i64 ((rd_T36 l1 x5_1).f3)) ∧ w'.cell? ⟨(ad125.add ((x5_1).toNat * 5)).block,(ad125.add ((x5_1).toNat * 5)).off + 4,none⟩ = some (.int .i64 ((rd_T36 l1 x5_1).f4))) (ds:=[]) #[false,false,false,false,false,false,false,false,false,false] (by kernel_rfl) rfl rfl ⟨(cb_ HB hw124_0:),(cb_ HB hw124_1:),(cb_ HB hw124_2:),(cb_ HB hw124_3:),(cb_ HB hw124_4:),(cb_ HB hw125_0:),(cb_ HB hw125_1:),(cb_ HB hw125_2:),(cb_ HB hw125_3:),(cb_ HB hw125_4:)⟩ (fun hHeld=>?_);refine with_tabW laws_eqEdgeS.tab6 laws_eqEdgeS.bits6 (fun HT_ HW_=>?_)
                generalize wr.drew = w9 at HB hx124_0 hx124_1 hx124_2 hx124_3 hx124_4 hx125_0 hx125_1 hx125_2 hx125_3 hx125_4 hHeld ⊢
                refine pure_ (i:=0) (N:=some 17) (v:=?_) (a':=?_) #[true,false,false,false,false,false,false,false,false,false] rfl rfl (any_of HT_.out (by kernel_rfl)) (fun _ _ _ h=>h) (Or.inl ⟨by rfl,?_⟩) ?_ ?_
                rotate_left
                · intro w'
                  go_simp
                  with_reducible rfl
                rotate_left
                · simp only [Act.put,List.setIfInBounds_toArray,List.set_cons_zero,List.set_cons_succ,i64_w,i32_w]
                  rfl
                refine pure_ (i:=1) (N:=some 18) (v:=?_) (a':=?_) #[true,true,false,false,false,false,false,false,false,false] rfl rfl (any_of HT_.out (by kernel_rfl)) (fun _ _ _ h=>h) (Or.inl ⟨by rfl,?_⟩) ?_ ?_
                rotate_left
                · intro w'
                  go_simp
                  with_reducible rfl
                rotate_left
                · simp only [Act.put,List.setIfInBounds_toArray,List.set_cons_zero,List.set_cons_succ,i64_w,i32_w]
                  rfl
                refine pure_ (i:=2) (N:=some 19) (v:=?_) (a':=?_) #[true,true,true,false,false,false,false,false,false,false] rfl rfl (any_of HT_.out (by kernel_rfl)) (fun _ _ _ h=>h) (Or.inl ⟨by rfl,?_⟩) ?_ ?_
                rotate_left
                · intro w'
                  go_simp
                  with_reducible rfl
                rotate_left
                · simp only [Act.put,List.setIfInBounds_toArray,List.set_cons_zero,List.set_cons_succ,i64_w,i32_w]
                  rfl
                refine pure_ (i:=4) (N:=some 21) (v:=?_) (a':=?_) #[true,true,true,false,true,false,false,false,false,false] rfl rfl (any_of HT_.out (by kernel_rfl)) (fun _ _ _ h=>h) (Or.inl ⟨by rfl,?_⟩) ?_ ?_
                rotate_left
                · intro w'
                  go_simp
                  with_reducible rfl
                rotate_left
                · simp only [Act.put,List.setIfInBounds_toArray,List.set_cons_zero,List.set_cons_succ,i64_w,i32_w]
                  rfl
                refine pure_ (i:=5) (N:=some 22) (v:=?_) (a':=?_) #[true,true,true,false,true,true,false,false,false,false] rfl rfl (any_of HT_.out (by kernel_rfl)) (fun _ _ _ h=>h) (Or.inl ⟨by rfl,?_⟩) ?_ ?_
                rotate_left
                · intro w'
                  go_simp
                  with_reducible rfl
                rotate_left
                · simp only [Act.put,List.setIfInBounds_toArray,List.set_cons_zero,List.set_cons_succ,i64_w,i32_w]
                  rfl
                refine pure_ (i:=6) (N:=some 23) (v:=?_) (a':=?_) #[true,true,true,false,true,true,true,false,false,false] rfl rfl (any_of HT_.out (by kernel_rfl)) (fun _ _ _ h=>h) (Or.inl ⟨by rfl,?_⟩) ?_ ?_
                rotate_left
                · intro w'
                  go_simp
                  with_reducible rfl
                rotate_left
                · simp only [Act.put,List.setIfInBounds_toArray,List.set_cons_zero,List.set_cons_succ,i64_w,i32_w]
                  rfl
                refine take_ (i:=3) (N:=some 20) (v:=?_) (a':=?_) #[true,true,true,true,true,true,true,false,false,false] rfl rfl (take_ofW HT_.out HW_.out (by kernel_rfl)) (fun _ _ _ h=>h) (Or.inl ⟨by rfl,?_⟩) hHeld ?_ ?_
                rotate_left
                · rintro w' ⟨s0,s1,s2,s3,s4,s5,s6,s7,s8,s9⟩
                  go_simp
                  with_reducible rfl
                rotate_left
                · simp only [Act.put,List.setIfInBounds_toArray,List.set_cons_zero,List.set_cons_succ,i64_w,i32_w]
                  rfl
                refine take_ (i:=7) (N:=some 24) (v:=?_) (a':=?_) #[true,true,true,true,true,true,true,true,false,false] rfl rfl (take_ofW HT_.out HW_.out (by kernel_rfl)) (fun _ _ _ h=>h) (Or.inl ⟨by rfl,?_⟩) hHeld ?_ ?_
                rotate_left
                · rintro w' ⟨s0,s1,s2,s3,s4,s5,s6,s7,s8,s9⟩
                  go_simp
                  with_reducible rfl
                rotate_left
                · simp only [Act.put,List.setIfInBounds_toArray,List.set_cons_zero,List.set_cons_succ,i64_w,i32_w]
                  rfl
                refine one_ (i:=8) (N:=some 25) #[true,true,true,true,true,true,true,true,true,false] rfl rfl (one_of HT_.out (by kernel_rfl)) (by decide) (fun K hK=>?_)
                refine goes_ Try.func118 (by kernel_rfl) rfl #[.agg #[.int .i64 ((rd_T36 l0 x5_1).f0),.int .i64 ((rd_T36 l0 x5_1).f1),.int .i64 ((rd_T36 l0 x5_1).f2),.int .i64 ((rd_T36 l0 x5_1).f3),.int .i64 ((rd_T36 l0 x5_1).f4)],.agg #[.int .i64 ((rd_T36 l1 x5_1).f0),.int .i64 ((rd_T36 l1 x5_1).f1),.int .i64 ((rd_T36 l1 x5_1).f2),.int .i64 ((rd_T36 l1 x5_1).f3),.int .i64 ((rd_T36 l1 x5_1).f4)]] (by rfl) rfl rfl (by (try simp only [List.map_toArray,List.map_cons,List.map_nil]);first|done|rfl|(simp only [List.length_drop,List.length_take];rfl)) ?_
                with_reducible refine (laws_eqEdge.calls ((rd_T36 l0 x5_1).f0) ((rd_T36 l0 x5_1).f1) ((rd_T36 l0 x5_1).f2) ((rd_T36 l0 x5_1).f3) ((rd_T36 l0 x5_1).f4) ((rd_T36 l1 x5_1).f0) ((rd_T36 l1 x5_1).f1) ((rd_T36 l1 x5_1).f2) ((rd_T36 l1 x5_1).f3) ((rd_T36 l1 x5_1).f4) true _ A7.out).mono ?_
                rintro e w10 ⟨rfl,hb⟩
                refine ⟨_,rfl,?_⟩
                have n0_:=hs_ HB hb
                clear HB
                have HB:=n0_
                clear n0_
                (try clear hb)
                (try clear hb2)
                (try clear hk)
                (try clear hi)
                refine hK.out _ _ ⟨(cb_ HB hw124_0:),(cb_ HB hw124_1:),(cb_ HB hw124_2:),(cb_ HB hw124_3:),(cb_ HB hw124_4:),(cb_ HB hw125_0:),(cb_ HB hw125_1:),(cb_ HB hw125_2:),(cb_ HB hw125_3:),(cb_ HB hw125_4:)⟩ (fun hHeld=>?_)
                clear hK K
                refine norm_ (a':=?_) ?_ ?_
                rotate_left
                · show Act.put _ (some 25) _ = _
                  simp only [Act.put,List.setIfInBounds_toArray,List.set_cons_zero,List.set_cons_succ,i64_w,i32_w]
                  rfl
                refine pure_ (i:=9) (N:=some 26) (v:=?_) (a':=?_) #[true,true,true,true,true,true,true,true,true,true] rfl rfl (any_of HT_.out (by kernel_rfl)) (fun _ _ _ h=>h) (Or.inl ⟨by rfl,?_⟩) ?_ ?_
                rotate_left
                · intro w'
                  go_simp
                  with_reducible rfl
                rotate_left
                · simp only [Act.put,List.setIfInBounds_toArray,List.set_cons_zero,List.set_cons_succ,i64_w,i32_w]
                  rfl
                refine done_ (done_of HT_.out (by kernel_rfl)) ?_
                try go_wp2
                go_roundg k1
                case measure=>have:=HK1.out;omega
                case rel=>exact ⟨(wrap64 (x5_1 + 1)),(by first|rfl|(simp;done)|(simp [*];done)),H',⟨by have:=HK1.out;omega⟩,⟨by repeat (first|(with_reducible first|exact HB.out|apply qf|apply qa|apply qd)|exact HB.out)⟩⟩
              · replace c8:=Bool.eq_false_iff.mpr c8
                subst c8
                have H1 : (some false) = some r:=by rw [if_neg (show ¬ (false = true) by decide)] at H;exact H
                clear H
                have H:=H1
                clear H1
                obtain rfl:=Option.some.inj H
                try go_wp2
                have n0_:=qn.mk (qd HB.out)
                clear HB
                have HB:=n0_
                clear n0_
                have p124 : 0 ≤ (x5_1 : Int):=of_decide_eq_true (by first|(with_reducible assumption)|assumption)
                have q124 : x5_1 < (l0.length : Int):=of_decide_eq_true (by first|(with_reducible assumption)|assumption)
                obtain ⟨ad124,e124,hx124_0,hx124_1,hx124_2,hx124_3,hx124_4⟩:=at_T36 HR0.out x5_1 p124 q124
                have hw124_4:=hx124_4
                have hw124_3:=hx124_3
                have hw124_2:=hx124_2
                have hw124_1:=hx124_1
                have hw124_0:=hx124_0
                cases e124
                replace hx124_0:=cb_ HB hx124_0
                replace hx124_1:=cb_ HB hx124_1
                replace hx124_2:=cb_ HB hx124_2
                replace hx124_3:=cb_ HB hx124_3
                replace hx124_4:=cb_ HB hx124_4
                replace p124:=eq_true p124
                replace q124:=eq_true q124
                have p125 : 0 ≤ (x5_1 : Int):=of_decide_eq_true (by first|(with_reducible assumption)|assumption)
                have q125 : x5_1 < (l1.length : Int):=of_decide_eq_true (by first|(with_reducible assumption)|assumption)
                obtain ⟨ad125,e125,hx125_0,hx125_1,hx125_2,hx125_3,hx125_4⟩:=at_T36 HR1.out x5_1 p125 q125
                have hw125_4:=hx125_4
                have hw125_3:=hx125_3
                have hw125_2:=hx125_2
                have hw125_1:=hx125_1
                have hw125_0:=hx125_0
                cases e125
                replace hx125_0:=cb_ HB hx125_0
                replace hx125_1:=cb_ HB hx125_1
                replace hx125_2:=cb_ HB hx125_2
                replace hx125_3:=cb_ HB hx125_3
                replace hx125_4:=cb_ HB hx125_4
                replace p125:=eq_true p125
                replace q125:=eq_true q125
                refine start_ (n:=10) (S:=fun w'=>w'.cell? (ad124.add ((x5_1).toNat * 5)) = some (.int .i64 ((rd_T36 l0 x5_1).f0)) ∧ w'.cell? ⟨(ad124.add ((x5_1).toNat * 5)).block,(ad124.add ((x5_1).toNat * 5)).off + 1,none⟩ = some (.int .i64 ((rd_T36 l0 x5_1).f1)) ∧ w'.cell? ⟨(ad124.add ((x5_1).toNat * 5)).block,(ad124.add ((x5_1).toNat * 5)).off + 2,none⟩ = some (.int .i64 ((rd_T36 l0 x5_1).f2)) ∧ w'.cell? ⟨(ad124.add ((x5_1).toNat * 5)).block,(ad124.add ((x5_1).toNat * 5)).off + 3,none⟩ = some (.int .i64 ((rd_T36 l0 x5_1).f3)) ∧ w'.cell? ⟨(ad124.add ((x5_1).toNat * 5)).block,(ad124.add ((x5_1).toNat * 5)).off + 4,none⟩ = some (.int .i64 ((rd_T36 l0 x5_1).f4)) ∧ w'.cell? (ad125.add ((x5_1).toNat * 5)) = some (.int .i64 ((rd_T36 l1 x5_1).f0)) ∧ w'.cell? ⟨(ad125.add ((x5_1).toNat * 5)).block,(ad125.add ((x5_1).toNat * 5)).off + 1,none⟩ = some (.int .i64 ((rd_T36 l1 x5_1).f1)) ∧ w'.cell? ⟨(ad125.add ((x5_1).toNat * 5)).block,(ad125.add ((x5_1).toNat * 5)).off + 2,none⟩ = some (.int .i64 ((rd_T36 l1 x5_1).f2)) ∧ w'.cell? ⟨(ad125.add ((x5_1).toNat * 5)).block,(ad125.add ((x5_1).toNat * 5)).off + 3,none⟩ = some (.int .i64 ((rd_T36 l1 x5_1).f3)) ∧ w'.cell? ⟨(ad125.add ((x5_1).toNat * 5)).block,(ad125.add ((x5_1).toNat * 5)).off + 4,none⟩ = some (.int .i64 ((rd_T36 l1 x5_1).f4))) (ds:=[]) #[false,false,false,false,false,false,false,false,false,false] (by kernel_rfl) rfl rfl ⟨(cb_ HB hw124_0:),(cb_ HB hw124_1:),(cb_ HB hw124_2:),(cb_ HB hw124_3:),(cb_ HB hw124_4:),(cb_ HB hw125_0:),(cb_ HB hw125_1:),(cb_ HB hw125_2:),(cb_ HB hw125_3:),(cb_ HB hw125_4:)⟩ (fun hHeld=>?_);refine with_tabW laws_eqEdgeS.tab6 laws_eqEdgeS.bits6 (fun HT_ HW_=>?_)
                generalize wr.drew = w11 at HB hx124_0 hx124_1 hx124_2 hx124_3 hx124_4 hx125_0 hx125_1 hx125_2 hx125_3 hx125_4 hHeld ⊢
                refine pure_ (i:=0) (N:=some 17) (v:=?_) (a':=?_) #[true,false,false,false,false,false,false,false,false,false] rfl rfl (any_of HT_.out (by kernel_rfl)) (fun _ _ _ h=>h) (Or.inl ⟨by rfl,?_⟩) ?_ ?_
                rotate_left
                · intro w'
                  go_simp
                  with_reducible rfl
                rotate_left
                · simp only [Act.put,List.setIfInBounds_toArray,List.set_cons_zero,List.set_cons_succ,i64_w,i32_w]
                  rfl
                refine pure_ (i:=1) (N:=some 18) (v:=?_) (a':=?_) #[true,true,false,false,false,false,false,false,false,false] rfl rfl (any_of HT_.out (by kernel_rfl)) (fun _ _ _ h=>h) (Or.inl ⟨by rfl,?_⟩) ?_ ?_
                rotate_left
                · intro w'
                  go_simp
                  with_reducible rfl
                rotate_left
                · simp only [Act.put,List.setIfInBounds_toArray,List.set_cons_zero,List.set_cons_succ,i64_w,i32_w]
                  rfl
                refine pure_ (i:=2) (N:=some 19) (v:=?_) (a':=?_) #[true,true,true,false,false,false,false,false,false,false] rfl rfl (any_of HT_.out (by kernel_rfl)) (fun _ _ _ h=>h) (Or.inl ⟨by rfl,?_⟩) ?_ ?_
                rotate_left
                · intro w'
                  go_simp
                  with_reducible rfl
                rotate_left
                · simp only [Act.put,List.setIfInBounds_toArray,List.set_cons_zero,List.set_cons_succ,i64_w,i32_w]
                  rfl
                refine pure_ (i:=4) (N:=some 21) (v:=?_) (a':=?_) #[true,true,true,false,true,false,false,false,false,false] rfl rfl (any_of HT_.out (by kernel_rfl)) (fun _ _ _ h=>h) (Or.inl ⟨by rfl,?_⟩) ?_ ?_
                rotate_left
                · intro w'
                  go_simp
                  with_reducible rfl
                rotate_left
                · simp only [Act.put,List.setIfInBounds_toArray,List.set_cons_zero,List.set_cons_succ,i64_w,i32_w]
                  rfl
                refine pure_ (i:=5) (N:=some 22) (v:=?_) (a':=?_) #[true,true,true,false,true,true,false,false,false,false] rfl rfl (any_of HT_.out (by kernel_rfl)) (fun _ _ _ h=>h) (Or.inl ⟨by rfl,?_⟩) ?_ ?_
                rotate_left
                · intro w'
                  go_simp
                  with_reducible rfl
                rotate_left
                · simp only [Act.put,List.setIfInBounds_toArray,List.set_cons_zero,List.set_cons_succ,i64_w,i32_w]
                  rfl
                refine pure_ (i:=6) (N:=some 23) (v:=?_) (a':=?_) #[true,true,true,false,true,true,true,false,false,false] rfl rfl (any_of HT_.out (by kernel_rfl)) (fun _ _ _ h=>h) (Or.inl ⟨by rfl,?_⟩) ?_ ?_
                rotate_left
                · intro w'
                  go_simp
                  with_reducible rfl
                rotate_left
                · simp only [Act.put,List.setIfInBounds_toArray,List.set_cons_zero,List.set_cons_succ,i64_w,i32_w]
                  rfl
                refine take_ (i:=3) (N:=some 20) (v:=?_) (a':=?_) #[true,true,true,true,true,true,true,false,false,false] rfl rfl (take_ofW HT_.out HW_.out (by kernel_rfl)) (fun _ _ _ h=>h) (Or.inl ⟨by rfl,?_⟩) hHeld ?_ ?_
                rotate_left
                · rintro w' ⟨s0,s1,s2,s3,s4,s5,s6,s7,s8,s9⟩
                  go_simp
                  with_reducible rfl
                rotate_left
                · simp only [Act.put,List.setIfInBounds_toArray,List.set_cons_zero,List.set_cons_succ,i64_w,i32_w]
                  rfl
                refine take_ (i:=7) (N:=some 24) (v:=?_) (a':=?_) #[true,true,true,true,true,true,true,true,false,false] rfl rfl (take_ofW HT_.out HW_.out (by kernel_rfl)) (fun _ _ _ h=>h) (Or.inl ⟨by rfl,?_⟩) hHeld ?_ ?_
                rotate_left
                · rintro w' ⟨s0,s1,s2,s3,s4,s5,s6,s7,s8,s9⟩
                  go_simp
                  with_reducible rfl
                rotate_left
                · simp only [Act.put,List.setIfInBounds_toArray,List.set_cons_zero,List.set_cons_succ,i64_w,i32_w]
                  rfl
                refine one_ (i:=8) (N:=some 25) #[true,true,true,true,true,true,true,true,true,false] rfl rfl (one_of HT_.out (by kernel_rfl)) (by decide) (fun K hK=>?_)
                refine goes_ Try.func118 (by kernel_rfl) rfl #[.agg #[.int .i64 ((rd_T36 l0 x5_1).f0),.int .i64 ((rd_T36 l0 x5_1).f1),.int .i64 ((rd_T36 l0 x5_1).f2),.int .i64 ((rd_T36 l0 x5_1).f3),.int .i64 ((rd_T36 l0 x5_1).f4)],.agg #[.int .i64 ((rd_T36 l1 x5_1).f0),.int .i64 ((rd_T36 l1 x5_1).f1),.int .i64 ((rd_T36 l1 x5_1).f2),.int .i64 ((rd_T36 l1 x5_1).f3),.int .i64 ((rd_T36 l1 x5_1).f4)]] (by rfl) rfl rfl (by (try simp only [List.map_toArray,List.map_cons,List.map_nil]);first|done|rfl|(simp only [List.length_drop,List.length_take];rfl)) ?_
                with_reducible refine (laws_eqEdge.calls ((rd_T36 l0 x5_1).f0) ((rd_T36 l0 x5_1).f1) ((rd_T36 l0 x5_1).f2) ((rd_T36 l0 x5_1).f3) ((rd_T36 l0 x5_1).f4) ((rd_T36 l1 x5_1).f0) ((rd_T36 l1 x5_1).f1) ((rd_T36 l1 x5_1).f2) ((rd_T36 l1 x5_1).f3) ((rd_T36 l1 x5_1).f4) false _ A7.out).mono ?_
                rintro e w12 ⟨rfl,hb⟩
                refine ⟨_,rfl,?_⟩
                have n0_:=hs_ HB hb
                clear HB
                have HB:=n0_
                clear n0_
                (try clear hb)
                (try clear hb2)
                (try clear hk)
                (try clear hi)
                refine hK.out _ _ ⟨(cb_ HB hw124_0:),(cb_ HB hw124_1:),(cb_ HB hw124_2:),(cb_ HB hw124_3:),(cb_ HB hw124_4:),(cb_ HB hw125_0:),(cb_ HB hw125_1:),(cb_ HB hw125_2:),(cb_ HB hw125_3:),(cb_ HB hw125_4:)⟩ (fun hHeld=>?_)
                clear hK K
                refine norm_ (a':=?_) ?_ ?_
                rotate_left
                · show Act.put _ (some 25) _ = _
                  simp only [Act.put,List.setIfInBounds_toArray,List.set_cons_zero,List.set_cons_succ,i64_w,i32_w]
                  rfl
                refine pure_ (i:=9) (N:=some 26) (v:=?_) (a':=?_) #[true,true,true,true,true,true,true,true,true,true] rfl rfl (any_of HT_.out (by kernel_rfl)) (fun _ _ _ h=>h) (Or.inl ⟨by rfl,?_⟩) ?_ ?_
                rotate_left
                · intro w'
                  go_simp
                  with_reducible rfl
                rotate_left
                · simp only [Act.put,List.setIfInBounds_toArray,List.set_cons_zero,List.set_cons_succ,i64_w,i32_w]
                  rfl
                refine done_ (done_of HT_.out (by kernel_rfl)) ?_
                try go_wp2
                go_ret
                exact ⟨by first|rfl|(simp [errW_none,errW_some] <;> rfl)|(simp [*,errW_none,errW_some] <;> rfl),by repeat (first|(with_reducible first|exact HB.out|apply qf|apply qa|apply qd)|exact HB.out)⟩
            · rw [if_neg c6] at H
              exact absurd H (by simp)
          · rw [if_neg c5] at H
            exact absurd H (by simp)
        · rw [if_neg c4] at H
          have c4b0 : decide (x5_1 < (l0.length : Int)) = false:=decide_eq_false c4
          clear c4
          obtain rfl:=Option.some.inj H
          go_wp2
          go_ret
          exact ⟨by first|rfl|(simp [errW_none,errW_some] <;> rfl)|(simp [*,errW_none,errW_some] <;> rfl),by repeat (first|(with_reducible first|exact HB.out|apply qf|apply qa|apply qd)|exact HB.out)⟩
  · rw [if_neg c3] at H
    have c3b0 : ((l0.length : Int) == (l1.length : Int)) = false:=beq_eq_false_iff_ne.mpr c3
    have c3b1 : ((l0.length : Int) != (l1.length : Int)) = true:=bne_iff_ne.mpr c3
    have c3b2 : (l0.length == l1.length) = false:=by first|simpa using c3|(simp at c3 ⊢;omega)
    obtain rfl:=Option.some.inj H
    go_enter Try.func87,Try.ntmps87
    go_wp2
    go_ret
    exact ⟨by first|rfl|(simp [errW_none,errW_some] <;> rfl)|(simp [*,errW_none,errW_some] <;> rfl),by repeat (first|(with_reducible first|exact HB.out|apply qf|apply qa|apply qd)|exact HB.out)⟩

/-! ### laws_eqGraph: function 37 -/
def laws_eqGraph.f (k : Nat) (a0_0 : Int) (l0_1 : List (S36)) (a1_0 : Int) (l1_1 : List (S36)) : Option (Bool):=if a0_0 = a1_0 then ((laws_eqEdgeS.f k l0_1 l1_1).bind fun t129=>(if t129 = true then (some true) else (some false))) else (some false)
theorem laws_eqGraph.mono : ∀ a0 a1 a2 a3 k,LeO (laws_eqGraph.f k a0 a1 a2 a3) (laws_eqGraph.f (k + 1) a0 a1 a2 a3):=by
  intro a0 a1 a2 a3 k
  unfold laws_eqGraph.f
  repeat' first
      | (with_reducible exact laws_eqEdgeS.mono _ _ _)
      | (with_reducible exact LeO.refl _)
      | (with_reducible exact LeO.none _)
      | (with_reducible refine LeO.ite ?_ ?_)
      | (with_reducible refine LeO.bind ?_ (fun _=>?_))
      | exact laws_eqEdgeS.mono _ _ _
      | exact LeO.none _
      | refine LeO.ite ?_ ?_
      | refine LeO.bind ?_ (fun _=>?_)
set_option maxHeartbeats 8000000 in
set_option maxRecDepth 100000 in
theorem laws_eqGraph.calls (k : Nat) (a0_0 : Int) (A0_1 : Option Addr) (c0_1 : Nat) (l0_1 : List (S36)) (a1_0 : Int) (A1_1 : Option Addr) (c1_1 : Nat) (l1_1 : List (S36)) (r : Bool) (w : World) (hr0_1 : Kd.C k36 w A0_1 l0_1.length l0_1) (hc0_1 : l0_1.length ≤ c0_1) (hr1_1 : Kd.C k36 w A1_1 l1_1.length l1_1) (hc1_1 : l1_1.length ≤ c1_1) (h : laws_eqGraph.f k a0_0 l0_1 a1_0 l1_1 = some r) :
    Calls Try.prog 37 #[.agg #[.int .i64 a0_0,.slice A0_1 l0_1.length c0_1],.agg #[.int .i64 a1_0,.slice A1_1 l1_1.length c1_1]] w fun e w'=>e = .returned (.bool r) ∧ Below w.heap.size w w':=by
  have hu26:=Try.underlying26
  have HR0_1:=qn.mk hr0_1
  have HC0_1:=qn.mk hc0_1
  clear hr0_1 hc0_1
  have HR1_1:=qn.mk hr1_1
  have HC1_1:=qn.mk hc1_1
  clear hr1_1 hc1_1
  have HB:=qn.mk (Below.refl w.heap.size w)
  have H : (if a0_0 = a1_0 then ((laws_eqEdgeS.f k l0_1 l1_1).bind fun t129=>(if t129 = true then (some true) else (some false))) else (some false)) = some r:=h
  clear h
  by_cases c3 : a0_0 = a1_0
  · rw [if_pos c3] at H
    have c3b0 : (a0_0 == a1_0) = true:=beq_iff_eq.mpr c3
    have c3b1 : (a0_0 != a1_0) = false:=bne_eq_false_iff_eq.mpr c3
    clear c3
    replace H:=Option.bind_eq_some_iff.mp H
    obtain ⟨t129,A40,H⟩:=H
    replace H : (if t129 = true then (some true) else (some false)) = some r:=H
    have A4:=qn.mk A40
    clear A40
    by_cases c5 : t129 = true
    · subst c5
      have H1 : (some true) = some r:=by rw [if_pos rfl] at H;exact H
      clear H
      have H:=H1
      clear H1
      obtain rfl:=Option.some.inj H
      go_enter Try.func37,Try.ntmps37
      go_wp2_with (first|((with_reducible refine gate_dst (N:=2) rfl ?_);refine box_event ?hg (N:=2) ?hd (cs:=#[.int .i64 a0_0,.slice A0_1 l0_1.length c0_1]) (t:=26) ?hr ?_;(case hd=>rfl);(case hg=>rfl);(case hr=>first|(go_simp;done)|(go_simp;rfl));intro gb127 hg w6 hbox hb;have n0_:=hs_ HB hb;have n1_:=qn.mk (hbox);have n2_:=qn.mk ((by rw [hg];exact (qj (by repeat (first|(with_reducible first|exact HB.out|apply qf|apply qa|apply qd)|exact HB.out))) : w.heap.size ≤ gb127));have n3_:=qn.mk ((by rw [hg];exact (qj (by repeat (first|(with_reducible first|exact HB.out|apply qf|apply qa|apply qd)|exact HB.out))) : w.heap.size ≤ gb127));clear HB;have HB:=n0_;have BK127:=n1_;have GW127:=n2_;have GE127:=n3_;clear n0_ n1_ n2_ n3_;clear hb hbox hg)|((with_reducible refine gate_dst (N:=3) rfl ?_);refine box_event ?hg (N:=3) ?hd (cs:=#[.int .i64 a1_0,.slice A1_1 l1_1.length c1_1]) (t:=26) ?hr ?_;(case hd=>rfl);(case hg=>rfl);(case hr=>first|(go_simp;done)|(go_simp;rfl));intro gb128 hg w7 hbox hb;have n0_:=bb_ BK127 hb;have n1_:=hs_ HB hb;have n2_:=qn.mk (hbox);have n3_:=qn.mk ((by rw [hg];exact (qj (by repeat (first|(with_reducible first|exact HB.out|apply qf|apply qa|apply qd|refine qg ?_ GE127.out)|exact HB.out))) : w.heap.size ≤ gb128));have n4_:=qn.mk ((by rw [hg];exact (qj (by repeat (first|(with_reducible first|exact HB.out|apply qf|apply qa|apply qd|refine qg ?_ GE127.out)|exact HB.out))) : w.heap.size ≤ gb128));have n5_:=qn.mk ((by rw [hg];exact nl_ BK127 : gb127 ≠ gb128));have n6_:=qn.mk ((by rw [hg];exact ng_ BK127 : gb128 ≠ gb127));clear BK127;clear HB;have BK127:=n0_;have HB:=n1_;have BK128:=n2_;have GW128:=n3_;have GE128:=n4_;have NB127_128:=n5_;have NB128_127:=n6_;clear n0_ n1_ n2_ n3_ n4_ n5_ n6_;clear hb hbox hg;have hnb8:=NB127_128.out;have hnc8:=NB128_127.out;have hcz9_0 : w7.cell? ⟨gb127,0,none⟩ = some (.int .i64 a0_0):=(qh BK127.out 0).trans rfl;have hcz9_1 : w7.cell? ⟨gb127,1,none⟩ = some (.slice A0_1 l0_1.length c0_1):=(qh BK127.out 1).trans rfl;have hfz9_0:=qi BK127.out 0;have hfz9_1:=qi BK127.out 1;have hcz10_0 : w7.cell? ⟨gb128,0,none⟩ = some (.int .i64 a1_0):=(qh BK128.out 0).trans rfl;have hcz10_1 : w7.cell? ⟨gb128,1,none⟩ = some (.slice A1_1 l1_1.length c1_1):=(qh BK128.out 1).trans rfl;have hfz10_0:=qi BK128.out 0;have hfz10_1:=qi BK128.out 1)|((with_reducible refine gate_callee (f:=87) rfl ?_);refine goesL_ (some 14) rfl rfl Try.func87 (by kernel_rfl) rfl #[.slice A0_1 l0_1.length c0_1,.slice A1_1 l1_1.length c1_1] rfl (by (try simp only [List.map_toArray,List.map_cons,List.map_nil]);first|done|rfl|(simp only [List.length_drop,List.length_take];rfl)) ?_;(with_reducible refine (laws_eqEdgeS.calls k _ _ l0_1 _ _ l1_1 true _ ?side1 ?side2 ?side3 ?side4 A4.out).mono ?_);(case side1=>repeat (first|exact (Kd.C_below HR0_1.out HB.out)|(with_reducible refine Kd.C_alloc ?_ _)|(with_reducible refine Kd.C_drewN ?_ _)|(with_reducible refine Kd.C_drew ?_)));(case side2=>exact HC0_1.out);(case side3=>repeat (first|exact (Kd.C_below HR1_1.out HB.out)|(with_reducible refine Kd.C_alloc ?_ _)|(with_reducible refine Kd.C_drewN ?_ _)|(with_reducible refine Kd.C_drew ?_)));(case side4=>exact HC1_1.out);rintro e w11 ⟨rfl,hb⟩;refine ⟨_,rfl,?_⟩;have n0_:=bb_ BK127 hb;have n1_:=bb_ BK128 hb;have n2_:=hs_ HB hb;clear BK127;clear BK128;clear HB;have BK127:=n0_;have BK128:=n1_;have HB:=n2_;clear n0_ n1_ n2_;(try clear hb);(try clear hb2);(try clear hk);(try clear hi)))
      go_ret
      exact ⟨by first|rfl|(simp [errW_none,errW_some] <;> rfl)|(simp [*,errW_none,errW_some] <;> rfl),by repeat (first|(with_reducible first|exact HB.out|apply qf|apply qa|apply qd|refine qg ?_ GE127.out|refine qg ?_ GE128.out)|exact HB.out)⟩
    · replace c5:=Bool.eq_false_iff.mpr c5
      subst c5
      have H1 : (some false) = some r:=by rw [if_neg (show ¬ (false = true) by decide)] at H;exact H
      clear H
      have H:=H1
      clear H1
      obtain rfl:=Option.some.inj H
      go_enter Try.func37,Try.ntmps37
      go_wp2_with (first|((with_reducible refine gate_dst (N:=2) rfl ?_);refine box_event ?hg (N:=2) ?hd (cs:=#[.int .i64 a0_0,.slice A0_1 l0_1.length c0_1]) (t:=26) ?hr ?_;(case hd=>rfl);(case hg=>rfl);(case hr=>first|(go_simp;done)|(go_simp;rfl));intro gb127 hg w12 hbox hb;have n0_:=hs_ HB hb;have n1_:=qn.mk (hbox);have n2_:=qn.mk ((by rw [hg];exact (qj (by repeat (first|(with_reducible first|exact HB.out|apply qf|apply qa|apply qd)|exact HB.out))) : w.heap.size ≤ gb127));have n3_:=qn.mk ((by rw [hg];exact (qj (by repeat (first|(with_reducible first|exact HB.out|apply qf|apply qa|apply qd)|exact HB.out))) : w.heap.size ≤ gb127));clear HB;have HB:=n0_;have BK127:=n1_;have GW127:=n2_;have GE127:=n3_;clear n0_ n1_ n2_ n3_;clear hb hbox hg)|((with_reducible refine gate_dst (N:=3) rfl ?_);refine box_event ?hg (N:=3) ?hd (cs:=#[.int .i64 a1_0,.slice A1_1 l1_1.length c1_1]) (t:=26) ?hr ?_;(case hd=>rfl);(case hg=>rfl);(case hr=>first|(go_simp;done)|(go_simp;rfl));intro gb128 hg w13 hbox hb;have n0_:=bb_ BK127 hb;have n1_:=hs_ HB hb;have n2_:=qn.mk (hbox);have n3_:=qn.mk ((by rw [hg];exact (qj (by repeat (first|(with_reducible first|exact HB.out|apply qf|apply qa|apply qd|refine qg ?_ GE127.out)|exact HB.out))) : w.heap.size ≤ gb128));have n4_:=qn.mk ((by rw [hg];exact (qj (by repeat (first|(with_reducible first|exact HB.out|apply qf|apply qa|apply qd|refine qg ?_ GE127.out)|exact HB.out))) : w.heap.size ≤ gb128));have n5_:=qn.mk ((by rw [hg];exact nl_ BK127 : gb127 ≠ gb128));have n6_:=qn.mk ((by rw [hg];exact ng_ BK127 : gb128 ≠ gb127));clear BK127;clear HB;have BK127:=n0_;have HB:=n1_;have BK128:=n2_;have GW128:=n3_;have GE128:=n4_;have NB127_128:=n5_;have NB128_127:=n6_;clear n0_ n1_ n2_ n3_ n4_ n5_ n6_;clear hb hbox hg;have hnb14:=NB127_128.out;have hnc14:=NB128_127.out;have hcz15_0 : w13.cell? ⟨gb127,0,none⟩ = some (.int .i64 a0_0):=(qh BK127.out 0).trans rfl;have hcz15_1 : w13.cell? ⟨gb127,1,none⟩ = some (.slice A0_1 l0_1.length c0_1):=(qh BK127.out 1).trans rfl;have hfz15_0:=qi BK127.out 0;have hfz15_1:=qi BK127.out 1;have hcz16_0 : w13.cell? ⟨gb128,0,none⟩ = some (.int .i64 a1_0):=(qh BK128.out 0).trans rfl;have hcz16_1 : w13.cell? ⟨gb128,1,none⟩ = some (.slice A1_1 l1_1.length c1_1):=(qh BK128.out 1).trans rfl;have hfz16_0:=qi BK128.out 0;have hfz16_1:=qi BK128.out 1)|((with_reducible refine gate_callee (f:=87) rfl ?_);refine goesL_ (some 14) rfl rfl Try.func87 (by kernel_rfl) rfl #[.slice A0_1 l0_1.length c0_1,.slice A1_1 l1_1.length c1_1] rfl (by (try simp only [List.map_toArray,List.map_cons,List.map_nil]);first|done|rfl|(simp only [List.length_drop,List.length_take];rfl)) ?_;(with_reducible refine (laws_eqEdgeS.calls k _ _ l0_1 _ _ l1_1 false _ ?side1 ?side2 ?side3 ?side4 A4.out).mono ?_);(case side1=>repeat (first|exact (Kd.C_below HR0_1.out HB.out)|(with_reducible refine Kd.C_alloc ?_ _)|(with_reducible refine Kd.C_drewN ?_ _)|(with_reducible refine Kd.C_drew ?_)));(case side2=>exact HC0_1.out);(case side3=>repeat (first|exact (Kd.C_below HR1_1.out HB.out)|(with_reducible refine Kd.C_alloc ?_ _)|(with_reducible refine Kd.C_drewN ?_ _)|(with_reducible refine Kd.C_drew ?_)));(case side4=>exact HC1_1.out);rintro e w17 ⟨rfl,hb⟩;refine ⟨_,rfl,?_⟩;have n0_:=bb_ BK127 hb;have n1_:=bb_ BK128 hb;have n2_:=hs_ HB hb;clear BK127;clear BK128;clear HB;have BK127:=n0_;have BK128:=n1_;have HB:=n2_;clear n0_ n1_ n2_;(try clear hb);(try clear hb2);(try clear hk);(try clear hi)))
      go_ret
      exact ⟨by first|rfl|(simp [errW_none,errW_some] <;> rfl)|(simp [*,errW_none,errW_some] <;> rfl),by repeat (first|(with_reducible first|exact HB.out|apply qf|apply qa|apply qd|refine qg ?_ GE127.out|refine qg ?_ GE128.out)|exact HB.out)⟩
  · rw [if_neg c3] at H
    have c3b0 : (a0_0 == a1_0) = false:=beq_eq_false_iff_ne.mpr c3
    have c3b1 : (a0_0 != a1_0) = true:=bne_iff_ne.mpr c3
    obtain rfl:=Option.some.inj H
    go_enter Try.func37,Try.ntmps37
    go_wp2_with (first|((with_reducible refine gate_dst (N:=2) rfl ?_);refine box_event ?hg (N:=2) ?hd (cs:=#[.int .i64 a0_0,.slice A0_1 l0_1.length c0_1]) (t:=26) ?hr ?_;(case hd=>rfl);(case hg=>rfl);(case hr=>first|(go_simp;done)|(go_simp;rfl));intro gb127 hg w18 hbox hb;have n0_:=hs_ HB hb;have n1_:=qn.mk (hbox);have n2_:=qn.mk ((by rw [hg];exact (qj (by repeat (first|(with_reducible first|exact HB.out|apply qf|apply qa|apply qd)|exact HB.out))) : w.heap.size ≤ gb127));have n3_:=qn.mk ((by rw [hg];exact (qj (by repeat (first|(with_reducible first|exact HB.out|apply qf|apply qa|apply qd)|exact HB.out))) : w.heap.size ≤ gb127));clear HB;have HB:=n0_;have BK127:=n1_;have GW127:=n2_;have GE127:=n3_;clear n0_ n1_ n2_ n3_;clear hb hbox hg)|((with_reducible refine gate_dst (N:=3) rfl ?_);refine box_event ?hg (N:=3) ?hd (cs:=#[.int .i64 a1_0,.slice A1_1 l1_1.length c1_1]) (t:=26) ?hr ?_;(case hd=>rfl);(case hg=>rfl);(case hr=>first|(go_simp;done)|(go_simp;rfl));intro gb128 hg w19 hbox hb;have n0_:=bb_ BK127 hb;have n1_:=hs_ HB hb;have n2_:=qn.mk (hbox);have n3_:=qn.mk ((by rw [hg];exact (qj (by repeat (first|(with_reducible first|exact HB.out|apply qf|apply qa|apply qd|refine qg ?_ GE127.out)|exact HB.out))) : w.heap.size ≤ gb128));have n4_:=qn.mk ((by rw [hg];exact (qj (by repeat (first|(with_reducible first|exact HB.out|apply qf|apply qa|apply qd|refine qg ?_ GE127.out)|exact HB.out))) : w.heap.size ≤ gb128));have n5_:=qn.mk ((by rw [hg];exact nl_ BK127 : gb127 ≠ gb128));have n6_:=qn.mk ((by rw [hg];exact ng_ BK127 : gb128 ≠ gb127));clear BK127;clear HB;have BK127:=n0_;have HB:=n1_;have BK128:=n2_;have GW128:=n3_;have GE128:=n4_;have NB127_128:=n5_;have NB128_127:=n6_;clear n0_ n1_ n2_ n3_ n4_ n5_ n6_;clear hb hbox hg;have hnb20:=NB127_128.out;have hnc20:=NB128_127.out;have hcz21_0 : w19.cell? ⟨gb127,0,none⟩ = some (.int .i64 a0_0):=(qh BK127.out 0).trans rfl;have hcz21_1 : w19.cell? ⟨gb127,1,none⟩ = some (.slice A0_1 l0_1.length c0_1):=(qh BK127.out 1).trans rfl;have hfz21_0:=qi BK127.out 0;have hfz21_1:=qi BK127.out 1;have hcz22_0 : w19.cell? ⟨gb128,0,none⟩ = some (.int .i64 a1_0):=(qh BK128.out 0).trans rfl;have hcz22_1 : w19.cell? ⟨gb128,1,none⟩ = some (.slice A1_1 l1_1.length c1_1):=(qh BK128.out 1).trans rfl;have hfz22_0:=qi BK128.out 0;have hfz22_1:=qi BK128.out 1))
    go_ret
    exact ⟨by first|rfl|(simp [errW_none,errW_some] <;> rfl)|(simp [*,errW_none,errW_some] <;> rfl),by repeat (first|(with_reducible first|exact HB.out|apply qf|apply qa|apply qd|refine qg ?_ GE127.out|refine qg ?_ GE128.out)|exact HB.out)⟩

/-! ### spec_l01In: function 98 -/
def spec_l01In.f (a0 : Int) (a1 : Int) (a2 : Int) : Option (Bool):=if a0 ≥ a1 then (some (decide (a0 ≤ a2))) else (some false)
set_option maxHeartbeats 8000000 in
set_option maxRecDepth 100000 in
theorem spec_l01In.calls (a0 : Int) (a1 : Int) (a2 : Int) (r : Bool) (w : World) (h : spec_l01In.f a0 a1 a2 = some r) :
    Calls Try.prog 98 #[.int .i64 a0,.int .i64 a1,.int .i64 a2] w fun e w'=>e = .returned (.bool r) ∧ Drawn0 w w':=by
  have H : (if a0 ≥ a1 then (some (decide (a0 ≤ a2))) else (some false)) = some r:=h
  clear h
  by_cases c4 : a0 ≥ a1
  · rw [if_pos c4] at H
    have c4b0 : decide (a1 ≤ a0) = true:=decide_eq_true c4
    clear c4
    obtain rfl:=Option.some.inj H
    go_enter Try.func98,Try.ntmps98
    go_wp2
    go_ret
    exact ⟨by first|rfl|(simp;done)|(simp [*];done),by repeat (first|exact Drawn0.refl _|apply Drawn0.step)⟩
  · rw [if_neg c4] at H
    have c4b0 : decide (a1 ≤ a0) = false:=decide_eq_false c4
    clear c4
    obtain rfl:=Option.some.inj H
    go_enter Try.func98,Try.ntmps98
    go_wp2
    go_ret
    exact ⟨by first|rfl|(simp;done)|(simp [*];done),by repeat (first|exact Drawn0.refl _|apply Drawn0.step)⟩

/-! ### spec_l08Worth: function 113 -/
def spec_l08Worth.f (a0 : Int) : Option (Bool):=(spec_l01In.f a0 0 50).bind fun t130=>(some t130)
set_option maxHeartbeats 8000000 in
set_option maxRecDepth 100000 in
theorem spec_l08Worth.calls (a0 : Int) (r : Bool) (w : World) (h : spec_l08Worth.f a0 = some r) :
    Calls Try.prog 113 #[.int .i64 a0] w fun e w'=>e = .returned (.bool r) ∧ Drawn0 w w':=by
  have H : ((spec_l01In.f a0 0 50).bind fun t130=>(some t130)) = some r:=h
  clear h
  replace H:=Option.bind_eq_some_iff.mp H
  obtain ⟨t130,A20,H⟩:=H
  replace H : (some t130) = some r:=H
  have A2:=qn.mk A20
  clear A20
  obtain rfl:=Option.some.inj H
  go_enter Try.func113,Try.ntmps113
  go_wp2_with (first|((with_reducible refine gate_callee (f:=98) rfl ?_);refine goesL_ (some 4) rfl rfl Try.func98 (by kernel_rfl) rfl #[.int .i64 a0,.int .i64 0,.int .i64 50] rfl (by (try simp only [List.map_toArray,List.map_cons,List.map_nil]);first|done|rfl|(simp only [List.length_drop,List.length_take];rfl)) ?_;(with_reducible refine (spec_l01In.calls a0 0 50 t130 _ A2.out).mono ?_);rintro e w' ⟨rfl,⟨nd,rfl⟩⟩;refine ⟨_,rfl,?_⟩))
  go_ret
  exact ⟨by first|rfl|(simp;done)|(simp [*];done),by repeat (first|exact Drawn0.refl _|apply Drawn0.step)⟩

end Go.Proofs.Ytfmemcffbfahhaa.QFnExactBestSums
