/- Lean functions for the Go functions that the law FnBest reaches, and that each Go function comes to just its Lean function's answer; by a program of this session. -/
import Derived.Test.YtfmemcffbfahhaaZFnBestx0
import Derived.Test.YtfmemcffbfahhaaZFnBestx2
import Derived.Test.YtfmemcffbfahhaaZFnBestx3
import Derived.Test.YtfmemcffbfahhaaZFnBestx5
import Derived.Test.YtfmemcffbfahhaaZFnBestx10
import Derived.Test.YtfmemcffbfahhaaZFnBestx11
namespace Go.Proofs.Ytfmemcffbfahhaa.QFnBest
open Go.RowKit Go.Proofs.YtfmemcffbfahhaaW.PrintWords Go.Proofs.YtfmemcffbfahhaaW.PrintLast Go.Proofs.YtfmemcffbfahhaaW.PrintMore
attribute [local go_sem] max2_int min2_int max_two min_two max_three min_three max_four min_four   -- for this text's walks alone
set_option linter.unusedVariables false
set_option linter.unusedSimpArgs false

/-! ### impl_SumsOf: function 42 -/
def impl_SumsOf.l0 : Nat → List (S130) → Int → Int → Int → List (S36) → Int → Int → Int → Option (Int × Int × Int × Bool)
 | 0,_,_,_,_,_,_,_,_=>none
 | k + 1,x14,x15,x16,x372000,x372001,x375000,x375001,x375002=>if x16 < x15 then (if 0 ≤ x16 then (if x16 < (x14.length : Int) then ((impl_edgeAt.f k x372000 x372001 ((rd_T130 x14 x16).f0) ((rd_T130 x14 x16).f1)).bind fun t377=>(if 0 ≤ t377 then (if t377 < (x372001.length : Int) then ((impl_Sums_plus.f x375000 x375001 x375002 ((rd_T36 x372001 t377).f0) ((rd_T36 x372001 t377).f1) ((rd_T36 x372001 t377).f2) ((rd_T36 x372001 t377).f3) ((rd_T36 x372001 t377).f4)).bind fun bt379=>(impl_SumsOf.l0 k x14 x15 (wrap64 (x16 + 1)) x372000 x372001 bt379.1 bt379.2.1 bt379.2.2)) else (none)) else (none))) else (none)) else (none)) else (some (x375000,x375001,x375002,true))
def impl_SumsOf.f (k : Nat) (a0_0 : Int) (l0_1 : List (S36)) (l1 : List (S130)) : Option (Int × Int × Int × Bool):=(impl_MatchOk.f k a0_0 l0_1 l1).bind fun t373=>(if t373 = true then (impl_SumsOf.l0 k l1 (l1.length : Int) 0 a0_0 l0_1 0 0 0) else (some (0,0,0,false)))
theorem impl_SumsOf.mono_l : ∀ k,(∀ y0 y1 y2 y3 y4 y5 y6 y7,LeO (impl_SumsOf.l0 k y0 y1 y2 y3 y4 y5 y6 y7) (impl_SumsOf.l0 (k + 1) y0 y1 y2 y3 y4 y5 y6 y7))
 | 0=>fun _ _ _ _ _ _ _ _ r h=>by simp [impl_SumsOf.l0] at h
 | k + 1=>by
  have ih0:=impl_SumsOf.mono_l k
  ·intro y0 y1 y2 y3 y4 y5 y6 y7
   unfold impl_SumsOf.l0
   repeat' first
   | (with_reducible exact ih0 _ _ _ _ _ _ _ _)
   | (with_reducible exact impl_MatchOk.mono _ _ _ _)
   | (with_reducible exact impl_edgeAt.mono _ _ _ _ _)
   | (with_reducible exact LeO.refl _)
   | (with_reducible exact LeO.none _)
   | (with_reducible refine LeO.ite ?_ ?_)
   | (with_reducible refine LeO.bind ?_ (fun _=>?_))
   | exact ih0 _ _ _ _ _ _ _ _
   | exact impl_MatchOk.mono _ _ _ _
   | exact impl_edgeAt.mono _ _ _ _ _
   | exact LeO.none _
   | refine LeO.ite ?_ ?_
   | refine LeO.bind ?_ (fun _=>?_)
theorem impl_SumsOf.mono : ∀ a0 a1 a2 k,LeO (impl_SumsOf.f k a0 a1 a2) (impl_SumsOf.f (k + 1) a0 a1 a2):=by
 intro a0 a1 a2 k
 have ih0:=impl_SumsOf.mono_l k
 unfold impl_SumsOf.f
 repeat' first
   | (with_reducible exact ih0 _ _ _ _ _ _ _ _)
   | (with_reducible exact impl_MatchOk.mono _ _ _ _)
   | (with_reducible exact impl_edgeAt.mono _ _ _ _ _)
   | (with_reducible exact LeO.refl _)
   | (with_reducible exact LeO.none _)
   | (with_reducible refine LeO.ite ?_ ?_)
   | (with_reducible refine LeO.bind ?_ (fun _=>?_))
   | exact ih0 _ _ _ _ _ _ _ _
   | exact impl_MatchOk.mono _ _ _ _
   | exact impl_edgeAt.mono _ _ _ _ _
   | exact LeO.none _
   | refine LeO.ite ?_ ?_
   | refine LeO.bind ?_ (fun _=>?_)
def impl_SumsOf.T7 : Bool × List (List Nat × List Nat):=(true,[([],[]),([],[]),([1],[1]),([],[]),([],[]),([4],[4]),([],[]),([6],[6]),([3,5,7],[3,5,7]),([2,8],[2,8]),([9],[9]),([0,10,8],[0,10]),([11,11,0,1,2,3,4,5,6,7,8,9,10,11],[11])])
def impl_SumsOf.B7 : List Nat:=[0,0,2,0,0,16,0,64,248,510,1022,2047,4095]
theorem impl_SumsOf.tab7 : rtab .any (opsOf Try.f42 7) = impl_SumsOf.T7:=by kernel_rfl
theorem impl_SumsOf.bits7 : waitsOk impl_SumsOf.T7.2 impl_SumsOf.B7 = true:=by kernel_rfl
set_option maxHeartbeats 8000000 in
set_option maxRecDepth 100000 in
theorem impl_SumsOf.calls (k : Nat) (a0_0 : Int) (A0_1 : Option Addr) (c0_1 : Nat) (l0_1 : List (S36)) (A1 : Option Addr) (c1 : Nat) (l1 : List (S130)) (r1 : Int) (r2 : Int) (r3 : Int) (r4 : Bool) (w : World) (hr0_1 : Kd.C k36 w A0_1 l0_1.length l0_1) (hc0_1 : l0_1.length ≤ c0_1) (hr1 : Kd.C k130 w A1 l1.length l1) (hc1 : l1.length ≤ c1) (h : impl_SumsOf.f k a0_0 l0_1 l1 = some (r1,r2,r3,r4)) :
  Calls Try.prog 42 #[.agg #[.int .i64 a0_0,.slice A0_1 l0_1.length c0_1],.slice A1 l1.length c1] w fun e w'=>e = .returned (.tuple #[.agg #[.int .i64 r1,.int .i64 r2,.int .i64 r3],.bool r4]) ∧ Below w.heap.size w w':=by
 have hu26:=Try.underlying26
 have hu72:=Try.underlying72
 have hu130:=Try.underlying130
 have hu36:=Try.underlying36
 have HR0_1:=qn.mk hr0_1
 have HC0_1:=qn.mk hc0_1
 clear hr0_1 hc0_1
 have HR1:=qn.mk hr1
 have HC1:=qn.mk hc1
 clear hr1 hc1
 have HB:=qn.mk (Below.refl w.heap.size w)
 have H : ((impl_MatchOk.f k a0_0 l0_1 l1).bind fun t373=>(if t373 = true then (impl_SumsOf.l0 k l1 (l1.length : Int) 0 a0_0 l0_1 0 0 0) else (some (0,0,0,false)))) = some (r1,r2,r3,r4):=h
 clear h
 replace H:=Option.bind_eq_some_iff.mp H
 obtain ⟨t373,A30,H⟩:=H
 replace H : (if t373 = true then (impl_SumsOf.l0 k l1 (l1.length : Int) 0 a0_0 l0_1 0 0 0) else (some (0,0,0,false))) = some (r1,r2,r3,r4):=H
 have A3:=qn.mk A30
 clear A30
 by_cases c4 : t373 = true
 ·subst c4
  have H1 : (impl_SumsOf.l0 k l1 (l1.length : Int) 0 a0_0 l0_1 0 0 0) = some (r1,r2,r3,r4):=by rw [if_pos rfl] at H;exact H
  clear H
  have H:=H1
  clear H1
  have H':=qn.mk H
  clear H
  go_enter Try.func42,Try.ntmps42
  go_wp2_with (first|((with_reducible refine gate_dst (N:=2) rfl ?_);refine box_event ?hg (N:=2) ?hd (cs:=#[.int .i64 a0_0,.slice A0_1 l0_1.length c0_1]) (t:=26) ?hr ?_;(case hd=>rfl);(case hg=>rfl);(case hr=>first|(go_simp;done)|(go_simp;rfl));intro gb371 hg w5 hbox hb;have n0_:=hs_ HB hb;have n1_:=qn.mk (hbox);have n2_:=qn.mk ((by rw [hg];exact (qj (by repeat (first|(with_reducible first|exact HB.out|apply qf|apply qa|apply qd)|exact HB.out))) : w.heap.size ≤ gb371));have n3_:=qn.mk ((by rw [hg];exact (qj (by repeat (first|(with_reducible first|exact HB.out|apply qf|apply qa|apply qd)|exact HB.out))) : w.heap.size ≤ gb371));clear HB;have HB:=n0_;have BK371:=n1_;have GW371:=n2_;have GE371:=n3_;clear n0_ n1_ n2_ n3_;clear hb hbox hg)|((with_reducible refine gate_dst (N:=4) rfl ?_);refine box_event ?hg (N:=4) ?hd (cs:=#[.int .i64 0,.int .i64 0,.int .i64 0]) (t:=72) ?hr ?_;(case hd=>rfl);(case hg=>rfl);(case hr=>first|(go_simp;done)|(go_simp;rfl));intro gb372 hg w6 hbox hb;have n0_:=bb_ BK371 hb;have n1_:=hs_ HB hb;have n2_:=qn.mk (hbox);have n3_:=qn.mk ((by rw [hg];exact (qj (by repeat (first|(with_reducible first|exact HB.out|apply qf|apply qa|apply qd|refine qg ?_ GE371.out)|exact HB.out))) : w.heap.size ≤ gb372));have n4_:=qn.mk ((by rw [hg];exact (qj (by repeat (first|(with_reducible first|exact HB.out|apply qf|apply qa|apply qd|refine qg ?_ GE371.out)|exact HB.out))) : w.heap.size ≤ gb372));have n5_:=qn.mk ((by rw [hg];exact nl_ BK371 : gb371 ≠ gb372));have n6_:=qn.mk ((by rw [hg];exact ng_ BK371 : gb372 ≠ gb371));clear BK371;clear HB;have BK371:=n0_;have HB:=n1_;have BK372:=n2_;have GW372:=n3_;have GE372:=n4_;have NB371_372:=n5_;have NB372_371:=n6_;clear n0_ n1_ n2_ n3_ n4_ n5_ n6_;clear hb hbox hg;have hnb7:=NB371_372.out;have hnc7:=NB372_371.out;have hcz8_0 : w6.cell? ⟨gb371,0,none⟩ = some (.int .i64 a0_0):=(qh BK371.out 0).trans rfl;have hcz8_1 : w6.cell? ⟨gb371,1,none⟩ = some (.slice A0_1 l0_1.length c0_1):=(qh BK371.out 1).trans rfl;have hfz8_0:=qi BK371.out 0;have hfz8_1:=qi BK371.out 1)|((with_reducible refine gate_callee (f:=44) rfl ?_);refine goesL_ (some 11) rfl rfl Try.func44 (by kernel_rfl) rfl #[.agg #[.int .i64 a0_0,.slice A0_1 l0_1.length c0_1],.slice A1 l1.length c1] rfl (by (try simp only [List.map_toArray,List.map_cons,List.map_nil]);first|done|rfl|(simp only [List.length_drop,List.length_take];rfl)) ?_;(with_reducible refine (impl_MatchOk.calls k a0_0 _ _ l0_1 _ _ l1 true _ ?side1 ?side2 ?side3 ?side4 A3.out).mono ?_);(case side1=>repeat (first|exact (Kd.C_below HR0_1.out HB.out)|(with_reducible refine Kd.C_alloc ?_ _)|(with_reducible refine Kd.C_drewN ?_ _)|(with_reducible refine Kd.C_drew ?_)));(case side2=>exact HC0_1.out);(case side3=>repeat (first|exact (Kd.C_below HR1.out HB.out)|(with_reducible refine Kd.C_alloc ?_ _)|(with_reducible refine Kd.C_drewN ?_ _)|(with_reducible refine Kd.C_drew ?_)));(case side4=>exact HC1.out);rintro e w9 ⟨rfl,hb⟩;refine ⟨_,rfl,?_⟩;have n0_:=bb_ BK371 hb;have n1_:=bb_ BK372 hb;have n2_:=hs_ HB hb;clear BK371;clear BK372;clear HB;have BK371:=n0_;have BK372:=n1_;have HB:=n2_;clear n0_ n1_ n2_;(try clear hb);(try clear hb2);(try clear hk);(try clear hi))|((with_reducible refine gate_dst (N:=6) rfl ?_);refine box_event ?hg (N:=6) ?hd (cs:=#[.int .i64 0,.int .i64 0,.int .i64 0]) (t:=72) ?hr ?_;(case hd=>rfl);(case hg=>rfl);(case hr=>first|(go_simp;done)|(go_simp;rfl));intro gb374 hg w10 hbox hb;have n0_:=bb_ BK371 hb;have n1_:=bb_ BK372 hb;have n2_:=hs_ HB hb;have n3_:=qn.mk (hbox);have n4_:=qn.mk ((by rw [hg];exact (qj (by repeat (first|(with_reducible first|exact HB.out|apply qf|apply qa|apply qd|refine qg ?_ GE371.out|refine qg ?_ GE372.out)|exact HB.out))) : w.heap.size ≤ gb374));have n5_:=qn.mk ((by rw [hg];exact (qj (by repeat (first|(with_reducible first|exact HB.out|apply qf|apply qa|apply qd|refine qg ?_ GE371.out|refine qg ?_ GE372.out)|exact HB.out))) : w.heap.size ≤ gb374));have n6_:=qn.mk ((by rw [hg];exact nl_ BK371 : gb371 ≠ gb374));have n7_:=qn.mk ((by rw [hg];exact ng_ BK371 : gb374 ≠ gb371));have n8_:=qn.mk ((by rw [hg];exact nl_ BK372 : gb372 ≠ gb374));have n9_:=qn.mk ((by rw [hg];exact ng_ BK372 : gb374 ≠ gb372));clear BK371;clear BK372;clear HB;have BK371:=n0_;have BK372:=n1_;have HB:=n2_;have BK374:=n3_;have GW374:=n4_;have GE374:=n5_;have NB371_374:=n6_;have NB374_371:=n7_;have NB372_374:=n8_;have NB374_372:=n9_;clear n0_ n1_ n2_ n3_ n4_ n5_ n6_ n7_ n8_ n9_;clear hb hbox hg))
  go_loopg [16] k (fun kq v16 w'=>∃ (x16_1 : Int) (x375000_1 : Int) (x375001_1 : Int) (x375002_1 : Int),v16 = .int .i64 x16_1 ∧ qn (impl_SumsOf.l0 kq l1 (l1.length : Int) x16_1 a0_0 l0_1 x375000_1 x375001_1 x375002_1 = some (r1,r2,r3,r4)) ∧ qn (kq ≤ k) ∧ qn (w'.heap[gb371]? = some (.cells #[.int .i64 a0_0,(.slice A0_1 l0_1.length c0_1)] 26 (0,0))) ∧ qn (w'.heap[gb372]? = some (.cells #[.int .i64 0,.int .i64 0,.int .i64 0] 72 (0,0))) ∧ qn (w'.heap[gb374]? = some (.cells #[.int .i64 x375000_1,.int .i64 x375001_1,.int .i64 x375002_1] 72 (0,0))) ∧ qn (Below w.heap.size w w'))
  case atStart=>exact ⟨(0),(0),(0),(0),(by first|rfl|(simp;done)|(simp [*];done)),H',⟨Nat.le_refl _⟩,⟨by (with_reducible repeat (first|refine qb ?_ _|refine qe ?_|refine qc ?_ _));exact BK371.out⟩,⟨by (with_reducible repeat (first|refine qb ?_ _|refine qe ?_|refine qc ?_ _));exact BK372.out⟩,⟨by (with_reducible repeat (first|refine qb ?_ _|refine qe ?_|refine qc ?_ _));exact BK374.out⟩,⟨by repeat (first|(with_reducible first|exact HB.out|apply qf|apply qa|apply qd|refine qg ?_ GE371.out|refine qg ?_ GE372.out|refine qg ?_ GE374.out)|exact HB.out)⟩⟩
  case round =>
   clear H'
   try clear c1
   try clear p2
   try clear c4
   try clear c7
   try clear hcz8_0
   try clear hcz8_1
   try clear hfz8_0
   try clear hfz8_1
   obtain ⟨x16_1,x375000_1,x375001_1,x375002_1,rfl,HA,HK1,BK371,BK372,BK374,HB⟩:=hrel
   cases gk with
   | zero=>exact absurd HA.out (by simp [impl_SumsOf.l0])
   | succ k1 =>
    have H:=HA.out
    clear HA
    simp only [impl_SumsOf.l0] at H
    by_cases c11 : x16_1 < (l1.length : Int)
    ·rw [if_pos c11] at H
     have c11b0 : decide (x16_1 < (l1.length : Int)) = true:=decide_eq_true c11
     clear c11
     by_cases c12 : 0 ≤ x16_1
     ·rw [if_pos c12] at H
      have c12b0 : decide (0 ≤ x16_1) = true:=decide_eq_true c12
      clear c12
      by_cases c13 : x16_1 < (l1.length : Int)
      ·rw [if_pos c13] at H
       have c13b0 : decide (x16_1 < (l1.length : Int)) = true:=decide_eq_true c13
       clear c13
       replace H:=Option.bind_eq_some_iff.mp H
       obtain ⟨t377,A140,H⟩:=H
       replace H : (if 0 ≤ t377 then (if t377 < (l0_1.length : Int) then ((impl_Sums_plus.f x375000_1 x375001_1 x375002_1 ((rd_T36 l0_1 t377).f0) ((rd_T36 l0_1 t377).f1) ((rd_T36 l0_1 t377).f2) ((rd_T36 l0_1 t377).f3) ((rd_T36 l0_1 t377).f4)).bind fun bt379=>(impl_SumsOf.l0 k1 l1 (l1.length : Int) (wrap64 (x16_1 + 1)) a0_0 l0_1 bt379.1 bt379.2.1 bt379.2.2)) else (none)) else (none)) = some (r1,r2,r3,r4):=H
       have A14:=qn.mk A140
       clear A140
       by_cases c15 : 0 ≤ t377
       ·rw [if_pos c15] at H
        have c15b0 : decide (0 ≤ t377) = true:=decide_eq_true c15
        clear c15
        by_cases c16 : t377 < (l0_1.length : Int)
        ·rw [if_pos c16] at H
         have c16b0 : decide (t377 < (l0_1.length : Int)) = true:=decide_eq_true c16
         clear c16
         replace H:=Option.bind_eq_some_iff.mp H
         obtain ⟨⟨t379,t380,t381⟩,A170,H⟩:=H
         replace H : (impl_SumsOf.l0 k1 l1 (l1.length : Int) (wrap64 (x16_1 + 1)) a0_0 l0_1 t379 t380 t381) = some (r1,r2,r3,r4):=H
         have A17:=qn.mk A170
         clear A170
         have H':=qn.mk H
         clear H
         have p375 : 0 ≤ (x16_1 : Int):=of_decide_eq_true (by first|(with_reducible assumption)|assumption)
         have q375 : x16_1 < (l1.length : Int):=of_decide_eq_true (by first|(with_reducible assumption)|assumption)
         obtain ⟨ad375,e375,hx375_0,hx375_1⟩:=at_T130 HR1.out x16_1 p375 q375
         cases e375
         replace hx375_0:=cb_ HB hx375_0
         replace hx375_1:=cb_ HB hx375_1
         replace p375:=eq_true p375
         replace q375:=eq_true q375
         try go_wp2_with (first|((with_reducible refine gate_dst (N:=8) rfl ?_);refine box_event ?hg (N:=8) ?hd (cs:=#[.int .i64 0,.int .i64 0]) (t:=130) ?hr ?_;(case hd=>rfl);(case hg=>rfl);(case hr=>first|(go_simp;done)|(go_simp;rfl));intro gb376 hg w18 hbox hb;have n0_:=bb_ BK371 hb;have n1_:=bb_ BK372 hb;have n2_:=bb_ BK374 hb;have n3_:=hs_ HB hb;have n4_:=qn.mk (hbox);have n5_:=qn.mk ((by rw [hg];exact (qj (by repeat (first|(with_reducible first|exact HB.out|apply qf|apply qa|apply qd|refine qg ?_ GE371.out|refine qg ?_ GE372.out|refine qg ?_ GE374.out)|exact HB.out))) : w.heap.size ≤ gb376));have n6_:=qn.mk ((by rw [hg];exact (qj (by repeat (first|(with_reducible first|exact HB.out|apply qf|apply qa|apply qd|refine qg ?_ GE371.out|refine qg ?_ GE372.out|refine qg ?_ GE374.out)|exact HB.out))) : w.heap.size ≤ gb376));have n7_:=qn.mk ((by rw [hg];exact nl_ BK371 : gb371 ≠ gb376));have n8_:=qn.mk ((by rw [hg];exact ng_ BK371 : gb376 ≠ gb371));have n9_:=qn.mk ((by rw [hg];exact nl_ BK372 : gb372 ≠ gb376));have n10_:=qn.mk ((by rw [hg];exact ng_ BK372 : gb376 ≠ gb372));have n11_:=qn.mk ((by rw [hg];exact nl_ BK374 : gb374 ≠ gb376));have n12_:=qn.mk ((by rw [hg];exact ng_ BK374 : gb376 ≠ gb374));clear BK371;clear BK372;clear BK374;clear HB;have BK371:=n0_;have BK372:=n1_;have BK374:=n2_;have HB:=n3_;have BK376:=n4_;have GW376:=n5_;have GE376:=n6_;have NB371_376:=n7_;have NB376_371:=n8_;have NB372_376:=n9_;have NB376_372:=n10_;have NB374_376:=n11_;have NB376_374:=n12_;clear n0_ n1_ n2_ n3_ n4_ n5_ n6_ n7_ n8_ n9_ n10_ n11_ n12_;clear hb hbox hg;have hnb19:=NB376_371.out;have hnc19:=NB371_376.out;have hnb20:=NB376_372.out;have hnc20:=NB372_376.out;have hnb21:=NB376_374.out;have hnc21:=NB374_376.out;have hcz22_0 : w18.cell? ⟨gb376,0,none⟩ = some (.int .i64 0):=(qh BK376.out 0).trans rfl;have hcz22_1 : w18.cell? ⟨gb376,1,none⟩ = some (.int .i64 0):=(qh BK376.out 1).trans rfl;have hfz22_0:=qi BK376.out 0;have hfz22_1:=qi BK376.out 1))
         have n0_ : qn (((w18.setCell ⟨gb376,0,none⟩ (.int .i64 ((rd_T130 l1 x16_1).f0))).setCell ⟨gb376,1,none⟩ (.int .i64 ((rd_T130 l1 x16_1).f1))).heap[gb371]? = some (.cells #[.int .i64 a0_0,.slice A0_1 l0_1.length c0_1] 26 (0,0))):=⟨by (with_reducible repeat (first|refine qb ?_ _|refine qe ?_|refine qc ?_ _));refine blk_far ?_ NB371_376.out _;(with_reducible repeat (first|refine qb ?_ _|refine qe ?_|refine qc ?_ _));refine blk_far ?_ NB371_376.out _;(with_reducible repeat (first|refine qb ?_ _|refine qe ?_|refine qc ?_ _));exact BK371.out⟩
         have n1_ : qn (((w18.setCell ⟨gb376,0,none⟩ (.int .i64 ((rd_T130 l1 x16_1).f0))).setCell ⟨gb376,1,none⟩ (.int .i64 ((rd_T130 l1 x16_1).f1))).heap[gb372]? = some (.cells #[.int .i64 0,.int .i64 0,.int .i64 0] 72 (0,0))):=⟨by (with_reducible repeat (first|refine qb ?_ _|refine qe ?_|refine qc ?_ _));refine blk_far ?_ NB372_376.out _;(with_reducible repeat (first|refine qb ?_ _|refine qe ?_|refine qc ?_ _));refine blk_far ?_ NB372_376.out _;(with_reducible repeat (first|refine qb ?_ _|refine qe ?_|refine qc ?_ _));exact BK372.out⟩
         have n2_ : qn (((w18.setCell ⟨gb376,0,none⟩ (.int .i64 ((rd_T130 l1 x16_1).f0))).setCell ⟨gb376,1,none⟩ (.int .i64 ((rd_T130 l1 x16_1).f1))).heap[gb374]? = some (.cells #[.int .i64 x375000_1,.int .i64 x375001_1,.int .i64 x375002_1] 72 (0,0))):=⟨by (with_reducible repeat (first|refine qb ?_ _|refine qe ?_|refine qc ?_ _));refine blk_far ?_ NB374_376.out _;(with_reducible repeat (first|refine qb ?_ _|refine qe ?_|refine qc ?_ _));refine blk_far ?_ NB374_376.out _;(with_reducible repeat (first|refine qb ?_ _|refine qe ?_|refine qc ?_ _));exact BK374.out⟩
         have n3_ : qn (((w18.setCell ⟨gb376,0,none⟩ (.int .i64 ((rd_T130 l1 x16_1).f0))).setCell ⟨gb376,1,none⟩ (.int .i64 ((rd_T130 l1 x16_1).f1))).heap[gb376]? = some (.cells #[.int .i64 ((rd_T130 l1 x16_1).f0),.int .i64 ((rd_T130 l1 x16_1).f1)] 130 (0,0))):=⟨by (with_reducible repeat (first|refine qb ?_ _|refine qe ?_|refine qc ?_ _));refine blk_put (cs:=#[.int .i64 ((rd_T130 l1 x16_1).f0),.int .i64 0]) ?_ 1 _ rfl;(with_reducible repeat (first|refine qb ?_ _|refine qe ?_|refine qc ?_ _));refine blk_put (cs:=#[.int .i64 0,.int .i64 0]) ?_ 0 _ rfl;(with_reducible repeat (first|refine qb ?_ _|refine qe ?_|refine qc ?_ _));exact BK376.out⟩
         have n4_ : qn (Below w.heap.size w ((w18.setCell ⟨gb376,0,none⟩ (.int .i64 ((rd_T130 l1 x16_1).f0))).setCell ⟨gb376,1,none⟩ (.int .i64 ((rd_T130 l1 x16_1).f1)))):=⟨by repeat (first|(with_reducible first|exact HB.out|apply qf|apply qa|apply qd|refine qg ?_ GE371.out|refine qg ?_ GE372.out|refine qg ?_ GE374.out|refine qg ?_ GE376.out)|exact HB.out)⟩
         (try clear BK371)
         (try clear BK372)
         (try clear BK374)
         (try clear BK376)
         (try clear HB)
         generalize ((w18.setCell ⟨gb376,0,none⟩ (.int .i64 ((rd_T130 l1 x16_1).f0))).setCell ⟨gb376,1,none⟩ (.int .i64 ((rd_T130 l1 x16_1).f1))) = w23 at n0_ n1_ n2_ n3_ n4_ ⊢
         have BK371:=n0_
         have BK372:=n1_
         have BK374:=n2_
         have BK376:=n3_
         have HB:=n4_
         clear n0_ n1_ n2_ n3_ n4_
         have n0_:=qn.mk (qe BK371.out)
         have n1_:=qn.mk (qe BK372.out)
         have n2_:=qn.mk (qe BK374.out)
         have n3_:=qn.mk (qe BK376.out)
         have n4_:=qn.mk (qd HB.out)
         clear BK371
         clear BK372
         clear BK374
         clear BK376
         clear HB
         have BK371:=n0_
         have BK372:=n1_
         have BK374:=n2_
         have BK376:=n3_
         have HB:=n4_
         clear n0_ n1_ n2_ n3_ n4_
         have p378 : 0 ≤ (t377 : Int):=of_decide_eq_true (by first|(with_reducible assumption)|assumption)
         have q378 : t377 < (l0_1.length : Int):=of_decide_eq_true (by first|(with_reducible assumption)|assumption)
         obtain ⟨ad378,e378,hx378_0,hx378_1,hx378_2,hx378_3,hx378_4⟩:=at_T36 HR0_1.out t377 p378 q378
         have hw378_4:=hx378_4
         have hw378_3:=hx378_3
         have hw378_2:=hx378_2
         have hw378_1:=hx378_1
         have hw378_0:=hx378_0
         cases e378
         replace hx378_0:=cb_ HB hx378_0
         replace hx378_1:=cb_ HB hx378_1
         replace hx378_2:=cb_ HB hx378_2
         replace hx378_3:=cb_ HB hx378_3
         replace hx378_4:=cb_ HB hx378_4
         replace p378:=eq_true p378
         replace q378:=eq_true q378
         refine start_ (n:=13) (S:=fun w'=>w'.cell? ⟨gb374,0,none⟩ = some (.int .i64 x375000_1) ∧ w'.cell? ⟨gb374,1,none⟩ = some (.int .i64 x375001_1) ∧ w'.cell? ⟨gb374,2,none⟩ = some (.int .i64 x375002_1) ∧ w'.cell? ⟨gb371,0,none⟩ = some (.int .i64 a0_0) ∧ w'.cell? ⟨gb371,1,none⟩ = some (.slice (some ad378) l0_1.length c0_1) ∧ w'.cell? ⟨gb376,0,none⟩ = some (.int .i64 ((rd_T130 l1 x16_1).f0)) ∧ w'.cell? ⟨gb376,1,none⟩ = some (.int .i64 ((rd_T130 l1 x16_1).f1)) ∧ w'.cell? (ad378.add ((t377).toNat * 5)) = some (.int .i64 ((rd_T36 l0_1 t377).f0)) ∧ w'.cell? ⟨(ad378.add ((t377).toNat * 5)).block,(ad378.add ((t377).toNat * 5)).off + 1,none⟩ = some (.int .i64 ((rd_T36 l0_1 t377).f1)) ∧ w'.cell? ⟨(ad378.add ((t377).toNat * 5)).block,(ad378.add ((t377).toNat * 5)).off + 2,none⟩ = some (.int .i64 ((rd_T36 l0_1 t377).f2)) ∧ w'.cell? ⟨(ad378.add ((t377).toNat * 5)).block,(ad378.add ((t377).toNat * 5)).off + 3,none⟩ = some (.int .i64 ((rd_T36 l0_1 t377).f3)) ∧ w'.cell? ⟨(ad378.add ((t377).toNat * 5)).block,(ad378.add ((t377).toNat * 5)).off + 4,none⟩ = some (.int .i64 ((rd_T36 l0_1 t377).f4))) (ds:=[12]) #[false,false,false,false,false,false,false,false,false,false,false,false,false] (by kernel_rfl) rfl rfl ⟨(qh BK374.out 0).trans rfl,(qh BK374.out 1).trans rfl,(qh BK374.out 2).trans rfl,(qh BK371.out 0).trans rfl,(qh BK371.out 1).trans rfl,(qh BK376.out 0).trans rfl,(qh BK376.out 1).trans rfl,(cb_ HB hw378_0:),(cb_ HB hw378_1:),(cb_ HB hw378_2:),(cb_ HB hw378_3:),(cb_ HB hw378_4:)⟩ (fun hHeld=>?_);refine with_tabW impl_SumsOf.tab7 impl_SumsOf.bits7 (fun HT_ HW_=>?_)
         generalize w23.drew = w24 at BK371 BK372 BK374 BK376 HB hx378_0 hx378_1 hx378_2 hx378_3 hx378_4 hHeld ⊢
         refine pure_ (i:=1) (N:=some 21) (v:=?_) (a':=?_) #[false,true,false,false,false,false,false,false,false,false,false,false,false] rfl rfl (any_of HT_.out (by kernel_rfl)) (fun _ _ _ h=>h) (Or.inl ⟨by rfl,?_⟩) ?_ ?_
         rotate_left
         ·intro w'
          go_simp
          with_reducible rfl
         rotate_left
         ·simp only [Act.put,List.setIfInBounds_toArray,List.set_cons_zero,List.set_cons_succ,i64_w,i32_w]
          rfl
         refine pure_ (i:=4) (N:=some 24) (v:=?_) (a':=?_) #[false,true,false,false,true,false,false,false,false,false,false,false,false] rfl rfl (any_of HT_.out (by kernel_rfl)) (fun _ _ _ h=>h) (Or.inl ⟨by rfl,?_⟩) ?_ ?_
         rotate_left
         ·intro w'
          go_simp
          with_reducible rfl
         rotate_left
         ·simp only [Act.put,List.setIfInBounds_toArray,List.set_cons_zero,List.set_cons_succ,i64_w,i32_w]
          rfl
         refine pure_ (i:=6) (N:=some 26) (v:=?_) (a':=?_) #[false,true,false,false,true,false,true,false,false,false,false,false,false] rfl rfl (any_of HT_.out (by kernel_rfl)) (fun _ _ _ h=>h) (Or.inl ⟨by rfl,?_⟩) ?_ ?_
         rotate_left
         ·intro w'
          go_simp
          with_reducible rfl
         rotate_left
         ·simp only [Act.put,List.setIfInBounds_toArray,List.set_cons_zero,List.set_cons_succ,i64_w,i32_w]
          rfl
         refine take_ (i:=0) (N:=some 20) (v:=?_) (a':=?_) #[true,true,false,false,true,false,true,false,false,false,false,false,false] rfl rfl (take_ofW HT_.out HW_.out (by kernel_rfl)) (fun _ _ _ h=>h) (Or.inl ⟨by rfl,?_⟩) hHeld ?_ ?_
         rotate_left
         ·rintro w' ⟨s0,s1,s2,s3,s4,s5,s6,s7,s8,s9,s10,s11⟩
          go_simp
          with_reducible rfl
         rotate_left
         ·simp only [Act.put,List.setIfInBounds_toArray,List.set_cons_zero,List.set_cons_succ,i64_w,i32_w]
          rfl
         refine take_ (i:=2) (N:=some 22) (v:=?_) (a':=?_) #[true,true,true,false,true,false,true,false,false,false,false,false,false] rfl rfl (take_ofW HT_.out HW_.out (by kernel_rfl)) (fun _ _ _ h=>h) (Or.inl ⟨by rfl,?_⟩) hHeld ?_ ?_
         rotate_left
         ·rintro w' ⟨s0,s1,s2,s3,s4,s5,s6,s7,s8,s9,s10,s11⟩
          go_simp
          with_reducible rfl
         rotate_left
         ·simp only [Act.put,List.setIfInBounds_toArray,List.set_cons_zero,List.set_cons_succ,i64_w,i32_w]
          rfl
         refine take_ (i:=3) (N:=some 23) (v:=?_) (a':=?_) #[true,true,true,true,true,false,true,false,false,false,false,false,false] rfl rfl (take_ofW HT_.out HW_.out (by kernel_rfl)) (fun _ _ _ h=>h) (Or.inl ⟨by rfl,?_⟩) hHeld ?_ ?_
         rotate_left
         ·rintro w' ⟨s0,s1,s2,s3,s4,s5,s6,s7,s8,s9,s10,s11⟩
          go_simp
          with_reducible rfl
         rotate_left
         ·simp only [Act.put,List.setIfInBounds_toArray,List.set_cons_zero,List.set_cons_succ,i64_w,i32_w]
          rfl
         refine take_ (i:=5) (N:=some 25) (v:=?_) (a':=?_) #[true,true,true,true,true,true,true,false,false,false,false,false,false] rfl rfl (take_ofW HT_.out HW_.out (by kernel_rfl)) (fun _ _ _ h=>h) (Or.inl ⟨by rfl,?_⟩) hHeld ?_ ?_
         rotate_left
         ·rintro w' ⟨s0,s1,s2,s3,s4,s5,s6,s7,s8,s9,s10,s11⟩
          go_simp
          with_reducible rfl
         rotate_left
         ·simp only [Act.put,List.setIfInBounds_toArray,List.set_cons_zero,List.set_cons_succ,i64_w,i32_w]
          rfl
         refine take_ (i:=7) (N:=some 27) (v:=?_) (a':=?_) #[true,true,true,true,true,true,true,true,false,false,false,false,false] rfl rfl (take_ofW HT_.out HW_.out (by kernel_rfl)) (fun _ _ _ h=>h) (Or.inl ⟨by rfl,?_⟩) hHeld ?_ ?_
         rotate_left
         ·rintro w' ⟨s0,s1,s2,s3,s4,s5,s6,s7,s8,s9,s10,s11⟩
          go_simp
          with_reducible rfl
         rotate_left
         ·simp only [Act.put,List.setIfInBounds_toArray,List.set_cons_zero,List.set_cons_succ,i64_w,i32_w]
          rfl
         refine one_ (i:=8) (N:=some 28) #[true,true,true,true,true,true,true,true,true,false,false,false,false] rfl rfl (one_of HT_.out (by kernel_rfl)) (by decide) (fun K hK=>?_)
         refine goes_ Try.func60 (by kernel_rfl) rfl #[.agg #[.int .i64 a0_0,.slice (some ad378) l0_1.length c0_1],.int .i64 ((rd_T130 l1 x16_1).f0),.int .i64 ((rd_T130 l1 x16_1).f1)] (by rfl) rfl rfl (by (try simp only [List.map_toArray,List.map_cons,List.map_nil]);first|done|rfl|(simp only [List.length_drop,List.length_take];rfl)) ?_
         with_reducible refine (impl_edgeAt.calls k1 a0_0 _ _ l0_1 ((rd_T130 l1 x16_1).f0) ((rd_T130 l1 x16_1).f1) t377 _ ?side1 ?side2 A14.out).mono ?_
         (case side1=>repeat (first|exact (Kd.C_below HR0_1.out HB.out)|(with_reducible refine Kd.C_alloc ?_ _)|(with_reducible refine Kd.C_drewN ?_ _)|(with_reducible refine Kd.C_drew ?_)))
         (case side2=>exact HC0_1.out)
         rintro e w25 ⟨rfl,hb⟩
         refine ⟨_,rfl,?_⟩
         have n0_:=bb_ BK371 hb
         have n1_:=bb_ BK372 hb
         have n2_:=bb_ BK374 hb
         have n3_:=bb_ BK376 hb
         have n4_:=hs_ HB hb
         clear BK371
         clear BK372
         clear BK374
         clear BK376
         clear HB
         have BK371:=n0_
         have BK372:=n1_
         have BK374:=n2_
         have BK376:=n3_
         have HB:=n4_
         clear n0_ n1_ n2_ n3_ n4_
         (try clear hb)
         (try clear hb2)
         (try clear hk)
         (try clear hi)
         refine hK.out _ _ ⟨(qh BK374.out 0).trans rfl,(qh BK374.out 1).trans rfl,(qh BK374.out 2).trans rfl,(qh BK371.out 0).trans rfl,(qh BK371.out 1).trans rfl,(qh BK376.out 0).trans rfl,(qh BK376.out 1).trans rfl,(cb_ HB hw378_0:),(cb_ HB hw378_1:),(cb_ HB hw378_2:),(cb_ HB hw378_3:),(cb_ HB hw378_4:)⟩ (fun hHeld=>?_)
         clear hK K
         refine norm_ (a':=?_) ?_ ?_
         rotate_left
         ·show Act.put _ (some 28) _ = _
          simp only [Act.put,List.setIfInBounds_toArray,List.set_cons_zero,List.set_cons_succ,i64_w,i32_w]
          rfl
         refine pure_ (i:=9) (N:=some 29) (v:=?_) (a':=?_) #[true,true,true,true,true,true,true,true,true,true,false,false,false] rfl rfl (any_of HT_.out (by kernel_rfl)) (fun _ _ _ h=>h) (Or.inl ⟨by rfl,?_⟩) ?_ ?_
         rotate_left
         ·intro w'
          go_simp
          with_reducible rfl
         rotate_left
         ·simp only [Act.put,List.setIfInBounds_toArray,List.set_cons_zero,List.set_cons_succ,i64_w,i32_w]
          rfl
         refine take_ (i:=10) (N:=some 30) (v:=?_) (a':=?_) #[true,true,true,true,true,true,true,true,true,true,true,false,false] rfl rfl (take_ofW HT_.out HW_.out (by kernel_rfl)) (fun _ _ _ h=>h) (Or.inl ⟨by rfl,?_⟩) hHeld ?_ ?_
         rotate_left
         ·rintro w' ⟨s0,s1,s2,s3,s4,s5,s6,s7,s8,s9,s10,s11⟩
          go_simp
          with_reducible rfl
         rotate_left
         ·simp only [Act.put,List.setIfInBounds_toArray,List.set_cons_zero,List.set_cons_succ,i64_w,i32_w]
          rfl
         refine one_ (i:=11) (N:=some 31) #[true,true,true,true,true,true,true,true,true,true,true,true,false] rfl rfl (one_of HT_.out (by kernel_rfl)) (by decide) (fun K hK=>?_)
         refine goes_ Try.func91 (by kernel_rfl) rfl #[.agg #[.int .i64 x375000_1,.int .i64 x375001_1,.int .i64 x375002_1],.agg #[.int .i64 ((rd_T36 l0_1 t377).f0),.int .i64 ((rd_T36 l0_1 t377).f1),.int .i64 ((rd_T36 l0_1 t377).f2),.int .i64 ((rd_T36 l0_1 t377).f3),.int .i64 ((rd_T36 l0_1 t377).f4)]] (by rfl) rfl rfl (by (try simp only [List.map_toArray,List.map_cons,List.map_nil]);first|done|rfl|(simp only [List.length_drop,List.length_take];rfl)) ?_
         with_reducible refine (impl_Sums_plus.calls x375000_1 x375001_1 x375002_1 ((rd_T36 l0_1 t377).f0) ((rd_T36 l0_1 t377).f1) ((rd_T36 l0_1 t377).f2) ((rd_T36 l0_1 t377).f3) ((rd_T36 l0_1 t377).f4) t379 t380 t381 _ A17.out).mono ?_
         rintro e w26 ⟨rfl,hb⟩
         refine ⟨_,rfl,?_⟩
         have n0_:=bb_ BK371 hb
         have n1_:=bb_ BK372 hb
         have n2_:=bb_ BK374 hb
         have n3_:=bb_ BK376 hb
         have n4_:=hs_ HB hb
         clear BK371
         clear BK372
         clear BK374
         clear BK376
         clear HB
         have BK371:=n0_
         have BK372:=n1_
         have BK374:=n2_
         have BK376:=n3_
         have HB:=n4_
         clear n0_ n1_ n2_ n3_ n4_
         (try clear hb)
         (try clear hb2)
         (try clear hk)
         (try clear hi)
         refine hK.out _ _ ⟨(qh BK374.out 0).trans rfl,(qh BK374.out 1).trans rfl,(qh BK374.out 2).trans rfl,(qh BK371.out 0).trans rfl,(qh BK371.out 1).trans rfl,(qh BK376.out 0).trans rfl,(qh BK376.out 1).trans rfl,(cb_ HB hw378_0:),(cb_ HB hw378_1:),(cb_ HB hw378_2:),(cb_ HB hw378_3:),(cb_ HB hw378_4:)⟩ (fun hHeld=>?_)
         clear hK K
         refine norm_ (a':=?_) ?_ ?_
         rotate_left
         ·show Act.put _ (some 31) _ = _
          simp only [Act.put,List.setIfInBounds_toArray,List.set_cons_zero,List.set_cons_succ,i64_w,i32_w]
          rfl
         refine last_ (i:=12) (N:=none) #[true,true,true,true,true,true,true,true,true,true,true,true,true] rfl rfl (one_of HT_.out (by kernel_rfl)) (by decide) (fun K hK=>?_)
         have hs27 : w26.cell? ⟨gb374,0,none⟩ = some (.int .i64 x375000_1):=(qh BK374.out 0).trans rfl
         have hfs27:=qi BK374.out 0
         have hns27_0:=NB371_374.out
         have hns27_1:=NB372_374.out
         have hns27_3:=NB376_374.out
         have hms27_0:=NB374_371.out
         have hms27_1:=NB374_372.out
         have hms27_3:=NB374_376.out
         have hs28 : w26.cell? ⟨gb374,1,none⟩ = some (.int .i64 x375001_1):=(qh BK374.out 1).trans rfl
         have hfs28:=qi BK374.out 1
         have hns28_0:=NB371_374.out
         have hns28_1:=NB372_374.out
         have hns28_3:=NB376_374.out
         have hms28_0:=NB374_371.out
         have hms28_1:=NB374_372.out
         have hms28_3:=NB374_376.out
         have hs29 : w26.cell? ⟨gb374,2,none⟩ = some (.int .i64 x375002_1):=(qh BK374.out 2).trans rfl
         have hfs29:=qi BK374.out 2
         have hns29_0:=NB371_374.out
         have hns29_1:=NB372_374.out
         have hns29_3:=NB376_374.out
         have hms29_0:=NB374_371.out
         have hms29_1:=NB374_372.out
         have hms29_3:=NB374_376.out
         refine skip_ (w1:=?_) (by rfl) rfl ?_ ?_
         rotate_left
         ·go_simp
          rfl
         refine hK.out _ _ ?_
         clear hK K
         refine done_ (done_of HT_.out (by kernel_rfl)) ?_
         try go_wp2
         go_roundg k1
         case measure=>have:=HK1.out;omega
         case rel=>exact ⟨(wrap64 (x16_1 + 1)),(t379),(t380),(t381),(by first|rfl|(simp;done)|(simp [*];done)),H',⟨by have:=HK1.out;omega⟩,⟨by (with_reducible repeat (first|refine qb ?_ _|refine qe ?_|refine qc ?_ _));refine blk_far ?_ NB371_374.out _;(with_reducible repeat (first|refine qb ?_ _|refine qe ?_|refine qc ?_ _));refine blk_far ?_ NB371_374.out _;(with_reducible repeat (first|refine qb ?_ _|refine qe ?_|refine qc ?_ _));refine blk_far ?_ NB371_374.out _;(with_reducible repeat (first|refine qb ?_ _|refine qe ?_|refine qc ?_ _));exact BK371.out⟩,⟨by (with_reducible repeat (first|refine qb ?_ _|refine qe ?_|refine qc ?_ _));refine blk_far ?_ NB372_374.out _;(with_reducible repeat (first|refine qb ?_ _|refine qe ?_|refine qc ?_ _));refine blk_far ?_ NB372_374.out _;(with_reducible repeat (first|refine qb ?_ _|refine qe ?_|refine qc ?_ _));refine blk_far ?_ NB372_374.out _;(with_reducible repeat (first|refine qb ?_ _|refine qe ?_|refine qc ?_ _));exact BK372.out⟩,⟨by (with_reducible repeat (first|refine qb ?_ _|refine qe ?_|refine qc ?_ _));refine blk_put (cs:=#[.int .i64 t379,.int .i64 t380,.int .i64 x375002_1]) ?_ 2 _ rfl;(with_reducible repeat (first|refine qb ?_ _|refine qe ?_|refine qc ?_ _));refine blk_put (cs:=#[.int .i64 t379,.int .i64 x375001_1,.int .i64 x375002_1]) ?_ 1 _ rfl;(with_reducible repeat (first|refine qb ?_ _|refine qe ?_|refine qc ?_ _));refine blk_put (cs:=#[.int .i64 x375000_1,.int .i64 x375001_1,.int .i64 x375002_1]) ?_ 0 _ rfl;(with_reducible repeat (first|refine qb ?_ _|refine qe ?_|refine qc ?_ _));exact BK374.out⟩,⟨by repeat (first|(with_reducible first|exact HB.out|apply qf|apply qa|apply qd|refine qg ?_ GE371.out|refine qg ?_ GE372.out|refine qg ?_ GE374.out|refine qg ?_ GE376.out)|exact HB.out)⟩⟩
        ·rw [if_neg c16] at H
         exact absurd H (by simp)
       ·rw [if_neg c15] at H
        exact absurd H (by simp)
      ·rw [if_neg c13] at H
       exact absurd H (by simp)
     ·rw [if_neg c12] at H
      exact absurd H (by simp)
    ·rw [if_neg c11] at H
     have c11b0 : decide (x16_1 < (l1.length : Int)) = false:=decide_eq_false c11
     clear c11
     simp only [Option.some.injEq,Prod.mk.injEq] at H
     obtain ⟨rfl,rfl,rfl,rfl⟩:=H
     have hnb30:=NB374_371.out
     have hnc30:=NB371_374.out
     have hnb31:=NB374_372.out
     have hnc31:=NB372_374.out
     have hcz32_0 : wr.cell? ⟨gb374,0,none⟩ = some (.int .i64 x375000_1):=(qh BK374.out 0).trans rfl
     have hcz32_1 : wr.cell? ⟨gb374,1,none⟩ = some (.int .i64 x375001_1):=(qh BK374.out 1).trans rfl
     have hcz32_2 : wr.cell? ⟨gb374,2,none⟩ = some (.int .i64 x375002_1):=(qh BK374.out 2).trans rfl
     have hfz32_0:=qi BK374.out 0
     have hfz32_1:=qi BK374.out 1
     have hfz32_2:=qi BK374.out 2
     have hnb33:=NB372_371.out
     have hnc33:=NB371_372.out
     have hcz34_0 : wr.cell? ⟨gb372,0,none⟩ = some (.int .i64 0):=(qh BK372.out 0).trans rfl
     have hcz34_1 : wr.cell? ⟨gb372,1,none⟩ = some (.int .i64 0):=(qh BK372.out 1).trans rfl
     have hcz34_2 : wr.cell? ⟨gb372,2,none⟩ = some (.int .i64 0):=(qh BK372.out 2).trans rfl
     have hfz34_0:=qi BK372.out 0
     have hfz34_1:=qi BK372.out 1
     have hfz34_2:=qi BK372.out 2
     go_wp2
     refine bodyPost_ret (results_ct rfl _ _ gb372 72 #[.int .i64 x375000_1,.int .i64 x375001_1,.int .i64 x375002_1] (0,0) _ rfl (by (with_reducible repeat (first|refine qb ?_ _|refine qe ?_|refine qc ?_ _));refine blk_put (cs:=#[.int .i64 x375000_1,.int .i64 x375001_1,.int .i64 0]) ?_ 2 _ rfl;(with_reducible repeat (first|refine qb ?_ _|refine qe ?_|refine qc ?_ _));refine blk_put (cs:=#[.int .i64 x375000_1,.int .i64 0,.int .i64 0]) ?_ 1 _ rfl;(with_reducible repeat (first|refine qb ?_ _|refine qe ?_|refine qc ?_ _));refine blk_put (cs:=#[.int .i64 0,.int .i64 0,.int .i64 0]) ?_ 0 _ rfl;(with_reducible repeat (first|refine qb ?_ _|refine qe ?_|refine qc ?_ _));exact BK372.out) Try.underlying72 rfl (by kernel_rfl)) rfl ?_
     exact ⟨by first|rfl|(simp [errW_none,errW_some] <;> rfl)|(simp [*,errW_none,errW_some] <;> rfl),by repeat (first|(with_reducible first|exact HB.out|apply qf|apply qa|apply qd|refine qg ?_ GE371.out|refine qg ?_ GE372.out|refine qg ?_ GE374.out)|exact HB.out)⟩
 ·replace c4:=Bool.eq_false_iff.mpr c4
  subst c4
  have H1 : (some (0,0,0,false)) = some (r1,r2,r3,r4):=by rw [if_neg (show ¬ (false = true) by decide)] at H;exact H
  clear H
  have H:=H1
  clear H1
  simp only [Option.some.injEq,Prod.mk.injEq] at H
  obtain ⟨rfl,rfl,rfl,rfl⟩:=H
  go_enter Try.func42,Try.ntmps42
  go_wp2_with (first|((with_reducible refine gate_dst (N:=2) rfl ?_);refine box_event ?hg (N:=2) ?hd (cs:=#[.int .i64 a0_0,.slice A0_1 l0_1.length c0_1]) (t:=26) ?hr ?_;(case hd=>rfl);(case hg=>rfl);(case hr=>first|(go_simp;done)|(go_simp;rfl));intro gb371 hg w35 hbox hb;have n0_:=hs_ HB hb;have n1_:=qn.mk (hbox);have n2_:=qn.mk ((by rw [hg];exact (qj (by repeat (first|(with_reducible first|exact HB.out|apply qf|apply qa|apply qd)|exact HB.out))) : w.heap.size ≤ gb371));have n3_:=qn.mk ((by rw [hg];exact (qj (by repeat (first|(with_reducible first|exact HB.out|apply qf|apply qa|apply qd)|exact HB.out))) : w.heap.size ≤ gb371));clear HB;have HB:=n0_;have BK371:=n1_;have GW371:=n2_;have GE371:=n3_;clear n0_ n1_ n2_ n3_;clear hb hbox hg)|((with_reducible refine gate_dst (N:=4) rfl ?_);refine box_event ?hg (N:=4) ?hd (cs:=#[.int .i64 0,.int .i64 0,.int .i64 0]) (t:=72) ?hr ?_;(case hd=>rfl);(case hg=>rfl);(case hr=>first|(go_simp;done)|(go_simp;rfl));intro gb372 hg w36 hbox hb;have n0_:=bb_ BK371 hb;have n1_:=hs_ HB hb;have n2_:=qn.mk (hbox);have n3_:=qn.mk ((by rw [hg];exact (qj (by repeat (first|(with_reducible first|exact HB.out|apply qf|apply qa|apply qd|refine qg ?_ GE371.out)|exact HB.out))) : w.heap.size ≤ gb372));have n4_:=qn.mk ((by rw [hg];exact (qj (by repeat (first|(with_reducible first|exact HB.out|apply qf|apply qa|apply qd|refine qg ?_ GE371.out)|exact HB.out))) : w.heap.size ≤ gb372));have n5_:=qn.mk ((by rw [hg];exact nl_ BK371 : gb371 ≠ gb372));have n6_:=qn.mk ((by rw [hg];exact ng_ BK371 : gb372 ≠ gb371));clear BK371;clear HB;have BK371:=n0_;have HB:=n1_;have BK372:=n2_;have GW372:=n3_;have GE372:=n4_;have NB371_372:=n5_;have NB372_371:=n6_;clear n0_ n1_ n2_ n3_ n4_ n5_ n6_;clear hb hbox hg;have hnb37:=NB371_372.out;have hnc37:=NB372_371.out;have hcz38_0 : w36.cell? ⟨gb371,0,none⟩ = some (.int .i64 a0_0):=(qh BK371.out 0).trans rfl;have hcz38_1 : w36.cell? ⟨gb371,1,none⟩ = some (.slice A0_1 l0_1.length c0_1):=(qh BK371.out 1).trans rfl;have hfz38_0:=qi BK371.out 0;have hfz38_1:=qi BK371.out 1)|((with_reducible refine gate_callee (f:=44) rfl ?_);refine goesL_ (some 11) rfl rfl Try.func44 (by kernel_rfl) rfl #[.agg #[.int .i64 a0_0,.slice A0_1 l0_1.length c0_1],.slice A1 l1.length c1] rfl (by (try simp only [List.map_toArray,List.map_cons,List.map_nil]);first|done|rfl|(simp only [List.length_drop,List.length_take];rfl)) ?_;(with_reducible refine (impl_MatchOk.calls k a0_0 _ _ l0_1 _ _ l1 false _ ?side1 ?side2 ?side3 ?side4 A3.out).mono ?_);(case side1=>repeat (first|exact (Kd.C_below HR0_1.out HB.out)|(with_reducible refine Kd.C_alloc ?_ _)|(with_reducible refine Kd.C_drewN ?_ _)|(with_reducible refine Kd.C_drew ?_)));(case side2=>exact HC0_1.out);(case side3=>repeat (first|exact (Kd.C_below HR1.out HB.out)|(with_reducible refine Kd.C_alloc ?_ _)|(with_reducible refine Kd.C_drewN ?_ _)|(with_reducible refine Kd.C_drew ?_)));(case side4=>exact HC1.out);rintro e w39 ⟨rfl,hb⟩;refine ⟨_,rfl,?_⟩;have n0_:=bb_ BK371 hb;have n1_:=bb_ BK372 hb;have n2_:=hs_ HB hb;clear BK371;clear BK372;clear HB;have BK371:=n0_;have BK372:=n1_;have HB:=n2_;clear n0_ n1_ n2_;(try clear hb);(try clear hb2);(try clear hk);(try clear hi);have hcz40_0 : w39.cell? ⟨gb372,0,none⟩ = some (.int .i64 0):=(qh BK372.out 0).trans rfl;have hcz40_1 : w39.cell? ⟨gb372,1,none⟩ = some (.int .i64 0):=(qh BK372.out 1).trans rfl;have hcz40_2 : w39.cell? ⟨gb372,2,none⟩ = some (.int .i64 0):=(qh BK372.out 2).trans rfl;have hfz40_0:=qi BK372.out 0;have hfz40_1:=qi BK372.out 1;have hfz40_2:=qi BK372.out 2))
  refine bodyPost_ret (results_ct rfl _ _ gb372 72 #[.int .i64 0,.int .i64 0,.int .i64 0] (0,0) _ rfl (by (with_reducible repeat (first|refine qb ?_ _|refine qe ?_|refine qc ?_ _));refine blk_put (cs:=#[.int .i64 0,.int .i64 0,.int .i64 0]) ?_ 2 _ rfl;(with_reducible repeat (first|refine qb ?_ _|refine qe ?_|refine qc ?_ _));refine blk_put (cs:=#[.int .i64 0,.int .i64 0,.int .i64 0]) ?_ 1 _ rfl;(with_reducible repeat (first|refine qb ?_ _|refine qe ?_|refine qc ?_ _));refine blk_put (cs:=#[.int .i64 0,.int .i64 0,.int .i64 0]) ?_ 0 _ rfl;(with_reducible repeat (first|refine qb ?_ _|refine qe ?_|refine qc ?_ _));exact BK372.out) Try.underlying72 rfl (by kernel_rfl)) rfl ?_
  exact ⟨by first|rfl|(simp [errW_none,errW_some] <;> rfl)|(simp [*,errW_none,errW_some] <;> rfl),by repeat (first|(with_reducible first|exact HB.out|apply qf|apply qa|apply qd|refine qg ?_ GE371.out|refine qg ?_ GE372.out)|exact HB.out)⟩

/-! ### impl_Better: function 43 -/
def impl_Better.f (a0_0 : Int) (a0_1 : Int) (a0_2 : Int) (a1_0 : Int) (a1_1 : Int) (a1_2 : Int) : Option (Bool):=if a0_0 = a1_0 then (if a0_1 = a1_1 then (some (decide (a0_2 > a1_2))) else (some (decide (a0_1 > a1_1)))) else (some (decide (a0_0 > a1_0)))
set_option maxHeartbeats 8000000 in
set_option maxRecDepth 100000 in
theorem impl_Better.calls (a0_0 : Int) (a0_1 : Int) (a0_2 : Int) (a1_0 : Int) (a1_1 : Int) (a1_2 : Int) (r : Bool) (w : World) (h : impl_Better.f a0_0 a0_1 a0_2 a1_0 a1_1 a1_2 = some r) :
  Calls Try.prog 43 #[.agg #[.int .i64 a0_0,.int .i64 a0_1,.int .i64 a0_2],.agg #[.int .i64 a1_0,.int .i64 a1_1,.int .i64 a1_2]] w fun e w'=>e = .returned (.bool r) ∧ Below w.heap.size w w':=by
 have hu72:=Try.underlying72
 have HB:=qn.mk (Below.refl w.heap.size w)
 have H : (if a0_0 = a1_0 then (if a0_1 = a1_1 then (some (decide (a0_2 > a1_2))) else (some (decide (a0_1 > a1_1)))) else (some (decide (a0_0 > a1_0)))) = some r:=h
 clear h
 by_cases c3 : a0_0 = a1_0
 ·rw [if_pos c3] at H
  have c3b0 : (a0_0 == a1_0) = true:=beq_iff_eq.mpr c3
  have c3b1 : (a0_0 != a1_0) = false:=bne_eq_false_iff_eq.mpr c3
  clear c3
  by_cases c4 : a0_1 = a1_1
  ·rw [if_pos c4] at H
   have c4b0 : (a0_1 == a1_1) = true:=beq_iff_eq.mpr c4
   have c4b1 : (a0_1 != a1_1) = false:=bne_eq_false_iff_eq.mpr c4
   clear c4
   obtain rfl:=Option.some.inj H
   go_enter Try.func43,Try.ntmps43
   go_wp2_with (first|((with_reducible refine gate_dst (N:=2) rfl ?_);refine box_event ?hg (N:=2) ?hd (cs:=#[.int .i64 a0_0,.int .i64 a0_1,.int .i64 a0_2]) (t:=72) ?hr ?_;(case hd=>rfl);(case hg=>rfl);(case hr=>first|(go_simp;done)|(go_simp;rfl));intro gb382 hg w5 hbox hb;have n0_:=hs_ HB hb;have n1_:=qn.mk (hbox);have n2_:=qn.mk ((by rw [hg];exact (qj (by repeat (first|(with_reducible first|exact HB.out|apply qf|apply qa|apply qd)|exact HB.out))) : w.heap.size ≤ gb382));have n3_:=qn.mk ((by rw [hg];exact (qj (by repeat (first|(with_reducible first|exact HB.out|apply qf|apply qa|apply qd)|exact HB.out))) : w.heap.size ≤ gb382));clear HB;have HB:=n0_;have BK382:=n1_;have GW382:=n2_;have GE382:=n3_;clear n0_ n1_ n2_ n3_;clear hb hbox hg)|((with_reducible refine gate_dst (N:=3) rfl ?_);refine box_event ?hg (N:=3) ?hd (cs:=#[.int .i64 a1_0,.int .i64 a1_1,.int .i64 a1_2]) (t:=72) ?hr ?_;(case hd=>rfl);(case hg=>rfl);(case hr=>first|(go_simp;done)|(go_simp;rfl));intro gb383 hg w6 hbox hb;have n0_:=bb_ BK382 hb;have n1_:=hs_ HB hb;have n2_:=qn.mk (hbox);have n3_:=qn.mk ((by rw [hg];exact (qj (by repeat (first|(with_reducible first|exact HB.out|apply qf|apply qa|apply qd|refine qg ?_ GE382.out)|exact HB.out))) : w.heap.size ≤ gb383));have n4_:=qn.mk ((by rw [hg];exact (qj (by repeat (first|(with_reducible first|exact HB.out|apply qf|apply qa|apply qd|refine qg ?_ GE382.out)|exact HB.out))) : w.heap.size ≤ gb383));have n5_:=qn.mk ((by rw [hg];exact nl_ BK382 : gb382 ≠ gb383));have n6_:=qn.mk ((by rw [hg];exact ng_ BK382 : gb383 ≠ gb382));clear BK382;clear HB;have BK382:=n0_;have HB:=n1_;have BK383:=n2_;have GW383:=n3_;have GE383:=n4_;have NB382_383:=n5_;have NB383_382:=n6_;clear n0_ n1_ n2_ n3_ n4_ n5_ n6_;clear hb hbox hg;have hnb7:=NB382_383.out;have hnc7:=NB383_382.out;have hcz8_0 : w6.cell? ⟨gb382,0,none⟩ = some (.int .i64 a0_0):=(qh BK382.out 0).trans rfl;have hcz8_1 : w6.cell? ⟨gb382,1,none⟩ = some (.int .i64 a0_1):=(qh BK382.out 1).trans rfl;have hcz8_2 : w6.cell? ⟨gb382,2,none⟩ = some (.int .i64 a0_2):=(qh BK382.out 2).trans rfl;have hfz8_0:=qi BK382.out 0;have hfz8_1:=qi BK382.out 1;have hfz8_2:=qi BK382.out 2;have hcz9_0 : w6.cell? ⟨gb383,0,none⟩ = some (.int .i64 a1_0):=(qh BK383.out 0).trans rfl;have hcz9_1 : w6.cell? ⟨gb383,1,none⟩ = some (.int .i64 a1_1):=(qh BK383.out 1).trans rfl;have hcz9_2 : w6.cell? ⟨gb383,2,none⟩ = some (.int .i64 a1_2):=(qh BK383.out 2).trans rfl;have hfz9_0:=qi BK383.out 0;have hfz9_1:=qi BK383.out 1;have hfz9_2:=qi BK383.out 2))
   go_ret
   exact ⟨by first|rfl|(simp [errW_none,errW_some] <;> rfl)|(simp [*,errW_none,errW_some] <;> rfl),by repeat (first|(with_reducible first|exact HB.out|apply qf|apply qa|apply qd|refine qg ?_ GE382.out|refine qg ?_ GE383.out)|exact HB.out)⟩
  ·rw [if_neg c4] at H
   have c4b0 : (a0_1 == a1_1) = false:=beq_eq_false_iff_ne.mpr c4
   have c4b1 : (a0_1 != a1_1) = true:=bne_iff_ne.mpr c4
   obtain rfl:=Option.some.inj H
   go_enter Try.func43,Try.ntmps43
   go_wp2_with (first|((with_reducible refine gate_dst (N:=2) rfl ?_);refine box_event ?hg (N:=2) ?hd (cs:=#[.int .i64 a0_0,.int .i64 a0_1,.int .i64 a0_2]) (t:=72) ?hr ?_;(case hd=>rfl);(case hg=>rfl);(case hr=>first|(go_simp;done)|(go_simp;rfl));intro gb382 hg w10 hbox hb;have n0_:=hs_ HB hb;have n1_:=qn.mk (hbox);have n2_:=qn.mk ((by rw [hg];exact (qj (by repeat (first|(with_reducible first|exact HB.out|apply qf|apply qa|apply qd)|exact HB.out))) : w.heap.size ≤ gb382));have n3_:=qn.mk ((by rw [hg];exact (qj (by repeat (first|(with_reducible first|exact HB.out|apply qf|apply qa|apply qd)|exact HB.out))) : w.heap.size ≤ gb382));clear HB;have HB:=n0_;have BK382:=n1_;have GW382:=n2_;have GE382:=n3_;clear n0_ n1_ n2_ n3_;clear hb hbox hg)|((with_reducible refine gate_dst (N:=3) rfl ?_);refine box_event ?hg (N:=3) ?hd (cs:=#[.int .i64 a1_0,.int .i64 a1_1,.int .i64 a1_2]) (t:=72) ?hr ?_;(case hd=>rfl);(case hg=>rfl);(case hr=>first|(go_simp;done)|(go_simp;rfl));intro gb383 hg w11 hbox hb;have n0_:=bb_ BK382 hb;have n1_:=hs_ HB hb;have n2_:=qn.mk (hbox);have n3_:=qn.mk ((by rw [hg];exact (qj (by repeat (first|(with_reducible first|exact HB.out|apply qf|apply qa|apply qd|refine qg ?_ GE382.out)|exact HB.out))) : w.heap.size ≤ gb383));have n4_:=qn.mk ((by rw [hg];exact (qj (by repeat (first|(with_reducible first|exact HB.out|apply qf|apply qa|apply qd|refine qg ?_ GE382.out)|exact HB.out))) : w.heap.size ≤ gb383));have n5_:=qn.mk ((by rw [hg];exact nl_ BK382 : gb382 ≠ gb383));have n6_:=qn.mk ((by rw [hg];exact ng_ BK382 : gb383 ≠ gb382));clear BK382;clear HB;have BK382:=n0_;have HB:=n1_;have BK383:=n2_;have GW383:=n3_;have GE383:=n4_;have NB382_383:=n5_;have NB383_382:=n6_;clear n0_ n1_ n2_ n3_ n4_ n5_ n6_;clear hb hbox hg;have hnb12:=NB382_383.out;have hnc12:=NB383_382.out;have hcz13_0 : w11.cell? ⟨gb382,0,none⟩ = some (.int .i64 a0_0):=(qh BK382.out 0).trans rfl;have hcz13_1 : w11.cell? ⟨gb382,1,none⟩ = some (.int .i64 a0_1):=(qh BK382.out 1).trans rfl;have hcz13_2 : w11.cell? ⟨gb382,2,none⟩ = some (.int .i64 a0_2):=(qh BK382.out 2).trans rfl;have hfz13_0:=qi BK382.out 0;have hfz13_1:=qi BK382.out 1;have hfz13_2:=qi BK382.out 2;have hcz14_0 : w11.cell? ⟨gb383,0,none⟩ = some (.int .i64 a1_0):=(qh BK383.out 0).trans rfl;have hcz14_1 : w11.cell? ⟨gb383,1,none⟩ = some (.int .i64 a1_1):=(qh BK383.out 1).trans rfl;have hcz14_2 : w11.cell? ⟨gb383,2,none⟩ = some (.int .i64 a1_2):=(qh BK383.out 2).trans rfl;have hfz14_0:=qi BK383.out 0;have hfz14_1:=qi BK383.out 1;have hfz14_2:=qi BK383.out 2))
   go_ret
   exact ⟨by first|rfl|(simp [errW_none,errW_some] <;> rfl)|(simp [*,errW_none,errW_some] <;> rfl),by repeat (first|(with_reducible first|exact HB.out|apply qf|apply qa|apply qd|refine qg ?_ GE382.out|refine qg ?_ GE383.out)|exact HB.out)⟩
 ·rw [if_neg c3] at H
  have c3b0 : (a0_0 == a1_0) = false:=beq_eq_false_iff_ne.mpr c3
  have c3b1 : (a0_0 != a1_0) = true:=bne_iff_ne.mpr c3
  obtain rfl:=Option.some.inj H
  go_enter Try.func43,Try.ntmps43
  go_wp2_with (first|((with_reducible refine gate_dst (N:=2) rfl ?_);refine box_event ?hg (N:=2) ?hd (cs:=#[.int .i64 a0_0,.int .i64 a0_1,.int .i64 a0_2]) (t:=72) ?hr ?_;(case hd=>rfl);(case hg=>rfl);(case hr=>first|(go_simp;done)|(go_simp;rfl));intro gb382 hg w15 hbox hb;have n0_:=hs_ HB hb;have n1_:=qn.mk (hbox);have n2_:=qn.mk ((by rw [hg];exact (qj (by repeat (first|(with_reducible first|exact HB.out|apply qf|apply qa|apply qd)|exact HB.out))) : w.heap.size ≤ gb382));have n3_:=qn.mk ((by rw [hg];exact (qj (by repeat (first|(with_reducible first|exact HB.out|apply qf|apply qa|apply qd)|exact HB.out))) : w.heap.size ≤ gb382));clear HB;have HB:=n0_;have BK382:=n1_;have GW382:=n2_;have GE382:=n3_;clear n0_ n1_ n2_ n3_;clear hb hbox hg)|((with_reducible refine gate_dst (N:=3) rfl ?_);refine box_event ?hg (N:=3) ?hd (cs:=#[.int .i64 a1_0,.int .i64 a1_1,.int .i64 a1_2]) (t:=72) ?hr ?_;(case hd=>rfl);(case hg=>rfl);(case hr=>first|(go_simp;done)|(go_simp;rfl));intro gb383 hg w16 hbox hb;have n0_:=bb_ BK382 hb;have n1_:=hs_ HB hb;have n2_:=qn.mk (hbox);have n3_:=qn.mk ((by rw [hg];exact (qj (by repeat (first|(with_reducible first|exact HB.out|apply qf|apply qa|apply qd|refine qg ?_ GE382.out)|exact HB.out))) : w.heap.size ≤ gb383));have n4_:=qn.mk ((by rw [hg];exact (qj (by repeat (first|(with_reducible first|exact HB.out|apply qf|apply qa|apply qd|refine qg ?_ GE382.out)|exact HB.out))) : w.heap.size ≤ gb383));have n5_:=qn.mk ((by rw [hg];exact nl_ BK382 : gb382 ≠ gb383));have n6_:=qn.mk ((by rw [hg];exact ng_ BK382 : gb383 ≠ gb382));clear BK382;clear HB;have BK382:=n0_;have HB:=n1_;have BK383:=n2_;have GW383:=n3_;have GE383:=n4_;have NB382_383:=n5_;have NB383_382:=n6_;clear n0_ n1_ n2_ n3_ n4_ n5_ n6_;clear hb hbox hg;have hnb17:=NB382_383.out;have hnc17:=NB383_382.out;have hcz18_0 : w16.cell? ⟨gb382,0,none⟩ = some (.int .i64 a0_0):=(qh BK382.out 0).trans rfl;have hcz18_1 : w16.cell? ⟨gb382,1,none⟩ = some (.int .i64 a0_1):=(qh BK382.out 1).trans rfl;have hcz18_2 : w16.cell? ⟨gb382,2,none⟩ = some (.int .i64 a0_2):=(qh BK382.out 2).trans rfl;have hfz18_0:=qi BK382.out 0;have hfz18_1:=qi BK382.out 1;have hfz18_2:=qi BK382.out 2;have hcz19_0 : w16.cell? ⟨gb383,0,none⟩ = some (.int .i64 a1_0):=(qh BK383.out 0).trans rfl;have hcz19_1 : w16.cell? ⟨gb383,1,none⟩ = some (.int .i64 a1_1):=(qh BK383.out 1).trans rfl;have hcz19_2 : w16.cell? ⟨gb383,2,none⟩ = some (.int .i64 a1_2):=(qh BK383.out 2).trans rfl;have hfz19_0:=qi BK383.out 0;have hfz19_1:=qi BK383.out 1;have hfz19_2:=qi BK383.out 2))
  go_ret
  exact ⟨by first|rfl|(simp [errW_none,errW_some] <;> rfl)|(simp [*,errW_none,errW_some] <;> rfl),by repeat (first|(with_reducible first|exact HB.out|apply qf|apply qa|apply qd|refine qg ?_ GE382.out|refine qg ?_ GE383.out)|exact HB.out)⟩

/-! ### spec_Scalar: function 19 -/
def spec_Scalar.f (a0_0 : Int) (a0_1 : Int) (a0_2 : Int) (a0_3 : Int) (a0_4 : Int) : Option (Int):=some (wrap64 ((wrap64 ((wrap64 (90000 * a0_2)) + (wrap64 (300 * a0_3)))) + a0_4))
set_option maxHeartbeats 8000000 in
set_option maxRecDepth 100000 in
theorem spec_Scalar.calls (a0_0 : Int) (a0_1 : Int) (a0_2 : Int) (a0_3 : Int) (a0_4 : Int) (r : Int) (w : World) (h : spec_Scalar.f a0_0 a0_1 a0_2 a0_3 a0_4 = some r) :
  Calls Try.prog 19 #[.agg #[.int .i64 a0_0,.int .i64 a0_1,.int .i64 a0_2,.int .i64 a0_3,.int .i64 a0_4]] w fun e w'=>e = .returned (.int .i64 r) ∧ Below w.heap.size w w':=by
 have hu36:=Try.underlying36
 have HB:=qn.mk (Below.refl w.heap.size w)
 have H : (some (wrap64 ((wrap64 ((wrap64 (90000 * a0_2)) + (wrap64 (300 * a0_3)))) + a0_4))) = some r:=h
 clear h
 obtain rfl:=Option.some.inj H
 go_enter Try.func19,Try.ntmps19
 go_wp2_with (first|((with_reducible refine gate_dst (N:=1) rfl ?_);refine box_event ?hg (N:=1) ?hd (cs:=#[.int .i64 a0_0,.int .i64 a0_1,.int .i64 a0_2,.int .i64 a0_3,.int .i64 a0_4]) (t:=36) ?hr ?_;(case hd=>rfl);(case hg=>rfl);(case hr=>first|(go_simp;done)|(go_simp;rfl));intro gb384 hg w2 hbox hb;have n0_:=hs_ HB hb;have n1_:=qn.mk (hbox);have n2_:=qn.mk ((by rw [hg];exact (qj (by repeat (first|(with_reducible first|exact HB.out|apply qf|apply qa|apply qd)|exact HB.out))) : w.heap.size ≤ gb384));have n3_:=qn.mk ((by rw [hg];exact (qj (by repeat (first|(with_reducible first|exact HB.out|apply qf|apply qa|apply qd)|exact HB.out))) : w.heap.size ≤ gb384));clear HB;have HB:=n0_;have BK384:=n1_;have GW384:=n2_;have GE384:=n3_;clear n0_ n1_ n2_ n3_;clear hb hbox hg;have hcz3_0 : w2.cell? ⟨gb384,0,none⟩ = some (.int .i64 a0_0):=(qh BK384.out 0).trans rfl;have hcz3_1 : w2.cell? ⟨gb384,1,none⟩ = some (.int .i64 a0_1):=(qh BK384.out 1).trans rfl;have hcz3_2 : w2.cell? ⟨gb384,2,none⟩ = some (.int .i64 a0_2):=(qh BK384.out 2).trans rfl;have hcz3_3 : w2.cell? ⟨gb384,3,none⟩ = some (.int .i64 a0_3):=(qh BK384.out 3).trans rfl;have hcz3_4 : w2.cell? ⟨gb384,4,none⟩ = some (.int .i64 a0_4):=(qh BK384.out 4).trans rfl;have hfz3_0:=qi BK384.out 0;have hfz3_1:=qi BK384.out 1;have hfz3_2:=qi BK384.out 2;have hfz3_3:=qi BK384.out 3;have hfz3_4:=qi BK384.out 4))
 go_ret
 exact ⟨by first|rfl|(simp [errW_none,errW_some] <;> rfl)|(simp [*,errW_none,errW_some] <;> rfl),by repeat (first|(with_reducible first|exact HB.out|apply qf|apply qa|apply qd|refine qg ?_ GE384.out)|exact HB.out)⟩

/-! ### spec_EdgeAt: function 93 -/
def spec_EdgeAt.f (k : Nat) (a0_0 : Int) (l0_1 : List (S36)) (a1 : Int) (a2 : Int) : Option (Int):=(spec_GraphOk.f k a0_0 l0_1).bind fun t386=>(if t386 = true then ((spec_l08At.f k a0_0 l0_1 a1 a2).bind fun t387=>(some t387)) else (some (-1)))
theorem spec_EdgeAt.mono : ∀ a0 a1 a2 a3 k,LeO (spec_EdgeAt.f k a0 a1 a2 a3) (spec_EdgeAt.f (k + 1) a0 a1 a2 a3):=by
 intro a0 a1 a2 a3 k
 unfold spec_EdgeAt.f
 repeat' first
   | (with_reducible exact spec_GraphOk.mono _ _ _)
   | (with_reducible exact spec_l08At.mono _ _ _ _ _)
   | (with_reducible exact LeO.refl _)
   | (with_reducible exact LeO.none _)
   | (with_reducible refine LeO.ite ?_ ?_)
   | (with_reducible refine LeO.bind ?_ (fun _=>?_))
   | exact spec_GraphOk.mono _ _ _
   | exact spec_l08At.mono _ _ _ _ _
   | exact LeO.none _
   | refine LeO.ite ?_ ?_
   | refine LeO.bind ?_ (fun _=>?_)
set_option maxHeartbeats 8000000 in
set_option maxRecDepth 100000 in
theorem spec_EdgeAt.calls (k : Nat) (a0_0 : Int) (A0_1 : Option Addr) (c0_1 : Nat) (l0_1 : List (S36)) (a1 : Int) (a2 : Int) (r : Int) (w : World) (hr0_1 : Kd.C k36 w A0_1 l0_1.length l0_1) (hc0_1 : l0_1.length ≤ c0_1) (h : spec_EdgeAt.f k a0_0 l0_1 a1 a2 = some r) :
  Calls Try.prog 93 #[.agg #[.int .i64 a0_0,.slice A0_1 l0_1.length c0_1],.int .i64 a1,.int .i64 a2] w fun e w'=>e = .returned (.int .i64 r) ∧ Below w.heap.size w w':=by
 have hu26:=Try.underlying26
 have HR0_1:=qn.mk hr0_1
 have HC0_1:=qn.mk hc0_1
 clear hr0_1 hc0_1
 have HB:=qn.mk (Below.refl w.heap.size w)
 have H : ((spec_GraphOk.f k a0_0 l0_1).bind fun t386=>(if t386 = true then ((spec_l08At.f k a0_0 l0_1 a1 a2).bind fun t387=>(some t387)) else (some (-1)))) = some r:=h
 clear h
 replace H:=Option.bind_eq_some_iff.mp H
 obtain ⟨t386,A40,H⟩:=H
 replace H : (if t386 = true then ((spec_l08At.f k a0_0 l0_1 a1 a2).bind fun t387=>(some t387)) else (some (-1))) = some r:=H
 have A4:=qn.mk A40
 clear A40
 by_cases c5 : t386 = true
 ·subst c5
  have H1 : ((spec_l08At.f k a0_0 l0_1 a1 a2).bind fun t387=>(some t387)) = some r:=by rw [if_pos rfl] at H;exact H
  clear H
  have H:=H1
  clear H1
  replace H:=Option.bind_eq_some_iff.mp H
  obtain ⟨t387,A60,H⟩:=H
  replace H : (some t387) = some r:=H
  have A6:=qn.mk A60
  clear A60
  obtain rfl:=Option.some.inj H
  go_enter Try.func93,Try.ntmps93
  go_wp2_with (first|((with_reducible refine gate_dst (N:=3) rfl ?_);refine box_event ?hg (N:=3) ?hd (cs:=#[.int .i64 a0_0,.slice A0_1 l0_1.length c0_1]) (t:=26) ?hr ?_;(case hd=>rfl);(case hg=>rfl);(case hr=>first|(go_simp;done)|(go_simp;rfl));intro gb385 hg w7 hbox hb;have n0_:=hs_ HB hb;have n1_:=qn.mk (hbox);have n2_:=qn.mk ((by rw [hg];exact (qj (by repeat (first|(with_reducible first|exact HB.out|apply qf|apply qa|apply qd)|exact HB.out))) : w.heap.size ≤ gb385));have n3_:=qn.mk ((by rw [hg];exact (qj (by repeat (first|(with_reducible first|exact HB.out|apply qf|apply qa|apply qd)|exact HB.out))) : w.heap.size ≤ gb385));clear HB;have HB:=n0_;have BK385:=n1_;have GW385:=n2_;have GE385:=n3_;clear n0_ n1_ n2_ n3_;clear hb hbox hg;have hcz8_0 : w7.cell? ⟨gb385,0,none⟩ = some (.int .i64 a0_0):=(qh BK385.out 0).trans rfl;have hcz8_1 : w7.cell? ⟨gb385,1,none⟩ = some (.slice A0_1 l0_1.length c0_1):=(qh BK385.out 1).trans rfl;have hfz8_0:=qi BK385.out 0;have hfz8_1:=qi BK385.out 1)|((with_reducible refine gate_callee (f:=82) rfl ?_);refine goesL_ (some 8) rfl rfl Try.func82 (by kernel_rfl) rfl #[.agg #[.int .i64 a0_0,.slice A0_1 l0_1.length c0_1]] rfl (by (try simp only [List.map_toArray,List.map_cons,List.map_nil]);first|done|rfl|(simp only [List.length_drop,List.length_take];rfl)) ?_;(with_reducible refine (spec_GraphOk.calls k a0_0 _ _ l0_1 true _ ?side1 ?side2 A4.out).mono ?_);(case side1=>repeat (first|exact (Kd.C_below HR0_1.out HB.out)|(with_reducible refine Kd.C_alloc ?_ _)|(with_reducible refine Kd.C_drewN ?_ _)|(with_reducible refine Kd.C_drew ?_)));(case side2=>exact HC0_1.out);rintro e w9 ⟨rfl,hb⟩;refine ⟨_,rfl,?_⟩;have n0_:=bb_ BK385 hb;have n1_:=hs_ HB hb;clear BK385;clear HB;have BK385:=n0_;have HB:=n1_;clear n0_ n1_;(try clear hb);(try clear hb2);(try clear hk);(try clear hi);have hcz10_0 : w9.cell? ⟨gb385,0,none⟩ = some (.int .i64 a0_0):=(qh BK385.out 0).trans rfl;have hcz10_1 : w9.cell? ⟨gb385,1,none⟩ = some (.slice A0_1 l0_1.length c0_1):=(qh BK385.out 1).trans rfl;have hfz10_0:=qi BK385.out 0;have hfz10_1:=qi BK385.out 1)|((with_reducible refine gate_callee (f:=115) rfl ?_);refine goesL_ (some 13) rfl rfl Try.func115 (by kernel_rfl) rfl #[.agg #[.int .i64 a0_0,.slice A0_1 l0_1.length c0_1],.int .i64 a1,.int .i64 a2] rfl (by (try simp only [List.map_toArray,List.map_cons,List.map_nil]);first|done|rfl|(simp only [List.length_drop,List.length_take];rfl)) ?_;(with_reducible refine (spec_l08At.calls k a0_0 _ _ l0_1 a1 a2 t387 _ ?side1 ?side2 A6.out).mono ?_);(case side1=>repeat (first|exact (Kd.C_below HR0_1.out HB.out)|(with_reducible refine Kd.C_alloc ?_ _)|(with_reducible refine Kd.C_drewN ?_ _)|(with_reducible refine Kd.C_drew ?_)));(case side2=>exact HC0_1.out);rintro e w11 ⟨rfl,hb⟩;refine ⟨_,rfl,?_⟩;have n0_:=bb_ BK385 hb;have n1_:=hs_ HB hb;clear BK385;clear HB;have BK385:=n0_;have HB:=n1_;clear n0_ n1_;(try clear hb);(try clear hb2);(try clear hk);(try clear hi)))
  go_ret
  exact ⟨by first|rfl|(simp [errW_none,errW_some] <;> rfl)|(simp [*,errW_none,errW_some] <;> rfl),by repeat (first|(with_reducible first|exact HB.out|apply qf|apply qa|apply qd|refine qg ?_ GE385.out)|exact HB.out)⟩
 ·replace c5:=Bool.eq_false_iff.mpr c5
  subst c5
  have H1 : (some (-1)) = some r:=by rw [if_neg (show ¬ (false = true) by decide)] at H;exact H
  clear H
  have H:=H1
  clear H1
  obtain rfl:=Option.some.inj H
  go_enter Try.func93,Try.ntmps93
  go_wp2_with (first|((with_reducible refine gate_dst (N:=3) rfl ?_);refine box_event ?hg (N:=3) ?hd (cs:=#[.int .i64 a0_0,.slice A0_1 l0_1.length c0_1]) (t:=26) ?hr ?_;(case hd=>rfl);(case hg=>rfl);(case hr=>first|(go_simp;done)|(go_simp;rfl));intro gb385 hg w12 hbox hb;have n0_:=hs_ HB hb;have n1_:=qn.mk (hbox);have n2_:=qn.mk ((by rw [hg];exact (qj (by repeat (first|(with_reducible first|exact HB.out|apply qf|apply qa|apply qd)|exact HB.out))) : w.heap.size ≤ gb385));have n3_:=qn.mk ((by rw [hg];exact (qj (by repeat (first|(with_reducible first|exact HB.out|apply qf|apply qa|apply qd)|exact HB.out))) : w.heap.size ≤ gb385));clear HB;have HB:=n0_;have BK385:=n1_;have GW385:=n2_;have GE385:=n3_;clear n0_ n1_ n2_ n3_;clear hb hbox hg;have hcz13_0 : w12.cell? ⟨gb385,0,none⟩ = some (.int .i64 a0_0):=(qh BK385.out 0).trans rfl;have hcz13_1 : w12.cell? ⟨gb385,1,none⟩ = some (.slice A0_1 l0_1.length c0_1):=(qh BK385.out 1).trans rfl;have hfz13_0:=qi BK385.out 0;have hfz13_1:=qi BK385.out 1)|((with_reducible refine gate_callee (f:=82) rfl ?_);refine goesL_ (some 8) rfl rfl Try.func82 (by kernel_rfl) rfl #[.agg #[.int .i64 a0_0,.slice A0_1 l0_1.length c0_1]] rfl (by (try simp only [List.map_toArray,List.map_cons,List.map_nil]);first|done|rfl|(simp only [List.length_drop,List.length_take];rfl)) ?_;(with_reducible refine (spec_GraphOk.calls k a0_0 _ _ l0_1 false _ ?side1 ?side2 A4.out).mono ?_);(case side1=>repeat (first|exact (Kd.C_below HR0_1.out HB.out)|(with_reducible refine Kd.C_alloc ?_ _)|(with_reducible refine Kd.C_drewN ?_ _)|(with_reducible refine Kd.C_drew ?_)));(case side2=>exact HC0_1.out);rintro e w14 ⟨rfl,hb⟩;refine ⟨_,rfl,?_⟩;have n0_:=bb_ BK385 hb;have n1_:=hs_ HB hb;clear BK385;clear HB;have BK385:=n0_;have HB:=n1_;clear n0_ n1_;(try clear hb);(try clear hb2);(try clear hk);(try clear hi)))
  go_ret
  exact ⟨by first|rfl|(simp [errW_none,errW_some] <;> rfl)|(simp [*,errW_none,errW_some] <;> rfl),by repeat (first|(with_reducible first|exact HB.out|apply qf|apply qa|apply qd|refine qg ?_ GE385.out)|exact HB.out)⟩

end Go.Proofs.Ytfmemcffbfahhaa.QFnBest
