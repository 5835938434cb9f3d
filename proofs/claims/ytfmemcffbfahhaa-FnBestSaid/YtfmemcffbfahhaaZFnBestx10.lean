/- Lean functions for the Go functions that the law FnBest reaches, and that each Go function comes to just its Lean function's answer; by a program of this session. -/
import Derived.Test.YtfmemcffbfahhaaZFnBestx0
import Derived.Test.YtfmemcffbfahhaaZFnBestx6
import Derived.Test.YtfmemcffbfahhaaZFnBestx7
import Derived.Test.YtfmemcffbfahhaaZFnBestx8
import Derived.Test.YtfmemcffbfahhaaZFnBestx9
namespace Go.Proofs.Ytfmemcffbfahhaa.QFnBest
open Go.RowKit Go.Proofs.YtfmemcffbfahhaaW.PrintWords Go.Proofs.YtfmemcffbfahhaaW.PrintLast Go.Proofs.YtfmemcffbfahhaaW.PrintMore
attribute [local go_sem] max2_int min2_int max_two min_two max_three min_three max_four min_four   -- for this text's walks alone
set_option linter.unusedVariables false
set_option linter.unusedSimpArgs false

/-! ### spec_DrawRightMatch: function 41 -/
def spec_DrawRightMatch.f (k : Nat) (l0 : List Int) : Option (Int × (List (S36)) × (List (S130))):=(spec_l01New.f k l0).bind fun bt325=>((spec_l08Graph.f k bt325.1 bt325.2.1 bt325.2.2).bind fun bt329=>((spec_l09Match.f k bt325.1 bt329.2.2.1 bt329.2.2.2 bt329.1 bt329.2.1).bind fun bt336=>((spec_MatchOk.f k bt329.1 bt329.2.1 bt336.1).bind fun t341=>(if t341 = true then (some (bt329.1,bt329.2.1,bt336.1)) else (some (bt329.1,bt329.2.1,(([] : List (S130)))))))))
theorem spec_DrawRightMatch.mono : ∀ a0 k,LeO (spec_DrawRightMatch.f k a0) (spec_DrawRightMatch.f (k + 1) a0):=by
 intro a0 k
 unfold spec_DrawRightMatch.f
 repeat' first
   | (with_reducible exact spec_MatchOk.mono _ _ _ _)
   | (with_reducible exact spec_l01New.mono _ _)
   | (with_reducible exact spec_l08Graph.mono _ _ _ _)
   | (with_reducible exact spec_l09Match.mono _ _ _ _ _ _)
   | (with_reducible exact LeO.refl _)
   | (with_reducible exact LeO.none _)
   | (with_reducible refine LeO.ite ?_ ?_)
   | (with_reducible refine LeO.bind ?_ (fun _=>?_))
   | exact spec_MatchOk.mono _ _ _ _
   | exact spec_l01New.mono _ _
   | exact spec_l08Graph.mono _ _ _ _
   | exact spec_l09Match.mono _ _ _ _ _ _
   | exact LeO.none _
   | refine LeO.ite ?_ ?_
   | refine LeO.bind ?_ (fun _=>?_)
set_option maxHeartbeats 8000000 in
set_option maxRecDepth 100000 in
theorem spec_DrawRightMatch.calls (k : Nat) (A0 : Option Addr) (c0 : Nat) (l0 : List Int) (r1 : Int) (r2 : List (S36)) (r3 : List (S130)) (w : World) (hr0 : Kd.C (Kd.int .u8) w A0 l0.length l0) (hc0 : l0.length ≤ c0) (h : spec_DrawRightMatch.f k l0 = some (r1,r2,r3)) :
  Calls Try.prog 41 #[.slice A0 l0.length c0] w fun e w'=>∃ v1_ v2_ : Value,e = .returned (.tuple #[.agg #[.int .i64 r1,v1_],v2_]) ∧ Kd.R k36 36 w' w.heap.size (fun _=>True) v1_ r2 ∧ Kd.R k130 130 w' w.heap.size (fun _=>True) v2_ r3 ∧ Below w.heap.size w w':=by
 have hu26:=Try.underlying26
 have HR0:=qn.mk hr0
 have HC0:=qn.mk hc0
 clear hr0 hc0
 have HB:=qn.mk (Below.refl w.heap.size w)
 have H : ((spec_l01New.f k l0).bind fun bt325=>((spec_l08Graph.f k bt325.1 bt325.2.1 bt325.2.2).bind fun bt329=>((spec_l09Match.f k bt325.1 bt329.2.2.1 bt329.2.2.2 bt329.1 bt329.2.1).bind fun bt336=>((spec_MatchOk.f k bt329.1 bt329.2.1 bt336.1).bind fun t341=>(if t341 = true then (some (bt329.1,bt329.2.1,bt336.1)) else (some (bt329.1,bt329.2.1,(([] : List (S130)))))))))) = some (r1,r2,r3):=h
 clear h
 replace H:=Option.bind_eq_some_iff.mp H
 obtain ⟨⟨t325,t326,t327⟩,A20,H⟩:=H
 replace H : ((spec_l08Graph.f k t325 t326 t327).bind fun bt329=>((spec_l09Match.f k t325 bt329.2.2.1 bt329.2.2.2 bt329.1 bt329.2.1).bind fun bt336=>((spec_MatchOk.f k bt329.1 bt329.2.1 bt336.1).bind fun t341=>(if t341 = true then (some (bt329.1,bt329.2.1,bt336.1)) else (some (bt329.1,bt329.2.1,(([] : List (S130))))))))) = some (r1,r2,r3):=H
 have A2:=qn.mk A20
 clear A20
 replace H:=Option.bind_eq_some_iff.mp H
 obtain ⟨⟨t329,t330,t333,t334⟩,A30,H⟩:=H
 replace H : ((spec_l09Match.f k t325 t333 t334 t329 t330).bind fun bt336=>((spec_MatchOk.f k t329 t330 bt336.1).bind fun t341=>(if t341 = true then (some (t329,t330,bt336.1)) else (some (t329,t330,(([] : List (S130)))))))) = some (r1,r2,r3):=H
 have A3:=qn.mk A30
 clear A30
 replace H:=Option.bind_eq_some_iff.mp H
 obtain ⟨⟨t336,t339,t340⟩,A40,H⟩:=H
 replace H : ((spec_MatchOk.f k t329 t330 t336).bind fun t341=>(if t341 = true then (some (t329,t330,t336)) else (some (t329,t330,(([] : List (S130))))))) = some (r1,r2,r3):=H
 have A4:=qn.mk A40
 clear A40
 replace H:=Option.bind_eq_some_iff.mp H
 obtain ⟨t341,A50,H⟩:=H
 replace H : (if t341 = true then (some (t329,t330,t336)) else (some (t329,t330,(([] : List (S130)))))) = some (r1,r2,r3):=H
 have A5:=qn.mk A50
 clear A50
 by_cases c6 : t341 = true
 ·subst c6
  have H1 : (some (t329,t330,t336)) = some (r1,r2,r3):=by rw [if_pos rfl] at H;exact H
  clear H
  have H:=H1
  clear H1
  simp only [Option.some.injEq,Prod.mk.injEq] at H
  obtain ⟨rfl,rfl,rfl⟩:=H
  go_enter Try.func41,Try.ntmps41
  go_wp2_with (first|((with_reducible refine gate_dst (N:=2) rfl ?_);refine box_event ?hg (N:=2) ?hd (cs:=#[.int .i64 0,.slice none 0 0]) (t:=26) ?hr ?_;(case hd=>rfl);(case hg=>rfl);(case hr=>first|(go_simp;done)|(go_simp;rfl));intro gb324 hg w7 hbox hb;have n0_:=hs_ HB hb;have n1_:=qn.mk (hbox);have n2_:=qn.mk ((by rw [hg];exact (qj (by repeat (first|(with_reducible first|exact HB.out|apply qf|apply qa|apply qd)|exact HB.out))) : w.heap.size ≤ gb324));have n3_:=qn.mk ((by rw [hg];exact (qj (by repeat (first|(with_reducible first|exact HB.out|apply qf|apply qa|apply qd)|exact HB.out))) : w.heap.size ≤ gb324));clear HB;have HB:=n0_;have BK324:=n1_;have GW324:=n2_;have GE324:=n3_;clear n0_ n1_ n2_ n3_;clear hb hbox hg)|((with_reducible refine gate_callee (f:=56) rfl ?_);refine goesL_ (some 8) rfl rfl Try.func56 (by kernel_rfl) rfl #[.slice A0 l0.length c0] rfl (by (try simp only [List.map_toArray,List.map_cons,List.map_nil]);first|done|rfl|(simp only [List.length_drop,List.length_take];rfl)) ?_;(with_reducible refine (spec_l01New.calls k _ _ l0 t325 t326 t327 w _ ?side1 ?side2 ?side3 A2.out).mono ?_);(case side1=>repeat (first|(with_reducible first|exact HB.out|apply qf|apply qa|apply qd|refine qg ?_ GE324.out)|exact HB.out));(case side2=>exact HR0.out);(case side3=>exact HC0.out);rintro e w8 ⟨g328,rfl,hi,hb,hb2⟩;refine ⟨_,rfl,?_⟩;have n0_:=qn.mk (ql (g:=gb324) (o:=.cells #[.int .i64 0,.slice none 0 0] 26 (0,0)) (by (with_reducible repeat (first|refine qb ?_ _|refine qe ?_|refine qc ?_ _));exact BK324.out) hb2);have n1_:=qn.mk (hb);have n2_:=qn.mk (hi);have n3_:=qn.mk (IsS140.ne_blk hi (ql (g:=gb324) (o:=.cells #[.int .i64 0,.slice none 0 0] 26 (0,0)) (by (with_reducible repeat (first|refine qb ?_ _|refine qe ?_|refine qc ?_ _));exact BK324.out) hb2) (by decide));have n4_:=qn.mk (Ne.symm (IsS140.ne_blk hi (ql (g:=gb324) (o:=.cells #[.int .i64 0,.slice none 0 0] 26 (0,0)) (by (with_reducible repeat (first|refine qb ?_ _|refine qe ?_|refine qc ?_ _));exact BK324.out) hb2) (by decide)));clear BK324;clear HB;have BK324:=n0_;have HB:=n1_;have HI328:=n2_;have NB328_324:=n3_;have NB324_328:=n4_;clear n0_ n1_ n2_ n3_ n4_;(try clear hb);(try clear hb2);(try clear hk);(try clear hi))|((with_reducible refine gate_callee (f:=55) rfl ?_);refine goesL_ (some 10) rfl rfl Try.func55 (by kernel_rfl) rfl #[.pointer (some ⟨g328,0,none⟩)] rfl (by (try simp only [List.map_toArray,List.map_cons,List.map_nil]);first|done|rfl|(simp only [List.length_drop,List.length_take];rfl)) ?_;(with_reducible refine (spec_l08Graph.calls k g328 t325 t326 t327 t329 t330 t333 t334 w _ ?side1 ?side2 A3.out).mono ?_);(case side1=>repeat (first|(with_reducible first|exact HI328.out|apply IsS140.alloc|apply IsS140.drewN|apply IsS140.drew|apply IsS140.set_1|apply IsS140.set_2|refine IsS140.far ?_ NB328_324.out _)|exact HI328.out));(case side2=>repeat (first|(with_reducible first|exact HB.out|apply qf|apply qa|apply qd|refine qg ?_ (IsS140.ge HI328.out)|refine qg ?_ GE324.out)|exact HB.out));rintro e w9 ⟨v331,rfl,ho0,hi,hb,hk⟩;refine ⟨_,rfl,?_⟩;have n0_:=qn.mk (KeepBut.blk hk (g':=gb324) (o:=.cells #[.int .i64 0,.slice none 0 0] 26 (0,0)) (by (with_reducible repeat (first|refine qb ?_ _|refine qe ?_|refine qc ?_ _));exact BK324.out) NB324_328.out (by simp));have n1_:=qn.mk (Kd.R_lower ho0 (qj (by repeat (first|(with_reducible first|exact HB.out|apply qf|apply qa|apply qd|refine qg ?_ (IsS140.ge HI328.out)|refine qg ?_ GE324.out)|exact HB.out))));have n2_:=qn.mk (hb);have n3_:=qn.mk (hi);clear BK324;clear HB;clear HI328;have BK324:=n0_;have HO332:=n1_;have HB:=n2_;have HI328:=n3_;clear n0_ n1_ n2_ n3_;(try clear hb);(try clear hb2);(try clear hk);(try clear hi);(try clear ho0))|((with_reducible refine gate_dst (N:=5) rfl ?_);refine box_event ?hg (N:=5) ?hd (cs:=#[.int .i64 0,.slice none 0 0]) (t:=26) ?hr ?_;(case hd=>rfl);(case hg=>rfl);(case hr=>first|(go_simp;done)|(go_simp;rfl));intro gb335 hg w10 hbox hb;have n0_:=rb_ HO332 hb;have n1_:=bb_ BK324 hb;have n2_:=qn.mk (IsS140.below (by repeat (first|(with_reducible first|exact HI328.out|apply IsS140.alloc|apply IsS140.drewN|apply IsS140.drew|apply IsS140.set_1|apply IsS140.set_2|refine IsS140.far ?_ NB328_324.out _)|exact HI328.out)) hb);have n3_:=qn.mk (qm (by repeat (first|(with_reducible first|exact HB.out|apply qf|apply qa|apply qd|refine qg ?_ (IsS140.ge HI328.out)|refine qg ?_ GE324.out)|exact HB.out)) hb);have n4_:=qn.mk (hbox);have n5_:=qn.mk ((by rw [hg];exact (qj (by repeat (first|(with_reducible first|exact HB.out|apply qf|apply qa|apply qd|refine qg ?_ (IsS140.ge HI328.out)|refine qg ?_ GE324.out)|exact HB.out))) : w.heap.size ≤ gb335));have n6_:=qn.mk ((by rw [hg];exact (qj (by repeat (first|(with_reducible first|exact HB.out|apply qf|apply qa|apply qd|refine qg ?_ (IsS140.ge HI328.out)|refine qg ?_ GE324.out)|exact HB.out))) : w.heap.size ≤ gb335));have n7_:=qn.mk ((by rw [hg];exact nl_ BK324 : gb324 ≠ gb335));have n8_:=qn.mk ((by rw [hg];exact ng_ BK324 : gb335 ≠ gb324));have n9_:=qn.mk ((by rw [hg];exact Nat.ne_of_lt (IsS140.lt (show IsS140 w _ g328 t325 t333 t334 from by repeat (first|(with_reducible first|exact HI328.out|apply IsS140.alloc|apply IsS140.drewN|apply IsS140.drew|apply IsS140.set_1|apply IsS140.set_2|refine IsS140.far ?_ NB328_324.out _)|exact HI328.out))) : g328 ≠ gb335));have n10_:=qn.mk ((by rw [hg];exact Nat.ne_of_gt (IsS140.lt (show IsS140 w _ g328 t325 t333 t334 from by repeat (first|(with_reducible first|exact HI328.out|apply IsS140.alloc|apply IsS140.drewN|apply IsS140.drew|apply IsS140.set_1|apply IsS140.set_2|refine IsS140.far ?_ NB328_324.out _)|exact HI328.out))) : gb335 ≠ g328));clear HO332;clear BK324;clear HI328;clear HB;have HO332:=n0_;have BK324:=n1_;have HI328:=n2_;have HB:=n3_;have BK335:=n4_;have GW335:=n5_;have GE335:=n6_;have NB324_335:=n7_;have NB335_324:=n8_;have NB328_335:=n9_;have NB335_328:=n10_;clear n0_ n1_ n2_ n3_ n4_ n5_ n6_ n7_ n8_ n9_ n10_;clear hb hbox hg;have hnb11:=NB335_324.out;have hnc11:=NB324_335.out;have hnb12:=NB335_328.out;have hnc12:=NB328_335.out;have hcz13_0 : w10.cell? ⟨gb335,0,none⟩ = some (.int .i64 0):=(qh BK335.out 0).trans rfl;have hcz13_1 : w10.cell? ⟨gb335,1,none⟩ = some (.slice none 0 0):=(qh BK335.out 1).trans rfl;have hfz13_0:=qi BK335.out 0;have hfz13_1:=qi BK335.out 1;obtain ⟨Ao14,co14,eo14⟩:=Kd.R_slice HO332.out;subst eo14)|((with_reducible refine gate_callee (f:=89) rfl ?_);refine goesL_ (some 13) rfl rfl Try.func89 (by kernel_rfl) rfl #[.pointer (some ⟨g328,0,none⟩),.agg #[.int .i64 t329,.slice Ao14 t330.length co14]] rfl (by (try simp only [List.map_toArray,List.map_cons,List.map_nil]);first|done|rfl|(simp only [List.length_drop,List.length_take];rfl)) ?_;(with_reducible refine (spec_l09Match.calls k g328 t325 t333 t334 t329 _ _ t330 t336 t339 t340 w _ ?side1 ?side2 ?side3 ?side4 A4.out).mono ?_);(case side1=>repeat (first|(with_reducible first|exact HI328.out|apply IsS140.alloc|apply IsS140.drewN|apply IsS140.drew|apply IsS140.set_1|apply IsS140.set_2|refine IsS140.far ?_ NB328_324.out _|refine IsS140.far ?_ NB328_335.out _)|exact HI328.out));(case side2=>repeat (first|(with_reducible first|exact HB.out|apply qf|apply qa|apply qd|refine qg ?_ (IsS140.ge HI328.out)|refine qg ?_ GE324.out|refine qg ?_ GE335.out)|exact HB.out));(case side3=>exact Kd.C_foot_own (IsS140.apart (show IsS140 w _ g328 t325 t333 t334 from by repeat (first|(with_reducible first|exact HI328.out|apply IsS140.alloc|apply IsS140.drewN|apply IsS140.drew|apply IsS140.set_1|apply IsS140.set_2|refine IsS140.far ?_ NB328_324.out _|refine IsS140.far ?_ NB328_335.out _)|exact HI328.out)) (by (with_reducible repeat (first|apply Kd.R_alloc|apply Kd.R_drewN|apply Kd.R_drew));exact (Kd.R_mono (Kd.R_far (p:=⟨gb335,1,none⟩) (Kd.R_far (p:=⟨gb335,0,none⟩) (Kd.R_types HO332.out BK335.out (by decide)) (fun _ hk=>hk.2) (.int .i64 t329)) (fun _ hk=>hk.2) (.slice Ao14 t330.length co14)) (fun _ h_=>h_.1))) (by decide)) (fun _ h_=>h_.2));(case side4=>exact (Kd.R_reads' HO332.out).2.1);rintro e w15 ⟨v337,rfl,ho0,hi,hb,hk⟩;refine ⟨_,rfl,?_⟩;have n0_:=qn.mk (KeepBut.blk hk (g':=gb324) (o:=.cells #[.int .i64 0,.slice none 0 0] 26 (0,0)) (by (with_reducible repeat (first|refine qb ?_ _|refine qe ?_|refine qc ?_ _));refine blk_far ?_ NB324_335.out _;(with_reducible repeat (first|refine qb ?_ _|refine qe ?_|refine qc ?_ _));refine blk_far ?_ NB324_335.out _;(with_reducible repeat (first|refine qb ?_ _|refine qe ?_|refine qc ?_ _));exact BK324.out) NB324_328.out (by simp));have n1_:=qn.mk (Kd.R_mono (Kd.R_keep (IsS140.apart (show IsS140 w _ g328 t325 t333 t334 from by repeat (first|(with_reducible first|exact HI328.out|apply IsS140.alloc|apply IsS140.drewN|apply IsS140.drew|apply IsS140.set_1|apply IsS140.set_2|refine IsS140.far ?_ NB328_324.out _|refine IsS140.far ?_ NB328_335.out _)|exact HI328.out)) (by (with_reducible repeat (first|apply Kd.R_alloc|apply Kd.R_drewN|apply Kd.R_drew));exact (Kd.R_mono (Kd.R_far (p:=⟨gb335,1,none⟩) (Kd.R_far (p:=⟨gb335,0,none⟩) (Kd.R_types HO332.out BK335.out (by decide)) (fun _ hk=>hk.2) (.int .i64 t329)) (fun _ hk=>hk.2) (.slice Ao14 t330.length co14)) (fun _ h_=>h_.1))) (by decide)) hk (fun _ h=>h.2)) (fun _ h=>h.1));have n2_:=qn.mk (KeepBut.blk hk (g':=gb335) (o:=.cells #[.int .i64 t329,.slice Ao14 t330.length co14] 26 (0,0)) (by (with_reducible repeat (first|refine qb ?_ _|refine qe ?_|refine qc ?_ _));refine blk_put (cs:=#[.int .i64 t329,.slice none 0 0]) ?_ 1 _ rfl;(with_reducible repeat (first|refine qb ?_ _|refine qe ?_|refine qc ?_ _));refine blk_put (cs:=#[.int .i64 0,.slice none 0 0]) ?_ 0 _ rfl;(with_reducible repeat (first|refine qb ?_ _|refine qe ?_|refine qc ?_ _));exact BK335.out) NB335_328.out (by simp));have n3_:=qn.mk (Kd.R_lower ho0 (qj (by repeat (first|(with_reducible first|exact HB.out|apply qf|apply qa|apply qd|refine qg ?_ (IsS140.ge HI328.out)|refine qg ?_ GE324.out|refine qg ?_ GE335.out)|exact HB.out))));have n4_:=qn.mk (hb);have n5_:=qn.mk (hi);clear BK324;clear HO332;clear BK335;clear HB;clear HI328;have BK324:=n0_;have HO332:=n1_;have BK335:=n2_;have HO338:=n3_;have HB:=n4_;have HI328:=n5_;clear n0_ n1_ n2_ n3_ n4_ n5_;(try clear hb);(try clear hb2);(try clear hk);(try clear hi);(try clear ho0);have hcz16_0 : w15.cell? ⟨gb335,0,none⟩ = some (.int .i64 t329):=(qh BK335.out 0).trans rfl;have hcz16_1 : w15.cell? ⟨gb335,1,none⟩ = some (.slice Ao14 t330.length co14):=(qh BK335.out 1).trans rfl;have hfz16_0:=qi BK335.out 0;have hfz16_1:=qi BK335.out 1;obtain ⟨Ao17,co17,eo17⟩:=Kd.R_slice HO338.out;subst eo17)|((with_reducible refine gate_callee (f:=90) rfl ?_);refine goesL_ (some 16) rfl rfl Try.func90 (by kernel_rfl) rfl #[.agg #[.int .i64 t329,.slice Ao14 t330.length co14],.slice Ao17 t336.length co17] rfl (by (try simp only [List.map_toArray,List.map_cons,List.map_nil]);first|done|rfl|(simp only [List.length_drop,List.length_take];rfl)) ?_;(with_reducible refine (spec_MatchOk.calls k t329 _ _ t330 _ _ t336 true _ ?side1 ?side2 ?side3 ?side4 A5.out).mono ?_);(case side1=>repeat (first|exact (Kd.R_reads' HO332.out).2.2|(with_reducible refine Kd.C_alloc ?_ _)|(with_reducible refine Kd.C_drewN ?_ _)|(with_reducible refine Kd.C_drew ?_)));(case side2=>exact (Kd.R_reads' HO332.out).2.1);(case side3=>repeat (first|exact (Kd.R_reads' HO338.out).2.2|(with_reducible refine Kd.C_alloc ?_ _)|(with_reducible refine Kd.C_drewN ?_ _)|(with_reducible refine Kd.C_drew ?_)));(case side4=>exact (Kd.R_reads' HO338.out).2.1);rintro e w18 ⟨rfl,hb⟩;refine ⟨_,rfl,?_⟩;have n0_:=rb_ HO332 hb;have n1_:=rb_ HO338 hb;have n2_:=bb_ BK324 hb;have n3_:=qn.mk (IsS140.below (by repeat (first|(with_reducible first|exact HI328.out|apply IsS140.alloc|apply IsS140.drewN|apply IsS140.drew|apply IsS140.set_1|apply IsS140.set_2|refine IsS140.far ?_ NB328_324.out _|refine IsS140.far ?_ NB328_335.out _)|exact HI328.out)) hb);have n4_:=bb_ BK335 hb;have n5_:=qn.mk (qm (by repeat (first|(with_reducible first|exact HB.out|apply qf|apply qa|apply qd|refine qg ?_ (IsS140.ge HI328.out)|refine qg ?_ GE324.out|refine qg ?_ GE335.out)|exact HB.out)) hb);clear HO332;clear HO338;clear BK324;clear HI328;clear BK335;clear HB;have HO332:=n0_;have HO338:=n1_;have BK324:=n2_;have HI328:=n3_;have BK335:=n4_;have HB:=n5_;clear n0_ n1_ n2_ n3_ n4_ n5_;(try clear hb);(try clear hb2);(try clear hk);(try clear hi);have hcz19_0 : w18.cell? ⟨gb335,0,none⟩ = some (.int .i64 t329):=(qh BK335.out 0).trans rfl;have hcz19_1 : w18.cell? ⟨gb335,1,none⟩ = some (.slice Ao14 t330.length co14):=(qh BK335.out 1).trans rfl;have hfz19_0:=qi BK335.out 0;have hfz19_1:=qi BK335.out 1;have hnb20:=NB324_328.out;have hnc20:=NB328_324.out;have hcz21_0 : w18.cell? ⟨gb324,0,none⟩ = some (.int .i64 0):=(qh BK324.out 0).trans rfl;have hcz21_1 : w18.cell? ⟨gb324,1,none⟩ = some (.slice none 0 0):=(qh BK324.out 1).trans rfl;have hfz21_0:=qi BK324.out 0;have hfz21_1:=qi BK324.out 1))
  refine bodyPost_ret (results_ct rfl _ _ gb324 26 #[.int .i64 t329,.slice Ao14 t330.length co14] (0,0) _ rfl (by (with_reducible repeat (first|refine qb ?_ _|refine qe ?_|refine qc ?_ _));refine blk_put (cs:=#[.int .i64 t329,.slice none 0 0]) ?_ 1 _ rfl;(with_reducible repeat (first|refine qb ?_ _|refine qe ?_|refine qc ?_ _));refine blk_put (cs:=#[.int .i64 0,.slice none 0 0]) ?_ 0 _ rfl;(with_reducible repeat (first|refine qb ?_ _|refine qe ?_|refine qc ?_ _));exact BK324.out) Try.underlying26 rfl (by kernel_rfl)) rfl ?_
  exact ⟨_,_,by first|rfl|(simp [errW_none,errW_some] <;> rfl)|(simp [*,errW_none,errW_some] <;> rfl),by (with_reducible repeat (first|apply Kd.R_alloc|apply Kd.R_drewN|apply Kd.R_drew));exact Kd.R_mono (Kd.R_far (p:=⟨gb324,1,none⟩) (Kd.R_far (p:=⟨gb324,0,none⟩) (Kd.R_types HO332.out BK324.out (by decide)) (fun _ hk=>hk.2) (.int .i64 t329)) (fun _ hk=>hk.2) (.slice Ao14 t330.length co14)) (fun _ hk=>trivial),by (with_reducible repeat (first|apply Kd.R_alloc|apply Kd.R_drewN|apply Kd.R_drew));exact Kd.R_mono (Kd.R_far (p:=⟨gb324,1,none⟩) (Kd.R_far (p:=⟨gb324,0,none⟩) (Kd.R_types HO338.out BK324.out (by decide)) (fun _ hk=>hk.2) (.int .i64 t329)) (fun _ hk=>hk.2) (.slice Ao14 t330.length co14)) (fun _ hk=>trivial),by repeat (first|(with_reducible first|exact HB.out|apply qf|apply qa|apply qd|refine qg ?_ (IsS140.ge HI328.out)|refine qg ?_ GE324.out|refine qg ?_ GE335.out)|exact HB.out)⟩
 ·replace c6:=Bool.eq_false_iff.mpr c6
  subst c6
  have H1 : (some (t329,t330,(([] : List (S130))))) = some (r1,r2,r3):=by rw [if_neg (show ¬ (false = true) by decide)] at H;exact H
  clear H
  have H:=H1
  clear H1
  obtain ⟨y342,hy342⟩ : ∃ y_ : List (S130),y_ = (([] : List (S130))):=⟨_,rfl⟩
  replace H : (some (t329,t330,y342)) = some (r1,r2,r3):=by first|(rw [hy342];with_reducible exact H)|(have H2_:=(Option.bind_some _ _).symm.trans H;rw [hy342];with_reducible exact H2_)|(have H2_:=(Option.bind_some _ _).symm.trans H;with_reducible exact H2_)|with_reducible exact H|(rw [hy342];exact H)|exact H
  have Ny342:=qn.mk hy342
  clear hy342
  simp only [Option.some.injEq,Prod.mk.injEq] at H
  obtain ⟨rfl,rfl,rfl⟩:=H
  go_enter Try.func41,Try.ntmps41
  go_wp2_with (first|((with_reducible refine gate_dst (N:=2) rfl ?_);refine box_event ?hg (N:=2) ?hd (cs:=#[.int .i64 0,.slice none 0 0]) (t:=26) ?hr ?_;(case hd=>rfl);(case hg=>rfl);(case hr=>first|(go_simp;done)|(go_simp;rfl));intro gb324 hg w22 hbox hb;have n0_:=hs_ HB hb;have n1_:=qn.mk (hbox);have n2_:=qn.mk ((by rw [hg];exact (qj (by repeat (first|(with_reducible first|exact HB.out|apply qf|apply qa|apply qd)|exact HB.out))) : w.heap.size ≤ gb324));have n3_:=qn.mk ((by rw [hg];exact (qj (by repeat (first|(with_reducible first|exact HB.out|apply qf|apply qa|apply qd)|exact HB.out))) : w.heap.size ≤ gb324));clear HB;have HB:=n0_;have BK324:=n1_;have GW324:=n2_;have GE324:=n3_;clear n0_ n1_ n2_ n3_;clear hb hbox hg)|((with_reducible refine gate_callee (f:=56) rfl ?_);refine goesL_ (some 8) rfl rfl Try.func56 (by kernel_rfl) rfl #[.slice A0 l0.length c0] rfl (by (try simp only [List.map_toArray,List.map_cons,List.map_nil]);first|done|rfl|(simp only [List.length_drop,List.length_take];rfl)) ?_;(with_reducible refine (spec_l01New.calls k _ _ l0 t325 t326 t327 w _ ?side1 ?side2 ?side3 A2.out).mono ?_);(case side1=>repeat (first|(with_reducible first|exact HB.out|apply qf|apply qa|apply qd|refine qg ?_ GE324.out)|exact HB.out));(case side2=>exact HR0.out);(case side3=>exact HC0.out);rintro e w23 ⟨g328,rfl,hi,hb,hb2⟩;refine ⟨_,rfl,?_⟩;have n0_:=qn.mk (ql (g:=gb324) (o:=.cells #[.int .i64 0,.slice none 0 0] 26 (0,0)) (by (with_reducible repeat (first|refine qb ?_ _|refine qe ?_|refine qc ?_ _));exact BK324.out) hb2);have n1_:=qn.mk (hb);have n2_:=qn.mk (hi);have n3_:=qn.mk (IsS140.ne_blk hi (ql (g:=gb324) (o:=.cells #[.int .i64 0,.slice none 0 0] 26 (0,0)) (by (with_reducible repeat (first|refine qb ?_ _|refine qe ?_|refine qc ?_ _));exact BK324.out) hb2) (by decide));have n4_:=qn.mk (Ne.symm (IsS140.ne_blk hi (ql (g:=gb324) (o:=.cells #[.int .i64 0,.slice none 0 0] 26 (0,0)) (by (with_reducible repeat (first|refine qb ?_ _|refine qe ?_|refine qc ?_ _));exact BK324.out) hb2) (by decide)));clear BK324;clear HB;have BK324:=n0_;have HB:=n1_;have HI328:=n2_;have NB328_324:=n3_;have NB324_328:=n4_;clear n0_ n1_ n2_ n3_ n4_;(try clear hb);(try clear hb2);(try clear hk);(try clear hi))|((with_reducible refine gate_callee (f:=55) rfl ?_);refine goesL_ (some 10) rfl rfl Try.func55 (by kernel_rfl) rfl #[.pointer (some ⟨g328,0,none⟩)] rfl (by (try simp only [List.map_toArray,List.map_cons,List.map_nil]);first|done|rfl|(simp only [List.length_drop,List.length_take];rfl)) ?_;(with_reducible refine (spec_l08Graph.calls k g328 t325 t326 t327 t329 t330 t333 t334 w _ ?side1 ?side2 A3.out).mono ?_);(case side1=>repeat (first|(with_reducible first|exact HI328.out|apply IsS140.alloc|apply IsS140.drewN|apply IsS140.drew|apply IsS140.set_1|apply IsS140.set_2|refine IsS140.far ?_ NB328_324.out _)|exact HI328.out));(case side2=>repeat (first|(with_reducible first|exact HB.out|apply qf|apply qa|apply qd|refine qg ?_ (IsS140.ge HI328.out)|refine qg ?_ GE324.out)|exact HB.out));rintro e w24 ⟨v331,rfl,ho0,hi,hb,hk⟩;refine ⟨_,rfl,?_⟩;have n0_:=qn.mk (KeepBut.blk hk (g':=gb324) (o:=.cells #[.int .i64 0,.slice none 0 0] 26 (0,0)) (by (with_reducible repeat (first|refine qb ?_ _|refine qe ?_|refine qc ?_ _));exact BK324.out) NB324_328.out (by simp));have n1_:=qn.mk (Kd.R_lower ho0 (qj (by repeat (first|(with_reducible first|exact HB.out|apply qf|apply qa|apply qd|refine qg ?_ (IsS140.ge HI328.out)|refine qg ?_ GE324.out)|exact HB.out))));have n2_:=qn.mk (hb);have n3_:=qn.mk (hi);clear BK324;clear HB;clear HI328;have BK324:=n0_;have HO332:=n1_;have HB:=n2_;have HI328:=n3_;clear n0_ n1_ n2_ n3_;(try clear hb);(try clear hb2);(try clear hk);(try clear hi);(try clear ho0))|((with_reducible refine gate_dst (N:=5) rfl ?_);refine box_event ?hg (N:=5) ?hd (cs:=#[.int .i64 0,.slice none 0 0]) (t:=26) ?hr ?_;(case hd=>rfl);(case hg=>rfl);(case hr=>first|(go_simp;done)|(go_simp;rfl));intro gb335 hg w25 hbox hb;have n0_:=rb_ HO332 hb;have n1_:=bb_ BK324 hb;have n2_:=qn.mk (IsS140.below (by repeat (first|(with_reducible first|exact HI328.out|apply IsS140.alloc|apply IsS140.drewN|apply IsS140.drew|apply IsS140.set_1|apply IsS140.set_2|refine IsS140.far ?_ NB328_324.out _)|exact HI328.out)) hb);have n3_:=qn.mk (qm (by repeat (first|(with_reducible first|exact HB.out|apply qf|apply qa|apply qd|refine qg ?_ (IsS140.ge HI328.out)|refine qg ?_ GE324.out)|exact HB.out)) hb);have n4_:=qn.mk (hbox);have n5_:=qn.mk ((by rw [hg];exact (qj (by repeat (first|(with_reducible first|exact HB.out|apply qf|apply qa|apply qd|refine qg ?_ (IsS140.ge HI328.out)|refine qg ?_ GE324.out)|exact HB.out))) : w.heap.size ≤ gb335));have n6_:=qn.mk ((by rw [hg];exact (qj (by repeat (first|(with_reducible first|exact HB.out|apply qf|apply qa|apply qd|refine qg ?_ (IsS140.ge HI328.out)|refine qg ?_ GE324.out)|exact HB.out))) : w.heap.size ≤ gb335));have n7_:=qn.mk ((by rw [hg];exact nl_ BK324 : gb324 ≠ gb335));have n8_:=qn.mk ((by rw [hg];exact ng_ BK324 : gb335 ≠ gb324));have n9_:=qn.mk ((by rw [hg];exact Nat.ne_of_lt (IsS140.lt (show IsS140 w _ g328 t325 t333 t334 from by repeat (first|(with_reducible first|exact HI328.out|apply IsS140.alloc|apply IsS140.drewN|apply IsS140.drew|apply IsS140.set_1|apply IsS140.set_2|refine IsS140.far ?_ NB328_324.out _)|exact HI328.out))) : g328 ≠ gb335));have n10_:=qn.mk ((by rw [hg];exact Nat.ne_of_gt (IsS140.lt (show IsS140 w _ g328 t325 t333 t334 from by repeat (first|(with_reducible first|exact HI328.out|apply IsS140.alloc|apply IsS140.drewN|apply IsS140.drew|apply IsS140.set_1|apply IsS140.set_2|refine IsS140.far ?_ NB328_324.out _)|exact HI328.out))) : gb335 ≠ g328));clear HO332;clear BK324;clear HI328;clear HB;have HO332:=n0_;have BK324:=n1_;have HI328:=n2_;have HB:=n3_;have BK335:=n4_;have GW335:=n5_;have GE335:=n6_;have NB324_335:=n7_;have NB335_324:=n8_;have NB328_335:=n9_;have NB335_328:=n10_;clear n0_ n1_ n2_ n3_ n4_ n5_ n6_ n7_ n8_ n9_ n10_;clear hb hbox hg;have hnb26:=NB335_324.out;have hnc26:=NB324_335.out;have hnb27:=NB335_328.out;have hnc27:=NB328_335.out;have hcz28_0 : w25.cell? ⟨gb335,0,none⟩ = some (.int .i64 0):=(qh BK335.out 0).trans rfl;have hcz28_1 : w25.cell? ⟨gb335,1,none⟩ = some (.slice none 0 0):=(qh BK335.out 1).trans rfl;have hfz28_0:=qi BK335.out 0;have hfz28_1:=qi BK335.out 1;obtain ⟨Ao29,co29,eo29⟩:=Kd.R_slice HO332.out;subst eo29)|((with_reducible refine gate_callee (f:=89) rfl ?_);refine goesL_ (some 13) rfl rfl Try.func89 (by kernel_rfl) rfl #[.pointer (some ⟨g328,0,none⟩),.agg #[.int .i64 t329,.slice Ao29 t330.length co29]] rfl (by (try simp only [List.map_toArray,List.map_cons,List.map_nil]);first|done|rfl|(simp only [List.length_drop,List.length_take];rfl)) ?_;(with_reducible refine (spec_l09Match.calls k g328 t325 t333 t334 t329 _ _ t330 t336 t339 t340 w _ ?side1 ?side2 ?side3 ?side4 A4.out).mono ?_);(case side1=>repeat (first|(with_reducible first|exact HI328.out|apply IsS140.alloc|apply IsS140.drewN|apply IsS140.drew|apply IsS140.set_1|apply IsS140.set_2|refine IsS140.far ?_ NB328_324.out _|refine IsS140.far ?_ NB328_335.out _)|exact HI328.out));(case side2=>repeat (first|(with_reducible first|exact HB.out|apply qf|apply qa|apply qd|refine qg ?_ (IsS140.ge HI328.out)|refine qg ?_ GE324.out|refine qg ?_ GE335.out)|exact HB.out));(case side3=>exact Kd.C_foot_own (IsS140.apart (show IsS140 w _ g328 t325 t333 t334 from by repeat (first|(with_reducible first|exact HI328.out|apply IsS140.alloc|apply IsS140.drewN|apply IsS140.drew|apply IsS140.set_1|apply IsS140.set_2|refine IsS140.far ?_ NB328_324.out _|refine IsS140.far ?_ NB328_335.out _)|exact HI328.out)) (by (with_reducible repeat (first|apply Kd.R_alloc|apply Kd.R_drewN|apply Kd.R_drew));exact (Kd.R_mono (Kd.R_far (p:=⟨gb335,1,none⟩) (Kd.R_far (p:=⟨gb335,0,none⟩) (Kd.R_types HO332.out BK335.out (by decide)) (fun _ hk=>hk.2) (.int .i64 t329)) (fun _ hk=>hk.2) (.slice Ao29 t330.length co29)) (fun _ h_=>h_.1))) (by decide)) (fun _ h_=>h_.2));(case side4=>exact (Kd.R_reads' HO332.out).2.1);rintro e w30 ⟨v337,rfl,ho0,hi,hb,hk⟩;refine ⟨_,rfl,?_⟩;have n0_:=qn.mk (KeepBut.blk hk (g':=gb324) (o:=.cells #[.int .i64 0,.slice none 0 0] 26 (0,0)) (by (with_reducible repeat (first|refine qb ?_ _|refine qe ?_|refine qc ?_ _));refine blk_far ?_ NB324_335.out _;(with_reducible repeat (first|refine qb ?_ _|refine qe ?_|refine qc ?_ _));refine blk_far ?_ NB324_335.out _;(with_reducible repeat (first|refine qb ?_ _|refine qe ?_|refine qc ?_ _));exact BK324.out) NB324_328.out (by simp));have n1_:=qn.mk (Kd.R_mono (Kd.R_keep (IsS140.apart (show IsS140 w _ g328 t325 t333 t334 from by repeat (first|(with_reducible first|exact HI328.out|apply IsS140.alloc|apply IsS140.drewN|apply IsS140.drew|apply IsS140.set_1|apply IsS140.set_2|refine IsS140.far ?_ NB328_324.out _|refine IsS140.far ?_ NB328_335.out _)|exact HI328.out)) (by (with_reducible repeat (first|apply Kd.R_alloc|apply Kd.R_drewN|apply Kd.R_drew));exact (Kd.R_mono (Kd.R_far (p:=⟨gb335,1,none⟩) (Kd.R_far (p:=⟨gb335,0,none⟩) (Kd.R_types HO332.out BK335.out (by decide)) (fun _ hk=>hk.2) (.int .i64 t329)) (fun _ hk=>hk.2) (.slice Ao29 t330.length co29)) (fun _ h_=>h_.1))) (by decide)) hk (fun _ h=>h.2)) (fun _ h=>h.1));have n2_:=qn.mk (KeepBut.blk hk (g':=gb335) (o:=.cells #[.int .i64 t329,.slice Ao29 t330.length co29] 26 (0,0)) (by (with_reducible repeat (first|refine qb ?_ _|refine qe ?_|refine qc ?_ _));refine blk_put (cs:=#[.int .i64 t329,.slice none 0 0]) ?_ 1 _ rfl;(with_reducible repeat (first|refine qb ?_ _|refine qe ?_|refine qc ?_ _));refine blk_put (cs:=#[.int .i64 0,.slice none 0 0]) ?_ 0 _ rfl;(with_reducible repeat (first|refine qb ?_ _|refine qe ?_|refine qc ?_ _));exact BK335.out) NB335_328.out (by simp));have n3_:=qn.mk (Kd.R_lower ho0 (qj (by repeat (first|(with_reducible first|exact HB.out|apply qf|apply qa|apply qd|refine qg ?_ (IsS140.ge HI328.out)|refine qg ?_ GE324.out|refine qg ?_ GE335.out)|exact HB.out))));have n4_:=qn.mk (hb);have n5_:=qn.mk (hi);clear BK324;clear HO332;clear BK335;clear HB;clear HI328;have BK324:=n0_;have HO332:=n1_;have BK335:=n2_;have HO338:=n3_;have HB:=n4_;have HI328:=n5_;clear n0_ n1_ n2_ n3_ n4_ n5_;(try clear hb);(try clear hb2);(try clear hk);(try clear hi);(try clear ho0);have hcz31_0 : w30.cell? ⟨gb335,0,none⟩ = some (.int .i64 t329):=(qh BK335.out 0).trans rfl;have hcz31_1 : w30.cell? ⟨gb335,1,none⟩ = some (.slice Ao29 t330.length co29):=(qh BK335.out 1).trans rfl;have hfz31_0:=qi BK335.out 0;have hfz31_1:=qi BK335.out 1;obtain ⟨Ao32,co32,eo32⟩:=Kd.R_slice HO338.out;subst eo32)|((with_reducible refine gate_callee (f:=90) rfl ?_);refine goesL_ (some 16) rfl rfl Try.func90 (by kernel_rfl) rfl #[.agg #[.int .i64 t329,.slice Ao29 t330.length co29],.slice Ao32 t336.length co32] rfl (by (try simp only [List.map_toArray,List.map_cons,List.map_nil]);first|done|rfl|(simp only [List.length_drop,List.length_take];rfl)) ?_;(with_reducible refine (spec_MatchOk.calls k t329 _ _ t330 _ _ t336 false _ ?side1 ?side2 ?side3 ?side4 A5.out).mono ?_);(case side1=>repeat (first|exact (Kd.R_reads' HO332.out).2.2|(with_reducible refine Kd.C_alloc ?_ _)|(with_reducible refine Kd.C_drewN ?_ _)|(with_reducible refine Kd.C_drew ?_)));(case side2=>exact (Kd.R_reads' HO332.out).2.1);(case side3=>repeat (first|exact (Kd.R_reads' HO338.out).2.2|(with_reducible refine Kd.C_alloc ?_ _)|(with_reducible refine Kd.C_drewN ?_ _)|(with_reducible refine Kd.C_drew ?_)));(case side4=>exact (Kd.R_reads' HO338.out).2.1);rintro e w33 ⟨rfl,hb⟩;refine ⟨_,rfl,?_⟩;have n0_:=rb_ HO332 hb;have n1_:=rb_ HO338 hb;have n2_:=bb_ BK324 hb;have n3_:=qn.mk (IsS140.below (by repeat (first|(with_reducible first|exact HI328.out|apply IsS140.alloc|apply IsS140.drewN|apply IsS140.drew|apply IsS140.set_1|apply IsS140.set_2|refine IsS140.far ?_ NB328_324.out _|refine IsS140.far ?_ NB328_335.out _)|exact HI328.out)) hb);have n4_:=bb_ BK335 hb;have n5_:=qn.mk (qm (by repeat (first|(with_reducible first|exact HB.out|apply qf|apply qa|apply qd|refine qg ?_ (IsS140.ge HI328.out)|refine qg ?_ GE324.out|refine qg ?_ GE335.out)|exact HB.out)) hb);clear HO332;clear HO338;clear BK324;clear HI328;clear BK335;clear HB;have HO332:=n0_;have HO338:=n1_;have BK324:=n2_;have HI328:=n3_;have BK335:=n4_;have HB:=n5_;clear n0_ n1_ n2_ n3_ n4_ n5_;(try clear hb);(try clear hb2);(try clear hk);(try clear hi);have hcz34_0 : w33.cell? ⟨gb335,0,none⟩ = some (.int .i64 t329):=(qh BK335.out 0).trans rfl;have hcz34_1 : w33.cell? ⟨gb335,1,none⟩ = some (.slice Ao29 t330.length co29):=(qh BK335.out 1).trans rfl;have hfz34_0:=qi BK335.out 0;have hfz34_1:=qi BK335.out 1)|((with_reducible refine gate_dst (N:=19) rfl ?_);refine Kd.R_lit k130 _ 130 ?hg (N:=19) ?hd (xs:=([] : List (S130))) (inner:=[]) (ok:=fun _=>True) (okp:=fun _=>True) ?hr ?hp (fun _ hk=>hk) trivial (Below.refl _ _) (Nat.le_refl _) (by simp) ?_;(case hd=>rfl);(case hg=>rfl);(case hr=>first|(go_simp;done)|(go_simp;rfl));(case hp=>exact (Reps.none _ _));intro v343 w35 ho36 hb hg_ hnew_;clear hg_ hnew_;(first|rw [← Ny342.out] at ho36|(simp only [Int.reduceToNat] at ho36;rw [← Ny342.out] at ho36));have n0_:=rb_ HO332 hb;have n1_:=qn.mk (Kd.R_elder' (by (with_reducible repeat (first|apply Kd.R_alloc|apply Kd.R_drewN|apply Kd.R_drew));exact HO338.out) (Kd.R_base ho36) hb);have n2_:=qn.mk (Kd.R_lower (Kd.R_new' ho36 (Kd.R_lt (by (with_reducible repeat (first|apply Kd.R_alloc|apply Kd.R_drewN|apply Kd.R_drew));exact HO338.out))) (qj (by repeat (first|(with_reducible first|exact HB.out|apply qf|apply qa|apply qd|refine qg ?_ (IsS140.ge HI328.out)|refine qg ?_ GE324.out|refine qg ?_ GE335.out)|exact HB.out))));have n3_:=bb_ BK324 hb;have n4_:=qn.mk (IsS140.below (by repeat (first|(with_reducible first|exact HI328.out|apply IsS140.alloc|apply IsS140.drewN|apply IsS140.drew|apply IsS140.set_1|apply IsS140.set_2|refine IsS140.far ?_ NB328_324.out _|refine IsS140.far ?_ NB328_335.out _)|exact HI328.out)) hb);have n5_:=bb_ BK335 hb;have n6_:=qn.mk (qm (by repeat (first|(with_reducible first|exact HB.out|apply qf|apply qa|apply qd|refine qg ?_ (IsS140.ge HI328.out)|refine qg ?_ GE324.out|refine qg ?_ GE335.out)|exact HB.out)) hb);clear HO332;clear HO338;clear BK324;clear HI328;clear BK335;clear HB;have HO332:=n0_;have HO338:=n1_;have HO344:=n2_;have BK324:=n3_;have HI328:=n4_;have BK335:=n5_;have HB:=n6_;clear n0_ n1_ n2_ n3_ n4_ n5_ n6_;clear hb ho36;have hnb37:=NB324_328.out;have hnc37:=NB328_324.out;have hcz38_0 : w35.cell? ⟨gb324,0,none⟩ = some (.int .i64 0):=(qh BK324.out 0).trans rfl;have hcz38_1 : w35.cell? ⟨gb324,1,none⟩ = some (.slice none 0 0):=(qh BK324.out 1).trans rfl;have hfz38_0:=qi BK324.out 0;have hfz38_1:=qi BK324.out 1))
  refine bodyPost_ret (results_ct rfl _ _ gb324 26 #[.int .i64 t329,.slice Ao29 t330.length co29] (0,0) _ rfl (by (with_reducible repeat (first|refine qb ?_ _|refine qe ?_|refine qc ?_ _));refine blk_put (cs:=#[.int .i64 t329,.slice none 0 0]) ?_ 1 _ rfl;(with_reducible repeat (first|refine qb ?_ _|refine qe ?_|refine qc ?_ _));refine blk_put (cs:=#[.int .i64 0,.slice none 0 0]) ?_ 0 _ rfl;(with_reducible repeat (first|refine qb ?_ _|refine qe ?_|refine qc ?_ _));exact BK324.out) Try.underlying26 rfl (by kernel_rfl)) rfl ?_
  exact ⟨_,_,by first|rfl|(simp [errW_none,errW_some] <;> rfl)|(simp [*,errW_none,errW_some] <;> rfl),by (with_reducible repeat (first|apply Kd.R_alloc|apply Kd.R_drewN|apply Kd.R_drew));exact Kd.R_mono (Kd.R_far (p:=⟨gb324,1,none⟩) (Kd.R_far (p:=⟨gb324,0,none⟩) (Kd.R_types HO332.out BK324.out (by decide)) (fun _ hk=>hk.2) (.int .i64 t329)) (fun _ hk=>hk.2) (.slice Ao29 t330.length co29)) (fun _ hk=>trivial),by (with_reducible repeat (first|apply Kd.R_alloc|apply Kd.R_drewN|apply Kd.R_drew));exact Kd.R_mono (Kd.R_far (p:=⟨gb324,1,none⟩) (Kd.R_far (p:=⟨gb324,0,none⟩) (Kd.R_types HO344.out BK324.out (by decide)) (fun _ hk=>hk.2) (.int .i64 t329)) (fun _ hk=>hk.2) (.slice Ao29 t330.length co29)) (fun _ hk=>trivial),by repeat (first|(with_reducible first|exact HB.out|apply qf|apply qa|apply qd|refine qg ?_ (IsS140.ge HI328.out)|refine qg ?_ GE324.out|refine qg ?_ GE335.out)|exact HB.out)⟩

/-! ### impl_edgeAt: function 60 -/
def impl_edgeAt.l0 : Nat → Int → Int → List (S36) → Int → Int → Option (Int)
 | 0,_,_,_,_,_=>none
 | k + 1,x1,x2,x10,x11,x12=>if x12 < x11 then (if 0 ≤ x12 then (if x12 < (x10.length : Int) then (if ((rd_T36 x10 x12).f0) = x1 then (if ((rd_T36 x10 x12).f1) = x2 then (some x12) else (if ((rd_T36 x10 x12).f0) = x2 then (if ((rd_T36 x10 x12).f1) = x1 then (some x12) else (impl_edgeAt.l0 k x1 x2 x10 x11 (wrap64 (x12 + 1)))) else (impl_edgeAt.l0 k x1 x2 x10 x11 (wrap64 (x12 + 1))))) else (if ((rd_T36 x10 x12).f0) = x2 then (if ((rd_T36 x10 x12).f1) = x1 then (some x12) else (impl_edgeAt.l0 k x1 x2 x10 x11 (wrap64 (x12 + 1)))) else (impl_edgeAt.l0 k x1 x2 x10 x11 (wrap64 (x12 + 1))))) else (none)) else (none)) else (some (-1))
def impl_edgeAt.f (k : Nat) (a0_0 : Int) (l0_1 : List (S36)) (a1 : Int) (a2 : Int) : Option (Int):=impl_edgeAt.l0 k a1 a2 l0_1 (l0_1.length : Int) 0
theorem impl_edgeAt.mono_l : ∀ k,(∀ y0 y1 y2 y3 y4,LeO (impl_edgeAt.l0 k y0 y1 y2 y3 y4) (impl_edgeAt.l0 (k + 1) y0 y1 y2 y3 y4))
 | 0=>fun _ _ _ _ _ r h=>by simp [impl_edgeAt.l0] at h
 | k + 1=>by
  have ih0:=impl_edgeAt.mono_l k
  ·intro y0 y1 y2 y3 y4
   unfold impl_edgeAt.l0
   repeat' first
   | (with_reducible exact ih0 _ _ _ _ _)
   | (with_reducible exact LeO.refl _)
   | (with_reducible exact LeO.none _)
   | (with_reducible refine LeO.ite ?_ ?_)
   | (with_reducible refine LeO.bind ?_ (fun _=>?_))
   | exact ih0 _ _ _ _ _
   | exact LeO.none _
   | refine LeO.ite ?_ ?_
   | refine LeO.bind ?_ (fun _=>?_)
theorem impl_edgeAt.mono : ∀ a0 a1 a2 a3 k,LeO (impl_edgeAt.f k a0 a1 a2 a3) (impl_edgeAt.f (k + 1) a0 a1 a2 a3):=by
 intro a0 a1 a2 a3 k
 have ih0:=impl_edgeAt.mono_l k
 unfold impl_edgeAt.f
 repeat' first
   | (with_reducible exact ih0 _ _ _ _ _)
   | (with_reducible exact LeO.refl _)
   | (with_reducible exact LeO.none _)
   | (with_reducible refine LeO.ite ?_ ?_)
   | (with_reducible refine LeO.bind ?_ (fun _=>?_))
   | exact ih0 _ _ _ _ _
   | exact LeO.none _
   | refine LeO.ite ?_ ?_
   | refine LeO.bind ?_ (fun _=>?_)
set_option maxHeartbeats 8000000 in
set_option maxRecDepth 100000 in
theorem impl_edgeAt.calls (k : Nat) (a0_0 : Int) (A0_1 : Option Addr) (c0_1 : Nat) (l0_1 : List (S36)) (a1 : Int) (a2 : Int) (r : Int) (w : World) (hr0_1 : Kd.C k36 w A0_1 l0_1.length l0_1) (hc0_1 : l0_1.length ≤ c0_1) (h : impl_edgeAt.f k a0_0 l0_1 a1 a2 = some r) :
  Calls Try.prog 60 #[.agg #[.int .i64 a0_0,.slice A0_1 l0_1.length c0_1],.int .i64 a1,.int .i64 a2] w fun e w'=>e = .returned (.int .i64 r) ∧ Below w.heap.size w w':=by
 have hu26:=Try.underlying26
 have hu36:=Try.underlying36
 have HR0_1:=qn.mk hr0_1
 have HC0_1:=qn.mk hc0_1
 clear hr0_1 hc0_1
 have HB:=qn.mk (Below.refl w.heap.size w)
 have H : (impl_edgeAt.l0 k a1 a2 l0_1 (l0_1.length : Int) 0) = some r:=h
 clear h
 have H':=qn.mk H
 clear H
 go_enter Try.func60,Try.ntmps60
 go_wp2_with (first|((with_reducible refine gate_dst (N:=3) rfl ?_);refine box_event ?hg (N:=3) ?hd (cs:=#[.int .i64 a0_0,.slice A0_1 l0_1.length c0_1]) (t:=26) ?hr ?_;(case hd=>rfl);(case hg=>rfl);(case hr=>first|(go_simp;done)|(go_simp;rfl));intro gb345 hg w4 hbox hb;have n0_:=hs_ HB hb;have n1_:=qn.mk (hbox);have n2_:=qn.mk ((by rw [hg];exact (qj (by repeat (first|(with_reducible first|exact HB.out|apply qf|apply qa|apply qd)|exact HB.out))) : w.heap.size ≤ gb345));have n3_:=qn.mk ((by rw [hg];exact (qj (by repeat (first|(with_reducible first|exact HB.out|apply qf|apply qa|apply qd)|exact HB.out))) : w.heap.size ≤ gb345));clear HB;have HB:=n0_;have BK345:=n1_;have GW345:=n2_;have GE345:=n3_;clear n0_ n1_ n2_ n3_;clear hb hbox hg;have hcz5_0 : w4.cell? ⟨gb345,0,none⟩ = some (.int .i64 a0_0):=(qh BK345.out 0).trans rfl;have hcz5_1 : w4.cell? ⟨gb345,1,none⟩ = some (.slice A0_1 l0_1.length c0_1):=(qh BK345.out 1).trans rfl;have hfz5_0:=qi BK345.out 0;have hfz5_1:=qi BK345.out 1))
 go_loopg [12] k (fun kq v12 w'=>∃ (x12_1 : Int),v12 = .int .i64 x12_1 ∧ qn (impl_edgeAt.l0 kq a1 a2 l0_1 (l0_1.length : Int) x12_1 = some r) ∧ qn (kq ≤ k) ∧ qn (w'.heap[gb345]? = some (.cells #[.int .i64 a0_0,(.slice A0_1 l0_1.length c0_1)] 26 (0,0))) ∧ qn (Below w.heap.size w w'))
 case atStart=>exact ⟨(0),(by first|rfl|(simp;done)|(simp [*];done)),H',⟨Nat.le_refl _⟩,⟨by (with_reducible repeat (first|refine qb ?_ _|refine qe ?_|refine qc ?_ _));exact BK345.out⟩,⟨by repeat (first|(with_reducible first|exact HB.out|apply qf|apply qa|apply qd|refine qg ?_ GE345.out)|exact HB.out)⟩⟩
 case round =>
  clear H'
  try clear p2
  try clear hcz5_0
  try clear hcz5_1
  try clear hfz5_0
  try clear hfz5_1
  obtain ⟨x12_1,rfl,HA,HK1,BK345,HB⟩:=hrel
  cases gk with
  | zero=>exact absurd HA.out (by simp [impl_edgeAt.l0])
  | succ k1 =>
   have H:=HA.out
   clear HA
   simp only [impl_edgeAt.l0] at H
   by_cases c6 : x12_1 < (l0_1.length : Int)
   ·rw [if_pos c6] at H
    have c6b0 : decide (x12_1 < (l0_1.length : Int)) = true:=decide_eq_true c6
    clear c6
    by_cases c7 : 0 ≤ x12_1
    ·rw [if_pos c7] at H
     have c7b0 : decide (0 ≤ x12_1) = true:=decide_eq_true c7
     clear c7
     by_cases c8 : x12_1 < (l0_1.length : Int)
     ·rw [if_pos c8] at H
      have c8b0 : decide (x12_1 < (l0_1.length : Int)) = true:=decide_eq_true c8
      clear c8
      by_cases c9 : ((rd_T36 l0_1 x12_1).f0) = a1
      ·rw [if_pos c9] at H
       have c9b0 : (((rd_T36 l0_1 x12_1).f0) == a1) = true:=beq_iff_eq.mpr c9
       have c9b1 : (((rd_T36 l0_1 x12_1).f0) != a1) = false:=bne_eq_false_iff_eq.mpr c9
       clear c9
       by_cases c10 : ((rd_T36 l0_1 x12_1).f1) = a2
       ·rw [if_pos c10] at H
        have c10b0 : (((rd_T36 l0_1 x12_1).f1) == a2) = true:=beq_iff_eq.mpr c10
        have c10b1 : (((rd_T36 l0_1 x12_1).f1) != a2) = false:=bne_eq_false_iff_eq.mpr c10
        clear c10
        obtain rfl:=Option.some.inj H
        have p346 : 0 ≤ (x12_1 : Int):=of_decide_eq_true (by first|(with_reducible assumption)|assumption)
        have q346 : x12_1 < (l0_1.length : Int):=of_decide_eq_true (by first|(with_reducible assumption)|assumption)
        obtain ⟨ad346,e346,hx346_0,hx346_1,hx346_2,hx346_3,hx346_4⟩:=at_T36 HR0_1.out x12_1 p346 q346
        cases e346
        replace hx346_0:=cb_ HB hx346_0
        replace hx346_1:=cb_ HB hx346_1
        replace hx346_2:=cb_ HB hx346_2
        replace hx346_3:=cb_ HB hx346_3
        replace hx346_4:=cb_ HB hx346_4
        replace p346:=eq_true p346
        replace q346:=eq_true q346
        go_wp2_with (first|((with_reducible refine gate_dst (N:=8) rfl ?_);refine box_event ?hg (N:=8) ?hd (cs:=#[.int .i64 0,.int .i64 0,.int .i64 0,.int .i64 0,.int .i64 0]) (t:=36) ?hr ?_;(case hd=>rfl);(case hg=>rfl);(case hr=>first|(go_simp;done)|(go_simp;rfl));intro gb347 hg w11 hbox hb;have n0_:=bb_ BK345 hb;have n1_:=hs_ HB hb;have n2_:=qn.mk (hbox);have n3_:=qn.mk ((by rw [hg];exact (qj (by repeat (first|(with_reducible first|exact HB.out|apply qf|apply qa|apply qd|refine qg ?_ GE345.out)|exact HB.out))) : w.heap.size ≤ gb347));have n4_:=qn.mk ((by rw [hg];exact (qj (by repeat (first|(with_reducible first|exact HB.out|apply qf|apply qa|apply qd|refine qg ?_ GE345.out)|exact HB.out))) : w.heap.size ≤ gb347));have n5_:=qn.mk ((by rw [hg];exact nl_ BK345 : gb345 ≠ gb347));have n6_:=qn.mk ((by rw [hg];exact ng_ BK345 : gb347 ≠ gb345));clear BK345;clear HB;have BK345:=n0_;have HB:=n1_;have BK347:=n2_;have GW347:=n3_;have GE347:=n4_;have NB345_347:=n5_;have NB347_345:=n6_;clear n0_ n1_ n2_ n3_ n4_ n5_ n6_;clear hb hbox hg;have hnb12:=NB347_345.out;have hnc12:=NB345_347.out;have hcz13_0 : w11.cell? ⟨gb347,0,none⟩ = some (.int .i64 0):=(qh BK347.out 0).trans rfl;have hcz13_1 : w11.cell? ⟨gb347,1,none⟩ = some (.int .i64 0):=(qh BK347.out 1).trans rfl;have hcz13_2 : w11.cell? ⟨gb347,2,none⟩ = some (.int .i64 0):=(qh BK347.out 2).trans rfl;have hcz13_3 : w11.cell? ⟨gb347,3,none⟩ = some (.int .i64 0):=(qh BK347.out 3).trans rfl;have hcz13_4 : w11.cell? ⟨gb347,4,none⟩ = some (.int .i64 0):=(qh BK347.out 4).trans rfl;have hfz13_0:=qi BK347.out 0;have hfz13_1:=qi BK347.out 1;have hfz13_2:=qi BK347.out 2;have hfz13_3:=qi BK347.out 3;have hfz13_4:=qi BK347.out 4))
        go_ret
        exact ⟨by first|rfl|(simp [errW_none,errW_some] <;> rfl)|(simp [*,errW_none,errW_some] <;> rfl),by repeat (first|(with_reducible first|exact HB.out|apply qf|apply qa|apply qd|refine qg ?_ GE345.out|refine qg ?_ GE347.out)|exact HB.out)⟩
       ·rw [if_neg c10] at H
        have c10b0 : (((rd_T36 l0_1 x12_1).f1) == a2) = false:=beq_eq_false_iff_ne.mpr c10
        have c10b1 : (((rd_T36 l0_1 x12_1).f1) != a2) = true:=bne_iff_ne.mpr c10
        by_cases c14 : ((rd_T36 l0_1 x12_1).f0) = a2
        ·rw [if_pos c14] at H
         have c14b0 : (((rd_T36 l0_1 x12_1).f0) == a2) = true:=beq_iff_eq.mpr c14
         have c14b1 : (((rd_T36 l0_1 x12_1).f0) != a2) = false:=bne_eq_false_iff_eq.mpr c14
         clear c14
         by_cases c15 : ((rd_T36 l0_1 x12_1).f1) = a1
         ·rw [if_pos c15] at H
          have c15b0 : (((rd_T36 l0_1 x12_1).f1) == a1) = true:=beq_iff_eq.mpr c15
          have c15b1 : (((rd_T36 l0_1 x12_1).f1) != a1) = false:=bne_eq_false_iff_eq.mpr c15
          clear c15
          obtain rfl:=Option.some.inj H
          have p346 : 0 ≤ (x12_1 : Int):=of_decide_eq_true (by first|(with_reducible assumption)|assumption)
          have q346 : x12_1 < (l0_1.length : Int):=of_decide_eq_true (by first|(with_reducible assumption)|assumption)
          obtain ⟨ad346,e346,hx346_0,hx346_1,hx346_2,hx346_3,hx346_4⟩:=at_T36 HR0_1.out x12_1 p346 q346
          cases e346
          replace hx346_0:=cb_ HB hx346_0
          replace hx346_1:=cb_ HB hx346_1
          replace hx346_2:=cb_ HB hx346_2
          replace hx346_3:=cb_ HB hx346_3
          replace hx346_4:=cb_ HB hx346_4
          replace p346:=eq_true p346
          replace q346:=eq_true q346
          go_wp2_with (first|((with_reducible refine gate_dst (N:=8) rfl ?_);refine box_event ?hg (N:=8) ?hd (cs:=#[.int .i64 0,.int .i64 0,.int .i64 0,.int .i64 0,.int .i64 0]) (t:=36) ?hr ?_;(case hd=>rfl);(case hg=>rfl);(case hr=>first|(go_simp;done)|(go_simp;rfl));intro gb347 hg w16 hbox hb;have n0_:=bb_ BK345 hb;have n1_:=hs_ HB hb;have n2_:=qn.mk (hbox);have n3_:=qn.mk ((by rw [hg];exact (qj (by repeat (first|(with_reducible first|exact HB.out|apply qf|apply qa|apply qd|refine qg ?_ GE345.out)|exact HB.out))) : w.heap.size ≤ gb347));have n4_:=qn.mk ((by rw [hg];exact (qj (by repeat (first|(with_reducible first|exact HB.out|apply qf|apply qa|apply qd|refine qg ?_ GE345.out)|exact HB.out))) : w.heap.size ≤ gb347));have n5_:=qn.mk ((by rw [hg];exact nl_ BK345 : gb345 ≠ gb347));have n6_:=qn.mk ((by rw [hg];exact ng_ BK345 : gb347 ≠ gb345));clear BK345;clear HB;have BK345:=n0_;have HB:=n1_;have BK347:=n2_;have GW347:=n3_;have GE347:=n4_;have NB345_347:=n5_;have NB347_345:=n6_;clear n0_ n1_ n2_ n3_ n4_ n5_ n6_;clear hb hbox hg;have hnb17:=NB347_345.out;have hnc17:=NB345_347.out;have hcz18_0 : w16.cell? ⟨gb347,0,none⟩ = some (.int .i64 0):=(qh BK347.out 0).trans rfl;have hcz18_1 : w16.cell? ⟨gb347,1,none⟩ = some (.int .i64 0):=(qh BK347.out 1).trans rfl;have hcz18_2 : w16.cell? ⟨gb347,2,none⟩ = some (.int .i64 0):=(qh BK347.out 2).trans rfl;have hcz18_3 : w16.cell? ⟨gb347,3,none⟩ = some (.int .i64 0):=(qh BK347.out 3).trans rfl;have hcz18_4 : w16.cell? ⟨gb347,4,none⟩ = some (.int .i64 0):=(qh BK347.out 4).trans rfl;have hfz18_0:=qi BK347.out 0;have hfz18_1:=qi BK347.out 1;have hfz18_2:=qi BK347.out 2;have hfz18_3:=qi BK347.out 3;have hfz18_4:=qi BK347.out 4))
          go_ret
          exact ⟨by first|rfl|(simp [errW_none,errW_some] <;> rfl)|(simp [*,errW_none,errW_some] <;> rfl),by repeat (first|(with_reducible first|exact HB.out|apply qf|apply qa|apply qd|refine qg ?_ GE345.out|refine qg ?_ GE347.out)|exact HB.out)⟩
         ·rw [if_neg c15] at H
          have c15b0 : (((rd_T36 l0_1 x12_1).f1) == a1) = false:=beq_eq_false_iff_ne.mpr c15
          have c15b1 : (((rd_T36 l0_1 x12_1).f1) != a1) = true:=bne_iff_ne.mpr c15
          have H':=qn.mk H
          clear H
          have p346 : 0 ≤ (x12_1 : Int):=of_decide_eq_true (by first|(with_reducible assumption)|assumption)
          have q346 : x12_1 < (l0_1.length : Int):=of_decide_eq_true (by first|(with_reducible assumption)|assumption)
          obtain ⟨ad346,e346,hx346_0,hx346_1,hx346_2,hx346_3,hx346_4⟩:=at_T36 HR0_1.out x12_1 p346 q346
          cases e346
          replace hx346_0:=cb_ HB hx346_0
          replace hx346_1:=cb_ HB hx346_1
          replace hx346_2:=cb_ HB hx346_2
          replace hx346_3:=cb_ HB hx346_3
          replace hx346_4:=cb_ HB hx346_4
          replace p346:=eq_true p346
          replace q346:=eq_true q346
          go_wp2_with (first|((with_reducible refine gate_dst (N:=8) rfl ?_);refine box_event ?hg (N:=8) ?hd (cs:=#[.int .i64 0,.int .i64 0,.int .i64 0,.int .i64 0,.int .i64 0]) (t:=36) ?hr ?_;(case hd=>rfl);(case hg=>rfl);(case hr=>first|(go_simp;done)|(go_simp;rfl));intro gb347 hg w19 hbox hb;have n0_:=bb_ BK345 hb;have n1_:=hs_ HB hb;have n2_:=qn.mk (hbox);have n3_:=qn.mk ((by rw [hg];exact (qj (by repeat (first|(with_reducible first|exact HB.out|apply qf|apply qa|apply qd|refine qg ?_ GE345.out)|exact HB.out))) : w.heap.size ≤ gb347));have n4_:=qn.mk ((by rw [hg];exact (qj (by repeat (first|(with_reducible first|exact HB.out|apply qf|apply qa|apply qd|refine qg ?_ GE345.out)|exact HB.out))) : w.heap.size ≤ gb347));have n5_:=qn.mk ((by rw [hg];exact nl_ BK345 : gb345 ≠ gb347));have n6_:=qn.mk ((by rw [hg];exact ng_ BK345 : gb347 ≠ gb345));clear BK345;clear HB;have BK345:=n0_;have HB:=n1_;have BK347:=n2_;have GW347:=n3_;have GE347:=n4_;have NB345_347:=n5_;have NB347_345:=n6_;clear n0_ n1_ n2_ n3_ n4_ n5_ n6_;clear hb hbox hg;have hnb20:=NB347_345.out;have hnc20:=NB345_347.out;have hcz21_0 : w19.cell? ⟨gb347,0,none⟩ = some (.int .i64 0):=(qh BK347.out 0).trans rfl;have hcz21_1 : w19.cell? ⟨gb347,1,none⟩ = some (.int .i64 0):=(qh BK347.out 1).trans rfl;have hcz21_2 : w19.cell? ⟨gb347,2,none⟩ = some (.int .i64 0):=(qh BK347.out 2).trans rfl;have hcz21_3 : w19.cell? ⟨gb347,3,none⟩ = some (.int .i64 0):=(qh BK347.out 3).trans rfl;have hcz21_4 : w19.cell? ⟨gb347,4,none⟩ = some (.int .i64 0):=(qh BK347.out 4).trans rfl;have hfz21_0:=qi BK347.out 0;have hfz21_1:=qi BK347.out 1;have hfz21_2:=qi BK347.out 2;have hfz21_3:=qi BK347.out 3;have hfz21_4:=qi BK347.out 4))
          go_roundg k1
          case measure=>have:=HK1.out;omega
          case rel=>exact ⟨(wrap64 (x12_1 + 1)),(by first|rfl|(simp;done)|(simp [*];done)),H',⟨by have:=HK1.out;omega⟩,⟨by (with_reducible repeat (first|refine qb ?_ _|refine qe ?_|refine qc ?_ _));refine blk_far ?_ NB345_347.out _;(with_reducible repeat (first|refine qb ?_ _|refine qe ?_|refine qc ?_ _));refine blk_far ?_ NB345_347.out _;(with_reducible repeat (first|refine qb ?_ _|refine qe ?_|refine qc ?_ _));refine blk_far ?_ NB345_347.out _;(with_reducible repeat (first|refine qb ?_ _|refine qe ?_|refine qc ?_ _));refine blk_far ?_ NB345_347.out _;(with_reducible repeat (first|refine qb ?_ _|refine qe ?_|refine qc ?_ _));refine blk_far ?_ NB345_347.out _;(with_reducible repeat (first|refine qb ?_ _|refine qe ?_|refine qc ?_ _));exact BK345.out⟩,⟨by repeat (first|(with_reducible first|exact HB.out|apply qf|apply qa|apply qd|refine qg ?_ GE345.out|refine qg ?_ GE347.out)|exact HB.out)⟩⟩
        ·rw [if_neg c14] at H
         have c14b0 : (((rd_T36 l0_1 x12_1).f0) == a2) = false:=beq_eq_false_iff_ne.mpr c14
         have c14b1 : (((rd_T36 l0_1 x12_1).f0) != a2) = true:=bne_iff_ne.mpr c14
         have H':=qn.mk H
         clear H
         have p346 : 0 ≤ (x12_1 : Int):=of_decide_eq_true (by first|(with_reducible assumption)|assumption)
         have q346 : x12_1 < (l0_1.length : Int):=of_decide_eq_true (by first|(with_reducible assumption)|assumption)
         obtain ⟨ad346,e346,hx346_0,hx346_1,hx346_2,hx346_3,hx346_4⟩:=at_T36 HR0_1.out x12_1 p346 q346
         cases e346
         replace hx346_0:=cb_ HB hx346_0
         replace hx346_1:=cb_ HB hx346_1
         replace hx346_2:=cb_ HB hx346_2
         replace hx346_3:=cb_ HB hx346_3
         replace hx346_4:=cb_ HB hx346_4
         replace p346:=eq_true p346
         replace q346:=eq_true q346
         go_wp2_with (first|((with_reducible refine gate_dst (N:=8) rfl ?_);refine box_event ?hg (N:=8) ?hd (cs:=#[.int .i64 0,.int .i64 0,.int .i64 0,.int .i64 0,.int .i64 0]) (t:=36) ?hr ?_;(case hd=>rfl);(case hg=>rfl);(case hr=>first|(go_simp;done)|(go_simp;rfl));intro gb347 hg w22 hbox hb;have n0_:=bb_ BK345 hb;have n1_:=hs_ HB hb;have n2_:=qn.mk (hbox);have n3_:=qn.mk ((by rw [hg];exact (qj (by repeat (first|(with_reducible first|exact HB.out|apply qf|apply qa|apply qd|refine qg ?_ GE345.out)|exact HB.out))) : w.heap.size ≤ gb347));have n4_:=qn.mk ((by rw [hg];exact (qj (by repeat (first|(with_reducible first|exact HB.out|apply qf|apply qa|apply qd|refine qg ?_ GE345.out)|exact HB.out))) : w.heap.size ≤ gb347));have n5_:=qn.mk ((by rw [hg];exact nl_ BK345 : gb345 ≠ gb347));have n6_:=qn.mk ((by rw [hg];exact ng_ BK345 : gb347 ≠ gb345));clear BK345;clear HB;have BK345:=n0_;have HB:=n1_;have BK347:=n2_;have GW347:=n3_;have GE347:=n4_;have NB345_347:=n5_;have NB347_345:=n6_;clear n0_ n1_ n2_ n3_ n4_ n5_ n6_;clear hb hbox hg;have hnb23:=NB347_345.out;have hnc23:=NB345_347.out;have hcz24_0 : w22.cell? ⟨gb347,0,none⟩ = some (.int .i64 0):=(qh BK347.out 0).trans rfl;have hcz24_1 : w22.cell? ⟨gb347,1,none⟩ = some (.int .i64 0):=(qh BK347.out 1).trans rfl;have hcz24_2 : w22.cell? ⟨gb347,2,none⟩ = some (.int .i64 0):=(qh BK347.out 2).trans rfl;have hcz24_3 : w22.cell? ⟨gb347,3,none⟩ = some (.int .i64 0):=(qh BK347.out 3).trans rfl;have hcz24_4 : w22.cell? ⟨gb347,4,none⟩ = some (.int .i64 0):=(qh BK347.out 4).trans rfl;have hfz24_0:=qi BK347.out 0;have hfz24_1:=qi BK347.out 1;have hfz24_2:=qi BK347.out 2;have hfz24_3:=qi BK347.out 3;have hfz24_4:=qi BK347.out 4))
         go_roundg k1
         case measure=>have:=HK1.out;omega
         case rel=>exact ⟨(wrap64 (x12_1 + 1)),(by first|rfl|(simp;done)|(simp [*];done)),H',⟨by have:=HK1.out;omega⟩,⟨by (with_reducible repeat (first|refine qb ?_ _|refine qe ?_|refine qc ?_ _));refine blk_far ?_ NB345_347.out _;(with_reducible repeat (first|refine qb ?_ _|refine qe ?_|refine qc ?_ _));refine blk_far ?_ NB345_347.out _;(with_reducible repeat (first|refine qb ?_ _|refine qe ?_|refine qc ?_ _));refine blk_far ?_ NB345_347.out _;(with_reducible repeat (first|refine qb ?_ _|refine qe ?_|refine qc ?_ _));refine blk_far ?_ NB345_347.out _;(with_reducible repeat (first|refine qb ?_ _|refine qe ?_|refine qc ?_ _));refine blk_far ?_ NB345_347.out _;(with_reducible repeat (first|refine qb ?_ _|refine qe ?_|refine qc ?_ _));exact BK345.out⟩,⟨by repeat (first|(with_reducible first|exact HB.out|apply qf|apply qa|apply qd|refine qg ?_ GE345.out|refine qg ?_ GE347.out)|exact HB.out)⟩⟩
      ·rw [if_neg c9] at H
       have c9b0 : (((rd_T36 l0_1 x12_1).f0) == a1) = false:=beq_eq_false_iff_ne.mpr c9
       have c9b1 : (((rd_T36 l0_1 x12_1).f0) != a1) = true:=bne_iff_ne.mpr c9
       by_cases c25 : ((rd_T36 l0_1 x12_1).f0) = a2
       ·rw [if_pos c25] at H
        have c25b0 : (((rd_T36 l0_1 x12_1).f0) == a2) = true:=beq_iff_eq.mpr c25
        have c25b1 : (((rd_T36 l0_1 x12_1).f0) != a2) = false:=bne_eq_false_iff_eq.mpr c25
        clear c25
        by_cases c26 : ((rd_T36 l0_1 x12_1).f1) = a1
        ·rw [if_pos c26] at H
         have c26b0 : (((rd_T36 l0_1 x12_1).f1) == a1) = true:=beq_iff_eq.mpr c26
         have c26b1 : (((rd_T36 l0_1 x12_1).f1) != a1) = false:=bne_eq_false_iff_eq.mpr c26
         clear c26
         obtain rfl:=Option.some.inj H
         have p346 : 0 ≤ (x12_1 : Int):=of_decide_eq_true (by first|(with_reducible assumption)|assumption)
         have q346 : x12_1 < (l0_1.length : Int):=of_decide_eq_true (by first|(with_reducible assumption)|assumption)
         obtain ⟨ad346,e346,hx346_0,hx346_1,hx346_2,hx346_3,hx346_4⟩:=at_T36 HR0_1.out x12_1 p346 q346
         cases e346
         replace hx346_0:=cb_ HB hx346_0
         replace hx346_1:=cb_ HB hx346_1
         replace hx346_2:=cb_ HB hx346_2
         replace hx346_3:=cb_ HB hx346_3
         replace hx346_4:=cb_ HB hx346_4
         replace p346:=eq_true p346
         replace q346:=eq_true q346
         go_wp2_with (first|((with_reducible refine gate_dst (N:=8) rfl ?_);refine box_event ?hg (N:=8) ?hd (cs:=#[.int .i64 0,.int .i64 0,.int .i64 0,.int .i64 0,.int .i64 0]) (t:=36) ?hr ?_;(case hd=>rfl);(case hg=>rfl);(case hr=>first|(go_simp;done)|(go_simp;rfl));intro gb347 hg w27 hbox hb;have n0_:=bb_ BK345 hb;have n1_:=hs_ HB hb;have n2_:=qn.mk (hbox);have n3_:=qn.mk ((by rw [hg];exact (qj (by repeat (first|(with_reducible first|exact HB.out|apply qf|apply qa|apply qd|refine qg ?_ GE345.out)|exact HB.out))) : w.heap.size ≤ gb347));have n4_:=qn.mk ((by rw [hg];exact (qj (by repeat (first|(with_reducible first|exact HB.out|apply qf|apply qa|apply qd|refine qg ?_ GE345.out)|exact HB.out))) : w.heap.size ≤ gb347));have n5_:=qn.mk ((by rw [hg];exact nl_ BK345 : gb345 ≠ gb347));have n6_:=qn.mk ((by rw [hg];exact ng_ BK345 : gb347 ≠ gb345));clear BK345;clear HB;have BK345:=n0_;have HB:=n1_;have BK347:=n2_;have GW347:=n3_;have GE347:=n4_;have NB345_347:=n5_;have NB347_345:=n6_;clear n0_ n1_ n2_ n3_ n4_ n5_ n6_;clear hb hbox hg;have hnb28:=NB347_345.out;have hnc28:=NB345_347.out;have hcz29_0 : w27.cell? ⟨gb347,0,none⟩ = some (.int .i64 0):=(qh BK347.out 0).trans rfl;have hcz29_1 : w27.cell? ⟨gb347,1,none⟩ = some (.int .i64 0):=(qh BK347.out 1).trans rfl;have hcz29_2 : w27.cell? ⟨gb347,2,none⟩ = some (.int .i64 0):=(qh BK347.out 2).trans rfl;have hcz29_3 : w27.cell? ⟨gb347,3,none⟩ = some (.int .i64 0):=(qh BK347.out 3).trans rfl;have hcz29_4 : w27.cell? ⟨gb347,4,none⟩ = some (.int .i64 0):=(qh BK347.out 4).trans rfl;have hfz29_0:=qi BK347.out 0;have hfz29_1:=qi BK347.out 1;have hfz29_2:=qi BK347.out 2;have hfz29_3:=qi BK347.out 3;have hfz29_4:=qi BK347.out 4))
         go_ret
         exact ⟨by first|rfl|(simp [errW_none,errW_some] <;> rfl)|(simp [*,errW_none,errW_some] <;> rfl),by repeat (first|(with_reducible first|exact HB.out|apply qf|apply qa|apply qd|refine qg ?_ GE345.out|refine qg ?_ GE347.out)|exact HB.out)⟩
        ·rw [if_neg c26] at H
         have c26b0 : (((rd_T36 l0_1 x12_1).f1) == a1) = false:=beq_eq_false_iff_ne.mpr c26
         have c26b1 : (((rd_T36 l0_1 x12_1).f1) != a1) = true:=bne_iff_ne.mpr c26
         have H':=qn.mk H
         clear H
         have p346 : 0 ≤ (x12_1 : Int):=of_decide_eq_true (by first|(with_reducible assumption)|assumption)
         have q346 : x12_1 < (l0_1.length : Int):=of_decide_eq_true (by first|(with_reducible assumption)|assumption)
         obtain ⟨ad346,e346,hx346_0,hx346_1,hx346_2,hx346_3,hx346_4⟩:=at_T36 HR0_1.out x12_1 p346 q346
         cases e346
         replace hx346_0:=cb_ HB hx346_0
         replace hx346_1:=cb_ HB hx346_1
         replace hx346_2:=cb_ HB hx346_2
         replace hx346_3:=cb_ HB hx346_3
         replace hx346_4:=cb_ HB hx346_4
         replace p346:=eq_true p346
         replace q346:=eq_true q346
         go_wp2_with (first|((with_reducible refine gate_dst (N:=8) rfl ?_);refine box_event ?hg (N:=8) ?hd (cs:=#[.int .i64 0,.int .i64 0,.int .i64 0,.int .i64 0,.int .i64 0]) (t:=36) ?hr ?_;(case hd=>rfl);(case hg=>rfl);(case hr=>first|(go_simp;done)|(go_simp;rfl));intro gb347 hg w30 hbox hb;have n0_:=bb_ BK345 hb;have n1_:=hs_ HB hb;have n2_:=qn.mk (hbox);have n3_:=qn.mk ((by rw [hg];exact (qj (by repeat (first|(with_reducible first|exact HB.out|apply qf|apply qa|apply qd|refine qg ?_ GE345.out)|exact HB.out))) : w.heap.size ≤ gb347));have n4_:=qn.mk ((by rw [hg];exact (qj (by repeat (first|(with_reducible first|exact HB.out|apply qf|apply qa|apply qd|refine qg ?_ GE345.out)|exact HB.out))) : w.heap.size ≤ gb347));have n5_:=qn.mk ((by rw [hg];exact nl_ BK345 : gb345 ≠ gb347));have n6_:=qn.mk ((by rw [hg];exact ng_ BK345 : gb347 ≠ gb345));clear BK345;clear HB;have BK345:=n0_;have HB:=n1_;have BK347:=n2_;have GW347:=n3_;have GE347:=n4_;have NB345_347:=n5_;have NB347_345:=n6_;clear n0_ n1_ n2_ n3_ n4_ n5_ n6_;clear hb hbox hg;have hnb31:=NB347_345.out;have hnc31:=NB345_347.out;have hcz32_0 : w30.cell? ⟨gb347,0,none⟩ = some (.int .i64 0):=(qh BK347.out 0).trans rfl;have hcz32_1 : w30.cell? ⟨gb347,1,none⟩ = some (.int .i64 0):=(qh BK347.out 1).trans rfl;have hcz32_2 : w30.cell? ⟨gb347,2,none⟩ = some (.int .i64 0):=(qh BK347.out 2).trans rfl;have hcz32_3 : w30.cell? ⟨gb347,3,none⟩ = some (.int .i64 0):=(qh BK347.out 3).trans rfl;have hcz32_4 : w30.cell? ⟨gb347,4,none⟩ = some (.int .i64 0):=(qh BK347.out 4).trans rfl;have hfz32_0:=qi BK347.out 0;have hfz32_1:=qi BK347.out 1;have hfz32_2:=qi BK347.out 2;have hfz32_3:=qi BK347.out 3;have hfz32_4:=qi BK347.out 4))
         go_roundg k1
         case measure=>have:=HK1.out;omega
         case rel=>exact ⟨(wrap64 (x12_1 + 1)),(by first|rfl|(simp;done)|(simp [*];done)),H',⟨by have:=HK1.out;omega⟩,⟨by (with_reducible repeat (first|refine qb ?_ _|refine qe ?_|refine qc ?_ _));refine blk_far ?_ NB345_347.out _;(with_reducible repeat (first|refine qb ?_ _|refine qe ?_|refine qc ?_ _));refine blk_far ?_ NB345_347.out _;(with_reducible repeat (first|refine qb ?_ _|refine qe ?_|refine qc ?_ _));refine blk_far ?_ NB345_347.out _;(with_reducible repeat (first|refine qb ?_ _|refine qe ?_|refine qc ?_ _));refine blk_far ?_ NB345_347.out _;(with_reducible repeat (first|refine qb ?_ _|refine qe ?_|refine qc ?_ _));refine blk_far ?_ NB345_347.out _;(with_reducible repeat (first|refine qb ?_ _|refine qe ?_|refine qc ?_ _));exact BK345.out⟩,⟨by repeat (first|(with_reducible first|exact HB.out|apply qf|apply qa|apply qd|refine qg ?_ GE345.out|refine qg ?_ GE347.out)|exact HB.out)⟩⟩
       ·rw [if_neg c25] at H
        have c25b0 : (((rd_T36 l0_1 x12_1).f0) == a2) = false:=beq_eq_false_iff_ne.mpr c25
        have c25b1 : (((rd_T36 l0_1 x12_1).f0) != a2) = true:=bne_iff_ne.mpr c25
        have H':=qn.mk H
        clear H
        have p346 : 0 ≤ (x12_1 : Int):=of_decide_eq_true (by first|(with_reducible assumption)|assumption)
        have q346 : x12_1 < (l0_1.length : Int):=of_decide_eq_true (by first|(with_reducible assumption)|assumption)
        obtain ⟨ad346,e346,hx346_0,hx346_1,hx346_2,hx346_3,hx346_4⟩:=at_T36 HR0_1.out x12_1 p346 q346
        cases e346
        replace hx346_0:=cb_ HB hx346_0
        replace hx346_1:=cb_ HB hx346_1
        replace hx346_2:=cb_ HB hx346_2
        replace hx346_3:=cb_ HB hx346_3
        replace hx346_4:=cb_ HB hx346_4
        replace p346:=eq_true p346
        replace q346:=eq_true q346
        go_wp2_with (first|((with_reducible refine gate_dst (N:=8) rfl ?_);refine box_event ?hg (N:=8) ?hd (cs:=#[.int .i64 0,.int .i64 0,.int .i64 0,.int .i64 0,.int .i64 0]) (t:=36) ?hr ?_;(case hd=>rfl);(case hg=>rfl);(case hr=>first|(go_simp;done)|(go_simp;rfl));intro gb347 hg w33 hbox hb;have n0_:=bb_ BK345 hb;have n1_:=hs_ HB hb;have n2_:=qn.mk (hbox);have n3_:=qn.mk ((by rw [hg];exact (qj (by repeat (first|(with_reducible first|exact HB.out|apply qf|apply qa|apply qd|refine qg ?_ GE345.out)|exact HB.out))) : w.heap.size ≤ gb347));have n4_:=qn.mk ((by rw [hg];exact (qj (by repeat (first|(with_reducible first|exact HB.out|apply qf|apply qa|apply qd|refine qg ?_ GE345.out)|exact HB.out))) : w.heap.size ≤ gb347));have n5_:=qn.mk ((by rw [hg];exact nl_ BK345 : gb345 ≠ gb347));have n6_:=qn.mk ((by rw [hg];exact ng_ BK345 : gb347 ≠ gb345));clear BK345;clear HB;have BK345:=n0_;have HB:=n1_;have BK347:=n2_;have GW347:=n3_;have GE347:=n4_;have NB345_347:=n5_;have NB347_345:=n6_;clear n0_ n1_ n2_ n3_ n4_ n5_ n6_;clear hb hbox hg;have hnb34:=NB347_345.out;have hnc34:=NB345_347.out;have hcz35_0 : w33.cell? ⟨gb347,0,none⟩ = some (.int .i64 0):=(qh BK347.out 0).trans rfl;have hcz35_1 : w33.cell? ⟨gb347,1,none⟩ = some (.int .i64 0):=(qh BK347.out 1).trans rfl;have hcz35_2 : w33.cell? ⟨gb347,2,none⟩ = some (.int .i64 0):=(qh BK347.out 2).trans rfl;have hcz35_3 : w33.cell? ⟨gb347,3,none⟩ = some (.int .i64 0):=(qh BK347.out 3).trans rfl;have hcz35_4 : w33.cell? ⟨gb347,4,none⟩ = some (.int .i64 0):=(qh BK347.out 4).trans rfl;have hfz35_0:=qi BK347.out 0;have hfz35_1:=qi BK347.out 1;have hfz35_2:=qi BK347.out 2;have hfz35_3:=qi BK347.out 3;have hfz35_4:=qi BK347.out 4))
        go_roundg k1
        case measure=>have:=HK1.out;omega
        case rel=>exact ⟨(wrap64 (x12_1 + 1)),(by first|rfl|(simp;done)|(simp [*];done)),H',⟨by have:=HK1.out;omega⟩,⟨by (with_reducible repeat (first|refine qb ?_ _|refine qe ?_|refine qc ?_ _));refine blk_far ?_ NB345_347.out _;(with_reducible repeat (first|refine qb ?_ _|refine qe ?_|refine qc ?_ _));refine blk_far ?_ NB345_347.out _;(with_reducible repeat (first|refine qb ?_ _|refine qe ?_|refine qc ?_ _));refine blk_far ?_ NB345_347.out _;(with_reducible repeat (first|refine qb ?_ _|refine qe ?_|refine qc ?_ _));refine blk_far ?_ NB345_347.out _;(with_reducible repeat (first|refine qb ?_ _|refine qe ?_|refine qc ?_ _));refine blk_far ?_ NB345_347.out _;(with_reducible repeat (first|refine qb ?_ _|refine qe ?_|refine qc ?_ _));exact BK345.out⟩,⟨by repeat (first|(with_reducible first|exact HB.out|apply qf|apply qa|apply qd|refine qg ?_ GE345.out|refine qg ?_ GE347.out)|exact HB.out)⟩⟩
     ·rw [if_neg c8] at H
      exact absurd H (by simp)
    ·rw [if_neg c7] at H
     exact absurd H (by simp)
   ·rw [if_neg c6] at H
    have c6b0 : decide (x12_1 < (l0_1.length : Int)) = false:=decide_eq_false c6
    clear c6
    obtain rfl:=Option.some.inj H
    go_wp2
    go_ret
    exact ⟨by first|rfl|(simp [errW_none,errW_some] <;> rfl)|(simp [*,errW_none,errW_some] <;> rfl),by repeat (first|(with_reducible first|exact HB.out|apply qf|apply qa|apply qd|refine qg ?_ GE345.out)|exact HB.out)⟩

/-! ### impl_hasInt: function 92 -/
def impl_hasInt.l0 : Nat → Int → List Int → Int → Int → Option (Bool)
 | 0,_,_,_,_=>none
 | k + 1,x1,x7,x8,x9=>if x9 < x8 then (if 0 ≤ x9 then (if x9 < (x7.length : Int) then (if (rd x7 x9) = x1 then (some true) else (impl_hasInt.l0 k x1 x7 x8 (wrap64 (x9 + 1)))) else (none)) else (none)) else (some false)
def impl_hasInt.f (k : Nat) (l0 : List Int) (a1 : Int) : Option (Bool):=impl_hasInt.l0 k a1 l0 (l0.length : Int) 0
theorem impl_hasInt.mono_l : ∀ k,(∀ y0 y1 y2 y3,LeO (impl_hasInt.l0 k y0 y1 y2 y3) (impl_hasInt.l0 (k + 1) y0 y1 y2 y3))
 | 0=>fun _ _ _ _ r h=>by simp [impl_hasInt.l0] at h
 | k + 1=>by
  have ih0:=impl_hasInt.mono_l k
  ·intro y0 y1 y2 y3
   unfold impl_hasInt.l0
   repeat' first
   | (with_reducible exact ih0 _ _ _ _)
   | (with_reducible exact LeO.refl _)
   | (with_reducible exact LeO.none _)
   | (with_reducible refine LeO.ite ?_ ?_)
   | (with_reducible refine LeO.bind ?_ (fun _=>?_))
   | exact ih0 _ _ _ _
   | exact LeO.none _
   | refine LeO.ite ?_ ?_
   | refine LeO.bind ?_ (fun _=>?_)
theorem impl_hasInt.mono : ∀ a0 a1 k,LeO (impl_hasInt.f k a0 a1) (impl_hasInt.f (k + 1) a0 a1):=by
 intro a0 a1 k
 have ih0:=impl_hasInt.mono_l k
 unfold impl_hasInt.f
 repeat' first
   | (with_reducible exact ih0 _ _ _ _)
   | (with_reducible exact LeO.refl _)
   | (with_reducible exact LeO.none _)
   | (with_reducible refine LeO.ite ?_ ?_)
   | (with_reducible refine LeO.bind ?_ (fun _=>?_))
   | exact ih0 _ _ _ _
   | exact LeO.none _
   | refine LeO.ite ?_ ?_
   | refine LeO.bind ?_ (fun _=>?_)
set_option maxHeartbeats 8000000 in
set_option maxRecDepth 100000 in
theorem impl_hasInt.calls (k : Nat) (A0 : Option Addr) (c0 : Nat) (l0 : List Int) (a1 : Int) (r : Bool) (w : World) (hr0 : Kd.C (Kd.int .i64) w A0 l0.length l0) (hc0 : l0.length ≤ c0) (h : impl_hasInt.f k l0 a1 = some r) :
  Calls Try.prog 92 #[.slice A0 l0.length c0,.int .i64 a1] w fun e w'=>e = .returned (.bool r) ∧ Drawn0 w w':=by
 have HR0:=qn.mk hr0
 have HC0:=qn.mk hc0
 clear hr0 hc0
 have H : (impl_hasInt.l0 k a1 l0 (l0.length : Int) 0) = some r:=h
 clear h
 have H':=qn.mk H
 clear H
 go_enter Try.func92,Try.ntmps92
 go_wp2
 go_loopg [9] k (fun kq v9 w'=>∃ (x9_1 : Int),v9 = .int .i64 x9_1 ∧ qn (impl_hasInt.l0 kq a1 l0 (l0.length : Int) x9_1 = some r) ∧ qn (kq ≤ k) ∧ Drawn0 w w')
 case atStart=>exact ⟨(0),(by first|rfl|(simp;done)|(simp [*];done)),H',⟨Nat.le_refl _⟩,by repeat (first|exact Drawn0.refl _|apply Drawn0.step)⟩
 case round =>
  clear H'
  try clear p2
  obtain ⟨x9_1,rfl,HA,HK1,⟨m1,rfl⟩⟩:=hrel
  cases gk with
  | zero=>exact absurd HA.out (by simp [impl_hasInt.l0])
  | succ k1 =>
   have H:=HA.out
   clear HA
   simp only [impl_hasInt.l0] at H
   by_cases c3 : x9_1 < (l0.length : Int)
   ·rw [if_pos c3] at H
    have c3b0 : decide (x9_1 < (l0.length : Int)) = true:=decide_eq_true c3
    clear c3
    by_cases c4 : 0 ≤ x9_1
    ·rw [if_pos c4] at H
     have c4b0 : decide (0 ≤ x9_1) = true:=decide_eq_true c4
     clear c4
     by_cases c5 : x9_1 < (l0.length : Int)
     ·rw [if_pos c5] at H
      have c5b0 : decide (x9_1 < (l0.length : Int)) = true:=decide_eq_true c5
      clear c5
      by_cases c6 : (rd l0 x9_1) = a1
      ·rw [if_pos c6] at H
       have c6b0 : ((rd l0 x9_1) == a1) = true:=beq_iff_eq.mpr c6
       have c6b1 : ((rd l0 x9_1) != a1) = false:=bne_eq_false_iff_eq.mpr c6
       clear c6
       obtain rfl:=Option.some.inj H
       have p348 : 0 ≤ (x9_1 : Int):=of_decide_eq_true (by first|(with_reducible assumption)|assumption)
       have q348 : x9_1 < (l0.length : Int):=of_decide_eq_true (by first|(with_reducible assumption)|assumption)
       obtain ⟨ad348,e348,hx348_0⟩:=Kd.at_int HR0.out x9_1 p348 q348
       cases e348
       replace p348:=eq_true p348
       replace q348:=eq_true q348
       go_wp2
       go_ret
       exact ⟨by first|rfl|(simp;done)|(simp [*];done),by repeat (first|exact Drawn0.refl _|apply Drawn0.step)⟩
      ·rw [if_neg c6] at H
       have c6b0 : ((rd l0 x9_1) == a1) = false:=beq_eq_false_iff_ne.mpr c6
       have c6b1 : ((rd l0 x9_1) != a1) = true:=bne_iff_ne.mpr c6
       have H':=qn.mk H
       clear H
       have p348 : 0 ≤ (x9_1 : Int):=of_decide_eq_true (by first|(with_reducible assumption)|assumption)
       have q348 : x9_1 < (l0.length : Int):=of_decide_eq_true (by first|(with_reducible assumption)|assumption)
       obtain ⟨ad348,e348,hx348_0⟩:=Kd.at_int HR0.out x9_1 p348 q348
       cases e348
       replace p348:=eq_true p348
       replace q348:=eq_true q348
       go_wp2
       go_roundg k1
       case measure=>have:=HK1.out;omega
       case rel=>exact ⟨(wrap64 (x9_1 + 1)),(by first|rfl|(simp;done)|(simp [*];done)),H',⟨by have:=HK1.out;omega⟩,by repeat (first|exact Drawn0.refl _|apply Drawn0.step)⟩
     ·rw [if_neg c5] at H
      exact absurd H (by simp)
    ·rw [if_neg c4] at H
     exact absurd H (by simp)
   ·rw [if_neg c3] at H
    have c3b0 : decide (x9_1 < (l0.length : Int)) = false:=decide_eq_false c3
    clear c3
    obtain rfl:=Option.some.inj H
    go_wp2
    go_ret
    exact ⟨by first|rfl|(simp;done)|(simp [*];done),by repeat (first|exact Drawn0.refl _|apply Drawn0.step)⟩

end Go.Proofs.Ytfmemcffbfahhaa.QFnBest
