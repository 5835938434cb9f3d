/- Lean functions for the Go functions that the law FnExactBestSums reaches, and that each Go function comes to just its Lean function's answer; by a program of this session. -/
import Derived.Test.YtfmemcffbfahhaaZFnExactBestSumsx0
import Derived.Test.YtfmemcffbfahhaaZFnExactBestSumsx2
import Derived.Test.YtfmemcffbfahhaaZFnExactBestSumsx4
namespace Go.Proofs.Ytfmemcffbfahhaa.QFnExactBestSums
open Go.RowKit Go.Proofs.YtfmemcffbfahhaaW.PrintWords Go.Proofs.YtfmemcffbfahhaaW.PrintLast Go.Proofs.YtfmemcffbfahhaaW.PrintMore
attribute [local go_sem] max2_int min2_int max_two min_two max_three min_three max_four min_four   -- for this text's walks alone
set_option linter.unusedVariables false
set_option linter.unusedSimpArgs false

/-! ### spec_BestSums: function 38 -/
def spec_BestSums.f (k : Nat) (a0_0 : Int) (l0_1 : List (S36)) : Option (Int × Int × Int × Bool):=(spec_GraphOk.f k a0_0 l0_1).bind fun t183=>(if t183 = true then ((spec_l09Best.f k a0_0 l0_1 0 (([] : List Int))).bind fun bt187=>(some (bt187.1,bt187.2.1,bt187.2.2.1,true))) else (some (0,0,0,false)))
theorem spec_BestSums.mono : ∀ a0 a1 k,LeO (spec_BestSums.f k a0 a1) (spec_BestSums.f (k + 1) a0 a1):=by
  intro a0 a1 k
  unfold spec_BestSums.f
  repeat' first
      | (with_reducible exact spec_GraphOk.mono _ _ _)
      | (with_reducible exact spec_l09Best.mono _ _ _ _ _)
      | (with_reducible exact LeO.refl _)
      | (with_reducible exact LeO.none _)
      | (with_reducible refine LeO.ite ?_ ?_)
      | (with_reducible refine LeO.bind ?_ (fun _=>?_))
      | exact spec_GraphOk.mono _ _ _
      | exact spec_l09Best.mono _ _ _ _ _
      | exact LeO.none _
      | refine LeO.ite ?_ ?_
      | refine LeO.bind ?_ (fun _=>?_)
set_option maxHeartbeats 8000000 in
set_option maxRecDepth 100000 in
theorem spec_BestSums.calls (k : Nat) (a0_0 : Int) (A0_1 : Option Addr) (c0_1 : Nat) (l0_1 : List (S36)) (r1 : Int) (r2 : Int) (r3 : Int) (r4 : Bool) (w : World) (hr0_1 : Kd.C k36 w A0_1 l0_1.length l0_1) (hc0_1 : l0_1.length ≤ c0_1) (h : spec_BestSums.f k a0_0 l0_1 = some (r1,r2,r3,r4)) :
    Calls Try.prog 38 #[.agg #[.int .i64 a0_0,.slice A0_1 l0_1.length c0_1]] w fun e w'=>e = .returned (.tuple #[.agg #[.int .i64 r1,.int .i64 r2,.int .i64 r3],.bool r4]) ∧ Below w.heap.size w w':=by
  have hu26:=Try.underlying26
  have hu72:=Try.underlying72
  have HR0_1:=qn.mk hr0_1
  have HC0_1:=qn.mk hc0_1
  clear hr0_1 hc0_1
  have HB:=qn.mk (Below.refl w.heap.size w)
  have H : ((spec_GraphOk.f k a0_0 l0_1).bind fun t183=>(if t183 = true then ((spec_l09Best.f k a0_0 l0_1 0 (([] : List Int))).bind fun bt187=>(some (bt187.1,bt187.2.1,bt187.2.2.1,true))) else (some (0,0,0,false)))) = some (r1,r2,r3,r4):=h
  clear h
  replace H:=Option.bind_eq_some_iff.mp H
  obtain ⟨t183,A20,H⟩:=H
  replace H : (if t183 = true then ((spec_l09Best.f k a0_0 l0_1 0 (([] : List Int))).bind fun bt187=>(some (bt187.1,bt187.2.1,bt187.2.2.1,true))) else (some (0,0,0,false))) = some (r1,r2,r3,r4):=H
  have A2:=qn.mk A20
  clear A20
  by_cases c3 : t183 = true
  · subst c3
    have H1 : ((spec_l09Best.f k a0_0 l0_1 0 (([] : List Int))).bind fun bt187=>(some (bt187.1,bt187.2.1,bt187.2.2.1,true))) = some (r1,r2,r3,r4):=by rw [if_pos rfl] at H;exact H
    clear H
    have H:=H1
    clear H1
    obtain ⟨y184,hy184⟩ : ∃ y_ : List Int,y_ = (([] : List Int)):=⟨_,rfl⟩
    replace H : ((spec_l09Best.f k a0_0 l0_1 0 y184).bind fun bt187=>(some (bt187.1,bt187.2.1,bt187.2.2.1,true))) = some (r1,r2,r3,r4):=by first|(rw [hy184];with_reducible exact H)|(have H2_:=(Option.bind_some _ _).symm.trans H;rw [hy184];with_reducible exact H2_)|(have H2_:=(Option.bind_some _ _).symm.trans H;with_reducible exact H2_)|with_reducible exact H|(rw [hy184];exact H)|exact H
    have Ny184:=qn.mk hy184
    clear hy184
    replace H:=Option.bind_eq_some_iff.mp H
    obtain ⟨⟨t187,t188,t189,t190⟩,A40,H⟩:=H
    replace H : (some (t187,t188,t189,true)) = some (r1,r2,r3,r4):=H
    have A4:=qn.mk A40
    clear A40
    simp only [Option.some.injEq,Prod.mk.injEq] at H
    obtain ⟨rfl,rfl,rfl,rfl⟩:=H
    go_enter Try.func38,Try.ntmps38
    go_wp2_with (first|((with_reducible refine gate_dst (N:=1) rfl ?_);refine box_event ?hg (N:=1) ?hd (cs:=#[.int .i64 a0_0,.slice A0_1 l0_1.length c0_1]) (t:=26) ?hr ?_;(case hd=>rfl);(case hg=>rfl);(case hr=>first|(go_simp;done)|(go_simp;rfl));intro gb181 hg w5 hbox hb;have n0_:=hs_ HB hb;have n1_:=qn.mk (hbox);have n2_:=qn.mk ((by rw [hg];exact (qj (by repeat (first|(with_reducible first|exact HB.out|apply qf|apply qa|apply qd)|exact HB.out))) : w.heap.size ≤ gb181));have n3_:=qn.mk ((by rw [hg];exact (qj (by repeat (first|(with_reducible first|exact HB.out|apply qf|apply qa|apply qd)|exact HB.out))) : w.heap.size ≤ gb181));clear HB;have HB:=n0_;have BK181:=n1_;have GW181:=n2_;have GE181:=n3_;clear n0_ n1_ n2_ n3_;clear hb hbox hg)|((with_reducible refine gate_dst (N:=2) rfl ?_);refine box_event ?hg (N:=2) ?hd (cs:=#[.int .i64 0,.int .i64 0,.int .i64 0]) (t:=72) ?hr ?_;(case hd=>rfl);(case hg=>rfl);(case hr=>first|(go_simp;done)|(go_simp;rfl));intro gb182 hg w6 hbox hb;have n0_:=bb_ BK181 hb;have n1_:=hs_ HB hb;have n2_:=qn.mk (hbox);have n3_:=qn.mk ((by rw [hg];exact (qj (by repeat (first|(with_reducible first|exact HB.out|apply qf|apply qa|apply qd|refine qg ?_ GE181.out)|exact HB.out))) : w.heap.size ≤ gb182));have n4_:=qn.mk ((by rw [hg];exact (qj (by repeat (first|(with_reducible first|exact HB.out|apply qf|apply qa|apply qd|refine qg ?_ GE181.out)|exact HB.out))) : w.heap.size ≤ gb182));have n5_:=qn.mk ((by rw [hg];exact nl_ BK181 : gb181 ≠ gb182));have n6_:=qn.mk ((by rw [hg];exact ng_ BK181 : gb182 ≠ gb181));clear BK181;clear HB;have BK181:=n0_;have HB:=n1_;have BK182:=n2_;have GW182:=n3_;have GE182:=n4_;have NB181_182:=n5_;have NB182_181:=n6_;clear n0_ n1_ n2_ n3_ n4_ n5_ n6_;clear hb hbox hg;have hnb7:=NB181_182.out;have hnc7:=NB182_181.out;have hcz8_0 : w6.cell? ⟨gb181,0,none⟩ = some (.int .i64 a0_0):=(qh BK181.out 0).trans rfl;have hcz8_1 : w6.cell? ⟨gb181,1,none⟩ = some (.slice A0_1 l0_1.length c0_1):=(qh BK181.out 1).trans rfl;have hfz8_0:=qi BK181.out 0;have hfz8_1:=qi BK181.out 1)|((with_reducible refine gate_callee (f:=82) rfl ?_);refine goesL_ (some 7) rfl rfl Try.func82 (by kernel_rfl) rfl #[.agg #[.int .i64 a0_0,.slice A0_1 l0_1.length c0_1]] rfl (by (try simp only [List.map_toArray,List.map_cons,List.map_nil]);first|done|rfl|(simp only [List.length_drop,List.length_take];rfl)) ?_;(with_reducible refine (spec_GraphOk.calls k a0_0 _ _ l0_1 true _ ?side1 ?side2 A2.out).mono ?_);(case side1=>repeat (first|exact (Kd.C_below HR0_1.out HB.out)|(with_reducible refine Kd.C_alloc ?_ _)|(with_reducible refine Kd.C_drewN ?_ _)|(with_reducible refine Kd.C_drew ?_)));(case side2=>exact HC0_1.out);rintro e w9 ⟨rfl,hb⟩;refine ⟨_,rfl,?_⟩;have n0_:=bb_ BK181 hb;have n1_:=bb_ BK182 hb;have n2_:=hs_ HB hb;clear BK181;clear BK182;clear HB;have BK181:=n0_;have BK182:=n1_;have HB:=n2_;clear n0_ n1_ n2_;(try clear hb);(try clear hb2);(try clear hk);(try clear hi);have hcz10_0 : w9.cell? ⟨gb181,0,none⟩ = some (.int .i64 a0_0):=(qh BK181.out 0).trans rfl;have hcz10_1 : w9.cell? ⟨gb181,1,none⟩ = some (.slice A0_1 l0_1.length c0_1):=(qh BK181.out 1).trans rfl;have hfz10_0:=qi BK181.out 0;have hfz10_1:=qi BK181.out 1)|((with_reducible refine gate_dst (N:=12) rfl ?_);refine Kd.R_lit (Kd.int .i64) _ 3 ?hg (N:=12) ?hd (xs:=([] : List Int)) (inner:=[]) (ok:=fun _=>True) (okp:=fun _=>True) ?hr ?hp (fun _ hk=>hk) trivial (Below.refl _ _) (Nat.le_refl _) (by simp) ?_;(case hd=>rfl);(case hg=>rfl);(case hr=>first|(go_simp;done)|(go_simp;rfl));(case hp=>exact (Reps.none _ _));intro v185 w11 ho12 hb hg_ hnew_;clear hg_ hnew_;(first|rw [← Ny184.out] at ho12|(simp only [Int.reduceToNat] at ho12;rw [← Ny184.out] at ho12));have n0_:=qn.mk (Kd.R_lower ho12 (qj (by repeat (first|(with_reducible first|exact HB.out|apply qf|apply qa|apply qd|refine qg ?_ GE181.out|refine qg ?_ GE182.out)|exact HB.out))));have n1_:=bb_ BK181 hb;have n2_:=bb_ BK182 hb;have n3_:=hs_ HB hb;clear BK181;clear BK182;clear HB;have HO186:=n0_;have BK181:=n1_;have BK182:=n2_;have HB:=n3_;clear n0_ n1_ n2_ n3_;clear hb ho12;obtain ⟨Ao13,co13,eo13⟩:=Kd.R_slice HO186.out;subst eo13)|((with_reducible refine gate_callee (f:=83) rfl ?_);refine goesL_ (some 13) rfl rfl Try.func83 (by kernel_rfl) rfl #[.agg #[.int .i64 a0_0,.slice A0_1 l0_1.length c0_1],.int .i64 0,.slice Ao13 y184.length co13] rfl (by (try simp only [List.map_toArray,List.map_cons,List.map_nil]);first|done|rfl|(simp only [List.length_drop,List.length_take];rfl)) ?_;(with_reducible refine (spec_l09Best.calls k a0_0 _ _ l0_1 0 _ _ y184 t187 t188 t189 t190 _ ?side1 ?side2 ?side3 ?side4 A4.out).mono ?_);(case side1=>repeat (first|exact (Kd.C_below HR0_1.out HB.out)|(with_reducible refine Kd.C_alloc ?_ _)|(with_reducible refine Kd.C_drewN ?_ _)|(with_reducible refine Kd.C_drew ?_)));(case side2=>exact HC0_1.out);(case side3=>repeat (first|exact (Kd.R_reads' HO186.out).2.2|(with_reducible refine Kd.C_alloc ?_ _)|(with_reducible refine Kd.C_drewN ?_ _)|(with_reducible refine Kd.C_drew ?_)));(case side4=>exact (Kd.R_reads' HO186.out).2.1);rintro e w14 ⟨rfl,hb⟩;refine ⟨_,rfl,?_⟩;have n0_:=rb_ HO186 hb;have n1_:=bb_ BK181 hb;have n2_:=bb_ BK182 hb;have n3_:=hs_ HB hb;clear HO186;clear BK181;clear BK182;clear HB;have HO186:=n0_;have BK181:=n1_;have BK182:=n2_;have HB:=n3_;clear n0_ n1_ n2_ n3_;(try clear hb);(try clear hb2);(try clear hk);(try clear hi))|((with_reducible refine gate_dst (N:=4) rfl ?_);refine box_event ?hg (N:=4) ?hd (cs:=#[.int .i64 0,.int .i64 0,.int .i64 0]) (t:=72) ?hr ?_;(case hd=>rfl);(case hg=>rfl);(case hr=>first|(go_simp;done)|(go_simp;rfl));intro gb191 hg w15 hbox hb;have n0_:=rb_ HO186 hb;have n1_:=bb_ BK181 hb;have n2_:=bb_ BK182 hb;have n3_:=hs_ HB hb;have n4_:=qn.mk (hbox);have n5_:=qn.mk ((by rw [hg];exact (qj (by repeat (first|(with_reducible first|exact HB.out|apply qf|apply qa|apply qd|refine qg ?_ GE181.out|refine qg ?_ GE182.out)|exact HB.out))) : w.heap.size ≤ gb191));have n6_:=qn.mk ((by rw [hg];exact (qj (by repeat (first|(with_reducible first|exact HB.out|apply qf|apply qa|apply qd|refine qg ?_ GE181.out|refine qg ?_ GE182.out)|exact HB.out))) : w.heap.size ≤ gb191));have n7_:=qn.mk ((by rw [hg];exact nl_ BK181 : gb181 ≠ gb191));have n8_:=qn.mk ((by rw [hg];exact ng_ BK181 : gb191 ≠ gb181));have n9_:=qn.mk ((by rw [hg];exact nl_ BK182 : gb182 ≠ gb191));have n10_:=qn.mk ((by rw [hg];exact ng_ BK182 : gb191 ≠ gb182));clear HO186;clear BK181;clear BK182;clear HB;have HO186:=n0_;have BK181:=n1_;have BK182:=n2_;have HB:=n3_;have BK191:=n4_;have GW191:=n5_;have GE191:=n6_;have NB181_191:=n7_;have NB191_181:=n8_;have NB182_191:=n9_;have NB191_182:=n10_;clear n0_ n1_ n2_ n3_ n4_ n5_ n6_ n7_ n8_ n9_ n10_;clear hb hbox hg;have hnb16:=NB191_181.out;have hnc16:=NB181_191.out;have hnb17:=NB191_182.out;have hnc17:=NB182_191.out;have hcz18_0 : w15.cell? ⟨gb191,0,none⟩ = some (.int .i64 0):=(qh BK191.out 0).trans rfl;have hcz18_1 : w15.cell? ⟨gb191,1,none⟩ = some (.int .i64 0):=(qh BK191.out 1).trans rfl;have hcz18_2 : w15.cell? ⟨gb191,2,none⟩ = some (.int .i64 0):=(qh BK191.out 2).trans rfl;have hfz18_0:=qi BK191.out 0;have hfz18_1:=qi BK191.out 1;have hfz18_2:=qi BK191.out 2;have hcz19_0 : w15.cell? ⟨gb182,0,none⟩ = some (.int .i64 0):=(qh BK182.out 0).trans rfl;have hcz19_1 : w15.cell? ⟨gb182,1,none⟩ = some (.int .i64 0):=(qh BK182.out 1).trans rfl;have hcz19_2 : w15.cell? ⟨gb182,2,none⟩ = some (.int .i64 0):=(qh BK182.out 2).trans rfl;have hfz19_0:=qi BK182.out 0;have hfz19_1:=qi BK182.out 1;have hfz19_2:=qi BK182.out 2))
    refine bodyPost_ret (results_ct rfl _ _ gb182 72 #[.int .i64 t187,.int .i64 t188,.int .i64 t189] (0,0) _ rfl (by (with_reducible repeat (first|refine qb ?_ _|refine qe ?_|refine qc ?_ _));refine blk_put (cs:=#[.int .i64 t187,.int .i64 t188,.int .i64 0]) ?_ 2 _ rfl;(with_reducible repeat (first|refine qb ?_ _|refine qe ?_|refine qc ?_ _));refine blk_put (cs:=#[.int .i64 t187,.int .i64 0,.int .i64 0]) ?_ 1 _ rfl;(with_reducible repeat (first|refine qb ?_ _|refine qe ?_|refine qc ?_ _));refine blk_put (cs:=#[.int .i64 0,.int .i64 0,.int .i64 0]) ?_ 0 _ rfl;(with_reducible repeat (first|refine qb ?_ _|refine qe ?_|refine qc ?_ _));refine blk_far ?_ NB182_191.out _;(with_reducible repeat (first|refine qb ?_ _|refine qe ?_|refine qc ?_ _));refine blk_far ?_ NB182_191.out _;(with_reducible repeat (first|refine qb ?_ _|refine qe ?_|refine qc ?_ _));refine blk_far ?_ NB182_191.out _;(with_reducible repeat (first|refine qb ?_ _|refine qe ?_|refine qc ?_ _));exact BK182.out) Try.underlying72 rfl (by kernel_rfl)) rfl ?_
    exact ⟨by first|rfl|(simp [errW_none,errW_some] <;> rfl)|(simp [*,errW_none,errW_some] <;> rfl),by repeat (first|(with_reducible first|exact HB.out|apply qf|apply qa|apply qd|refine qg ?_ GE181.out|refine qg ?_ GE182.out|refine qg ?_ GE191.out)|exact HB.out)⟩
  · replace c3:=Bool.eq_false_iff.mpr c3
    subst c3
    have H1 : (some (0,0,0,false)) = some (r1,r2,r3,r4):=by rw [if_neg (show ¬ (false = true) by decide)] at H;exact H
    clear H
    have H:=H1
    clear H1
    simp only [Option.some.injEq,Prod.mk.injEq] at H
    obtain ⟨rfl,rfl,rfl,rfl⟩:=H
    go_enter Try.func38,Try.ntmps38
    go_wp2_with (first|((with_reducible refine gate_dst (N:=1) rfl ?_);refine box_event ?hg (N:=1) ?hd (cs:=#[.int .i64 a0_0,.slice A0_1 l0_1.length c0_1]) (t:=26) ?hr ?_;(case hd=>rfl);(case hg=>rfl);(case hr=>first|(go_simp;done)|(go_simp;rfl));intro gb181 hg w20 hbox hb;have n0_:=hs_ HB hb;have n1_:=qn.mk (hbox);have n2_:=qn.mk ((by rw [hg];exact (qj (by repeat (first|(with_reducible first|exact HB.out|apply qf|apply qa|apply qd)|exact HB.out))) : w.heap.size ≤ gb181));have n3_:=qn.mk ((by rw [hg];exact (qj (by repeat (first|(with_reducible first|exact HB.out|apply qf|apply qa|apply qd)|exact HB.out))) : w.heap.size ≤ gb181));clear HB;have HB:=n0_;have BK181:=n1_;have GW181:=n2_;have GE181:=n3_;clear n0_ n1_ n2_ n3_;clear hb hbox hg)|((with_reducible refine gate_dst (N:=2) rfl ?_);refine box_event ?hg (N:=2) ?hd (cs:=#[.int .i64 0,.int .i64 0,.int .i64 0]) (t:=72) ?hr ?_;(case hd=>rfl);(case hg=>rfl);(case hr=>first|(go_simp;done)|(go_simp;rfl));intro gb182 hg w21 hbox hb;have n0_:=bb_ BK181 hb;have n1_:=hs_ HB hb;have n2_:=qn.mk (hbox);have n3_:=qn.mk ((by rw [hg];exact (qj (by repeat (first|(with_reducible first|exact HB.out|apply qf|apply qa|apply qd|refine qg ?_ GE181.out)|exact HB.out))) : w.heap.size ≤ gb182));have n4_:=qn.mk ((by rw [hg];exact (qj (by repeat (first|(with_reducible first|exact HB.out|apply qf|apply qa|apply qd|refine qg ?_ GE181.out)|exact HB.out))) : w.heap.size ≤ gb182));have n5_:=qn.mk ((by rw [hg];exact nl_ BK181 : gb181 ≠ gb182));have n6_:=qn.mk ((by rw [hg];exact ng_ BK181 : gb182 ≠ gb181));clear BK181;clear HB;have BK181:=n0_;have HB:=n1_;have BK182:=n2_;have GW182:=n3_;have GE182:=n4_;have NB181_182:=n5_;have NB182_181:=n6_;clear n0_ n1_ n2_ n3_ n4_ n5_ n6_;clear hb hbox hg;have hnb22:=NB181_182.out;have hnc22:=NB182_181.out;have hcz23_0 : w21.cell? ⟨gb181,0,none⟩ = some (.int .i64 a0_0):=(qh BK181.out 0).trans rfl;have hcz23_1 : w21.cell? ⟨gb181,1,none⟩ = some (.slice A0_1 l0_1.length c0_1):=(qh BK181.out 1).trans rfl;have hfz23_0:=qi BK181.out 0;have hfz23_1:=qi BK181.out 1)|((with_reducible refine gate_callee (f:=82) rfl ?_);refine goesL_ (some 7) rfl rfl Try.func82 (by kernel_rfl) rfl #[.agg #[.int .i64 a0_0,.slice A0_1 l0_1.length c0_1]] rfl (by (try simp only [List.map_toArray,List.map_cons,List.map_nil]);first|done|rfl|(simp only [List.length_drop,List.length_take];rfl)) ?_;(with_reducible refine (spec_GraphOk.calls k a0_0 _ _ l0_1 false _ ?side1 ?side2 A2.out).mono ?_);(case side1=>repeat (first|exact (Kd.C_below HR0_1.out HB.out)|(with_reducible refine Kd.C_alloc ?_ _)|(with_reducible refine Kd.C_drewN ?_ _)|(with_reducible refine Kd.C_drew ?_)));(case side2=>exact HC0_1.out);rintro e w24 ⟨rfl,hb⟩;refine ⟨_,rfl,?_⟩;have n0_:=bb_ BK181 hb;have n1_:=bb_ BK182 hb;have n2_:=hs_ HB hb;clear BK181;clear BK182;clear HB;have BK181:=n0_;have BK182:=n1_;have HB:=n2_;clear n0_ n1_ n2_;(try clear hb);(try clear hb2);(try clear hk);(try clear hi);have hcz25_0 : w24.cell? ⟨gb182,0,none⟩ = some (.int .i64 0):=(qh BK182.out 0).trans rfl;have hcz25_1 : w24.cell? ⟨gb182,1,none⟩ = some (.int .i64 0):=(qh BK182.out 1).trans rfl;have hcz25_2 : w24.cell? ⟨gb182,2,none⟩ = some (.int .i64 0):=(qh BK182.out 2).trans rfl;have hfz25_0:=qi BK182.out 0;have hfz25_1:=qi BK182.out 1;have hfz25_2:=qi BK182.out 2))
    refine bodyPost_ret (results_ct rfl _ _ gb182 72 #[.int .i64 0,.int .i64 0,.int .i64 0] (0,0) _ rfl (by (with_reducible repeat (first|refine qb ?_ _|refine qe ?_|refine qc ?_ _));refine blk_put (cs:=#[.int .i64 0,.int .i64 0,.int .i64 0]) ?_ 2 _ rfl;(with_reducible repeat (first|refine qb ?_ _|refine qe ?_|refine qc ?_ _));refine blk_put (cs:=#[.int .i64 0,.int .i64 0,.int .i64 0]) ?_ 1 _ rfl;(with_reducible repeat (first|refine qb ?_ _|refine qe ?_|refine qc ?_ _));refine blk_put (cs:=#[.int .i64 0,.int .i64 0,.int .i64 0]) ?_ 0 _ rfl;(with_reducible repeat (first|refine qb ?_ _|refine qe ?_|refine qc ?_ _));exact BK182.out) Try.underlying72 rfl (by kernel_rfl)) rfl ?_
    exact ⟨by first|rfl|(simp [errW_none,errW_some] <;> rfl)|(simp [*,errW_none,errW_some] <;> rfl),by repeat (first|(with_reducible first|exact HB.out|apply qf|apply qa|apply qd|refine qg ?_ GE181.out|refine qg ?_ GE182.out)|exact HB.out)⟩

/-! ### impl_in: function 59 -/
def impl_in.f (a0 : Int) (a1 : Int) (a2 : Int) : Option (Bool):=if a0 ≥ a1 then (some (decide (a0 ≤ a2))) else (some false)
set_option maxHeartbeats 8000000 in
set_option maxRecDepth 100000 in
theorem impl_in.calls (a0 : Int) (a1 : Int) (a2 : Int) (r : Bool) (w : World) (h : impl_in.f a0 a1 a2 = some r) :
    Calls Try.prog 59 #[.int .i64 a0,.int .i64 a1,.int .i64 a2] w fun e w'=>e = .returned (.bool r) ∧ Drawn0 w w':=by
  have H : (if a0 ≥ a1 then (some (decide (a0 ≤ a2))) else (some false)) = some r:=h
  clear h
  by_cases c4 : a0 ≥ a1
  · rw [if_pos c4] at H
    have c4b0 : decide (a1 ≤ a0) = true:=decide_eq_true c4
    clear c4
    obtain rfl:=Option.some.inj H
    go_enter Try.func59,Try.ntmps59
    go_wp2
    go_ret
    exact ⟨by first|rfl|(simp;done)|(simp [*];done),by repeat (first|exact Drawn0.refl _|apply Drawn0.step)⟩
  · rw [if_neg c4] at H
    have c4b0 : decide (a1 ≤ a0) = false:=decide_eq_false c4
    clear c4
    obtain rfl:=Option.some.inj H
    go_enter Try.func59,Try.ntmps59
    go_wp2
    go_ret
    exact ⟨by first|rfl|(simp;done)|(simp [*];done),by repeat (first|exact Drawn0.refl _|apply Drawn0.step)⟩

/-! ### impl_GraphOk: function 16 -/
mutual
def impl_GraphOk.l0 : Nat → List (S36) → Int → Int → Int → List (S36) → Option (Bool)
  | 0,_,_,_,_,_=>none
  | k + 1,x11,x12,x13,x193000,x193001=>if x13 < x12 then (if 0 ≤ x13 then (if x13 < (x11.length : Int) then ((impl_in.f ((rd_T36 x11 x13).f0) 0 (wrap64 (x193000 - 1))).bind fun t196=>(if t196 = true then ((impl_in.f ((rd_T36 x11 x13).f1) 0 (wrap64 (x193000 - 1))).bind fun t197=>(if t197 = true then (if ((rd_T36 x11 x13).f0) ≥ ((rd_T36 x11 x13).f1) then (impl_GraphOk.j1 k x13 x11 x12 x13 true x193000 x193001 ((rd_T36 x11 x13).f0) ((rd_T36 x11 x13).f1) ((rd_T36 x11 x13).f2) ((rd_T36 x11 x13).f3) ((rd_T36 x11 x13).f4)) else ((impl_in.f ((rd_T36 x11 x13).f2) 0 50).bind fun t198=>(if t198 = true then ((impl_in.f ((rd_T36 x11 x13).f3) 0 50).bind fun t199=>(if t199 = true then ((impl_in.f ((rd_T36 x11 x13).f4) 0 50).bind fun t200=>(impl_GraphOk.j1 k x13 x11 x12 x13 (!t200) x193000 x193001 ((rd_T36 x11 x13).f0) ((rd_T36 x11 x13).f1) ((rd_T36 x11 x13).f2) ((rd_T36 x11 x13).f3) ((rd_T36 x11 x13).f4))) else (impl_GraphOk.j1 k x13 x11 x12 x13 true x193000 x193001 ((rd_T36 x11 x13).f0) ((rd_T36 x11 x13).f1) ((rd_T36 x11 x13).f2) ((rd_T36 x11 x13).f3) ((rd_T36 x11 x13).f4)))) else (impl_GraphOk.j1 k x13 x11 x12 x13 true x193000 x193001 ((rd_T36 x11 x13).f0) ((rd_T36 x11 x13).f1) ((rd_T36 x11 x13).f2) ((rd_T36 x11 x13).f3) ((rd_T36 x11 x13).f4))))) else (impl_GraphOk.j1 k x13 x11 x12 x13 true x193000 x193001 ((rd_T36 x11 x13).f0) ((rd_T36 x11 x13).f1) ((rd_T36 x11 x13).f2) ((rd_T36 x11 x13).f3) ((rd_T36 x11 x13).f4)))) else (impl_GraphOk.j1 k x13 x11 x12 x13 true x193000 x193001 ((rd_T36 x11 x13).f0) ((rd_T36 x11 x13).f1) ((rd_T36 x11 x13).f2) ((rd_T36 x11 x13).f3) ((rd_T36 x11 x13).f4)))) else (none)) else (none)) else (some true)
def impl_GraphOk.j1 : Nat → Int → List (S36) → Int → Int → Bool → Int → List (S36) → Int → Int → Int → Int → Int → Option (Bool)
  | 0,_,_,_,_,_,_,_,_,_,_,_,_=>none
  | k + 1,x3,x11,x12,x13,x58,x193000,x193001,x196000,x196001,x196002,x196003,x196004=>if x58 = true then (some false) else (if x3 > 0 then (if 0 ≤ (wrap64 (x3 - 1)) then (if (wrap64 (x3 - 1)) < (x193001.length : Int) then (if ((rd_T36 x193001 (wrap64 (x3 - 1))).f0) > x196000 then (some false) else (if ((rd_T36 x193001 (wrap64 (x3 - 1))).f0) = x196000 then (if ((rd_T36 x193001 (wrap64 (x3 - 1))).f1) ≥ x196001 then (some false) else (impl_GraphOk.l0 k x11 x12 (wrap64 (x13 + 1)) x193000 x193001)) else (impl_GraphOk.l0 k x11 x12 (wrap64 (x13 + 1)) x193000 x193001))) else (none)) else (none)) else (impl_GraphOk.l0 k x11 x12 (wrap64 (x13 + 1)) x193000 x193001))
end
def impl_GraphOk.f (k : Nat) (a0_0 : Int) (l0_1 : List (S36)) : Option (Bool):=(impl_in.f a0_0 0 9).bind fun t193=>(if t193 = true then (impl_GraphOk.l0 k l0_1 (l0_1.length : Int) 0 a0_0 l0_1) else (some false))
theorem impl_GraphOk.mono_l : ∀ k,(∀ y0 y1 y2 y3 y4,LeO (impl_GraphOk.l0 k y0 y1 y2 y3 y4) (impl_GraphOk.l0 (k + 1) y0 y1 y2 y3 y4)) ∧ (∀ y0 y1 y2 y3 y4 y5 y6 y7 y8 y9 y10 y11,LeO (impl_GraphOk.j1 k y0 y1 y2 y3 y4 y5 y6 y7 y8 y9 y10 y11) (impl_GraphOk.j1 (k + 1) y0 y1 y2 y3 y4 y5 y6 y7 y8 y9 y10 y11))
  | 0=>⟨fun _ _ _ _ _ r h=>by simp [impl_GraphOk.l0] at h,fun _ _ _ _ _ _ _ _ _ _ _ _ r h=>by simp [impl_GraphOk.j1] at h⟩
  | k + 1=>by
    obtain ⟨ih0,ih1⟩:=impl_GraphOk.mono_l k
    refine ⟨?_,?_⟩
    · intro y0 y1 y2 y3 y4
      unfold impl_GraphOk.l0
      repeat' first
      | (with_reducible exact ih0 _ _ _ _ _)
      | (with_reducible exact ih1 _ _ _ _ _ _ _ _ _ _ _ _)
      | (with_reducible exact LeO.refl _)
      | (with_reducible exact LeO.none _)
      | (with_reducible refine LeO.ite ?_ ?_)
      | (with_reducible refine LeO.bind ?_ (fun _=>?_))
      | exact ih0 _ _ _ _ _
      | exact ih1 _ _ _ _ _ _ _ _ _ _ _ _
      | exact LeO.none _
      | refine LeO.ite ?_ ?_
      | refine LeO.bind ?_ (fun _=>?_)
    · intro y0 y1 y2 y3 y4 y5 y6 y7 y8 y9 y10 y11
      unfold impl_GraphOk.j1
      repeat' first
      | (with_reducible exact ih0 _ _ _ _ _)
      | (with_reducible exact ih1 _ _ _ _ _ _ _ _ _ _ _ _)
      | (with_reducible exact LeO.refl _)
      | (with_reducible exact LeO.none _)
      | (with_reducible refine LeO.ite ?_ ?_)
      | (with_reducible refine LeO.bind ?_ (fun _=>?_))
      | exact ih0 _ _ _ _ _
      | exact ih1 _ _ _ _ _ _ _ _ _ _ _ _
      | exact LeO.none _
      | refine LeO.ite ?_ ?_
      | refine LeO.bind ?_ (fun _=>?_)
theorem impl_GraphOk.mono : ∀ a0 a1 k,LeO (impl_GraphOk.f k a0 a1) (impl_GraphOk.f (k + 1) a0 a1):=by
  intro a0 a1 k
  obtain ⟨ih0,ih1⟩:=impl_GraphOk.mono_l k
  unfold impl_GraphOk.f
  repeat' first
      | (with_reducible exact ih0 _ _ _ _ _)
      | (with_reducible exact ih1 _ _ _ _ _ _ _ _ _ _ _ _)
      | (with_reducible exact LeO.refl _)
      | (with_reducible exact LeO.none _)
      | (with_reducible refine LeO.ite ?_ ?_)
      | (with_reducible refine LeO.bind ?_ (fun _=>?_))
      | exact ih0 _ _ _ _ _
      | exact ih1 _ _ _ _ _ _ _ _ _ _ _ _
      | exact LeO.none _
      | refine LeO.ite ?_ ?_
      | refine LeO.bind ?_ (fun _=>?_)
set_option maxHeartbeats 8000000 in
set_option maxRecDepth 100000 in
theorem impl_GraphOk.calls (k : Nat) (a0_0 : Int) (A0_1 : Option Addr) (c0_1 : Nat) (l0_1 : List (S36)) (r : Bool) (w : World) (hr0_1 : Kd.C k36 w A0_1 l0_1.length l0_1) (hc0_1 : l0_1.length ≤ c0_1) (h : impl_GraphOk.f k a0_0 l0_1 = some r) :
    Calls Try.prog 16 #[.agg #[.int .i64 a0_0,.slice A0_1 l0_1.length c0_1]] w fun e w'=>e = .returned (.bool r) ∧ Below w.heap.size w w':=by
  have hu26:=Try.underlying26
  have hu36:=Try.underlying36
  have HR0_1:=qn.mk hr0_1
  have HC0_1:=qn.mk hc0_1
  clear hr0_1 hc0_1
  have HB:=qn.mk (Below.refl w.heap.size w)
  have H : ((impl_in.f a0_0 0 9).bind fun t193=>(if t193 = true then (impl_GraphOk.l0 k l0_1 (l0_1.length : Int) 0 a0_0 l0_1) else (some false))) = some r:=h
  clear h
  replace H:=Option.bind_eq_some_iff.mp H
  obtain ⟨t193,A20,H⟩:=H
  replace H : (if t193 = true then (impl_GraphOk.l0 k l0_1 (l0_1.length : Int) 0 a0_0 l0_1) else (some false)) = some r:=H
  have A2:=qn.mk A20
  clear A20
  by_cases c3 : t193 = true
  · subst c3
    have H1 : (impl_GraphOk.l0 k l0_1 (l0_1.length : Int) 0 a0_0 l0_1) = some r:=by rw [if_pos rfl] at H;exact H
    clear H
    have H:=H1
    clear H1
    have H':=qn.mk H
    clear H
    go_enter Try.func16,Try.ntmps16
    go_wp2_with (first|((with_reducible refine gate_dst (N:=1) rfl ?_);refine box_event ?hg (N:=1) ?hd (cs:=#[.int .i64 a0_0,.slice A0_1 l0_1.length c0_1]) (t:=26) ?hr ?_;(case hd=>rfl);(case hg=>rfl);(case hr=>first|(go_simp;done)|(go_simp;rfl));intro gb192 hg w4 hbox hb;have n0_:=hs_ HB hb;have n1_:=qn.mk (hbox);have n2_:=qn.mk ((by rw [hg];exact (qj (by repeat (first|(with_reducible first|exact HB.out|apply qf|apply qa|apply qd)|exact HB.out))) : w.heap.size ≤ gb192));have n3_:=qn.mk ((by rw [hg];exact (qj (by repeat (first|(with_reducible first|exact HB.out|apply qf|apply qa|apply qd)|exact HB.out))) : w.heap.size ≤ gb192));clear HB;have HB:=n0_;have BK192:=n1_;have GW192:=n2_;have GE192:=n3_;clear n0_ n1_ n2_ n3_;clear hb hbox hg;have hcz5_0 : w4.cell? ⟨gb192,0,none⟩ = some (.int .i64 a0_0):=(qh BK192.out 0).trans rfl;have hcz5_1 : w4.cell? ⟨gb192,1,none⟩ = some (.slice A0_1 l0_1.length c0_1):=(qh BK192.out 1).trans rfl;have hfz5_0:=qi BK192.out 0;have hfz5_1:=qi BK192.out 1)|(go_at_call 59;(with_reducible refine (impl_in.calls a0_0 0 9 true _ A2.out).mono ?_);rintro e w' ⟨rfl,⟨nd,rfl⟩⟩;(try first|exact ⟨rfl,_,World.drewN_drewN _ _ _⟩|exact ⟨rfl,_,Eq.trans (World.drewN_drewN _ _ _) (congrArg (World.drewN _) (Nat.add_assoc _ _ _))⟩)))
    repeat (go_quiet (first|((with_reducible refine gate_dst (N:=1) rfl ?_);refine box_event ?hg (N:=1) ?hd (cs:=#[.int .i64 a0_0,.slice A0_1 l0_1.length c0_1]) (t:=26) ?hr ?_;(case hd=>rfl);(case hg=>rfl);(case hr=>first|(go_simp;done)|(go_simp;rfl));intro gb192 hg w4 hbox hb;have n0_:=hs_ HB hb;have n1_:=qn.mk (hbox);have n2_:=qn.mk ((by rw [hg];exact (qj (by repeat (first|(with_reducible first|exact HB.out|apply qf|apply qa|apply qd)|exact HB.out))) : w.heap.size ≤ gb192));have n3_:=qn.mk ((by rw [hg];exact (qj (by repeat (first|(with_reducible first|exact HB.out|apply qf|apply qa|apply qd)|exact HB.out))) : w.heap.size ≤ gb192));clear HB;have HB:=n0_;have BK192:=n1_;have GW192:=n2_;have GE192:=n3_;clear n0_ n1_ n2_ n3_;clear hb hbox hg;have hcz5_0 : w4.cell? ⟨gb192,0,none⟩ = some (.int .i64 a0_0):=(qh BK192.out 0).trans rfl;have hcz5_1 : w4.cell? ⟨gb192,1,none⟩ = some (.slice A0_1 l0_1.length c0_1):=(qh BK192.out 1).trans rfl;have hfz5_0:=qi BK192.out 0;have hfz5_1:=qi BK192.out 1)|(go_at_call 59;(with_reducible refine (impl_in.calls a0_0 0 9 true _ A2.out).mono ?_);rintro e w' ⟨rfl,⟨nd,rfl⟩⟩;(try first|exact ⟨rfl,_,World.drewN_drewN _ _ _⟩|exact ⟨rfl,_,Eq.trans (World.drewN_drewN _ _ _) (congrArg (World.drewN _) (Nat.add_assoc _ _ _))⟩)));try go_wp2_with (first|((with_reducible refine gate_dst (N:=1) rfl ?_);refine box_event ?hg (N:=1) ?hd (cs:=#[.int .i64 a0_0,.slice A0_1 l0_1.length c0_1]) (t:=26) ?hr ?_;(case hd=>rfl);(case hg=>rfl);(case hr=>first|(go_simp;done)|(go_simp;rfl));intro gb192 hg w4 hbox hb;have n0_:=hs_ HB hb;have n1_:=qn.mk (hbox);have n2_:=qn.mk ((by rw [hg];exact (qj (by repeat (first|(with_reducible first|exact HB.out|apply qf|apply qa|apply qd)|exact HB.out))) : w.heap.size ≤ gb192));have n3_:=qn.mk ((by rw [hg];exact (qj (by repeat (first|(with_reducible first|exact HB.out|apply qf|apply qa|apply qd)|exact HB.out))) : w.heap.size ≤ gb192));clear HB;have HB:=n0_;have BK192:=n1_;have GW192:=n2_;have GE192:=n3_;clear n0_ n1_ n2_ n3_;clear hb hbox hg;have hcz5_0 : w4.cell? ⟨gb192,0,none⟩ = some (.int .i64 a0_0):=(qh BK192.out 0).trans rfl;have hcz5_1 : w4.cell? ⟨gb192,1,none⟩ = some (.slice A0_1 l0_1.length c0_1):=(qh BK192.out 1).trans rfl;have hfz5_0:=qi BK192.out 0;have hfz5_1:=qi BK192.out 1)|(go_at_call 59;(with_reducible refine (impl_in.calls a0_0 0 9 true _ A2.out).mono ?_);rintro e w' ⟨rfl,⟨nd,rfl⟩⟩;(try first|exact ⟨rfl,_,World.drewN_drewN _ _ _⟩|exact ⟨rfl,_,Eq.trans (World.drewN_drewN _ _ _) (congrArg (World.drewN _) (Nat.add_assoc _ _ _))⟩))))
    go_loopg [13] k (fun kq v13 w'=>∃ (x13_1 : Int),v13 = .int .i64 x13_1 ∧ qn (impl_GraphOk.l0 kq l0_1 (l0_1.length : Int) x13_1 a0_0 l0_1 = some r) ∧ qn (kq ≤ k) ∧ qn (w'.heap[gb192]? = some (.cells #[.int .i64 a0_0,(.slice A0_1 l0_1.length c0_1)] 26 (0,0))) ∧ qn (Below w.heap.size w w'))
    case atStart=>exact ⟨(0),(by first|rfl|(simp;done)|(simp [*];done)),H',⟨Nat.le_refl _⟩,⟨by (with_reducible repeat (first|refine qb ?_ _|refine qe ?_|refine qc ?_ _));exact BK192.out⟩,⟨by repeat (first|(with_reducible first|exact HB.out|apply qf|apply qa|apply qd|refine qg ?_ GE192.out)|exact HB.out)⟩⟩
    case round =>
      clear H'
      try clear c1
      try clear p2
      try clear c3
      try clear hcz5_0
      try clear hcz5_1
      try clear hfz5_0
      try clear hfz5_1
      obtain ⟨x13_1,rfl,HA,HK1,BK192,HB⟩:=hrel
      cases gk with
      | zero=>exact absurd HA.out (by simp [impl_GraphOk.l0])
      | succ k1 =>
        have H:=HA.out
        clear HA
        simp only [impl_GraphOk.l0] at H
        by_cases c6 : x13_1 < (l0_1.length : Int)
        · rw [if_pos c6] at H
          have c6b0 : decide (x13_1 < (l0_1.length : Int)) = true:=decide_eq_true c6
          clear c6
          by_cases c7 : 0 ≤ x13_1
          · rw [if_pos c7] at H
            have c7b0 : decide (0 ≤ x13_1) = true:=decide_eq_true c7
            clear c7
            by_cases c8 : x13_1 < (l0_1.length : Int)
            · rw [if_pos c8] at H
              have c8b0 : decide (x13_1 < (l0_1.length : Int)) = true:=decide_eq_true c8
              clear c8
              have HC9:=qn.mk H
              clear H
              have p194 : 0 ≤ (x13_1 : Int):=of_decide_eq_true (by first|(with_reducible assumption)|assumption)
              have q194 : x13_1 < (l0_1.length : Int):=of_decide_eq_true (by first|(with_reducible assumption)|assumption)
              obtain ⟨ad194,e194,hx194_0,hx194_1,hx194_2,hx194_3,hx194_4⟩:=at_T36 HR0_1.out x13_1 p194 q194
              cases e194
              replace hx194_0:=cb_ HB hx194_0
              replace hx194_1:=cb_ HB hx194_1
              replace hx194_2:=cb_ HB hx194_2
              replace hx194_3:=cb_ HB hx194_3
              replace hx194_4:=cb_ HB hx194_4
              replace p194:=eq_true p194
              replace q194:=eq_true q194
              go_upto_region 6 with (first|((with_reducible refine gate_dst (N:=4) rfl ?_);refine box_event ?hg (N:=4) ?hd (cs:=#[.int .i64 0,.int .i64 0,.int .i64 0,.int .i64 0,.int .i64 0]) (t:=36) ?hr ?_;(case hd=>rfl);(case hg=>rfl);(case hr=>first|(go_simp;done)|(go_simp;rfl));intro gb195 hg w10 hbox hb;have n0_:=bb_ BK192 hb;have n1_:=hs_ HB hb;have n2_:=qn.mk (hbox);have n3_:=qn.mk ((by rw [hg];exact (qj (by repeat (first|(with_reducible first|exact HB.out|apply qf|apply qa|apply qd|refine qg ?_ GE192.out)|exact HB.out))) : w.heap.size ≤ gb195));have n4_:=qn.mk ((by rw [hg];exact (qj (by repeat (first|(with_reducible first|exact HB.out|apply qf|apply qa|apply qd|refine qg ?_ GE192.out)|exact HB.out))) : w.heap.size ≤ gb195));have n5_:=qn.mk ((by rw [hg];exact nl_ BK192 : gb192 ≠ gb195));have n6_:=qn.mk ((by rw [hg];exact ng_ BK192 : gb195 ≠ gb192));clear BK192;clear HB;have BK192:=n0_;have HB:=n1_;have BK195:=n2_;have GW195:=n3_;have GE195:=n4_;have NB192_195:=n5_;have NB195_192:=n6_;clear n0_ n1_ n2_ n3_ n4_ n5_ n6_;clear hb hbox hg;have hnb11:=NB195_192.out;have hnc11:=NB192_195.out;have hcz12_0 : w10.cell? ⟨gb195,0,none⟩ = some (.int .i64 0):=(qh BK195.out 0).trans rfl;have hcz12_1 : w10.cell? ⟨gb195,1,none⟩ = some (.int .i64 0):=(qh BK195.out 1).trans rfl;have hcz12_2 : w10.cell? ⟨gb195,2,none⟩ = some (.int .i64 0):=(qh BK195.out 2).trans rfl;have hcz12_3 : w10.cell? ⟨gb195,3,none⟩ = some (.int .i64 0):=(qh BK195.out 3).trans rfl;have hcz12_4 : w10.cell? ⟨gb195,4,none⟩ = some (.int .i64 0):=(qh BK195.out 4).trans rfl;have hfz12_0:=qi BK195.out 0;have hfz12_1:=qi BK195.out 1;have hfz12_2:=qi BK195.out 2;have hfz12_3:=qi BK195.out 3;have hfz12_4:=qi BK195.out 4))
              repeat (go_quiet (first|((with_reducible refine gate_dst (N:=4) rfl ?_);refine box_event ?hg (N:=4) ?hd (cs:=#[.int .i64 0,.int .i64 0,.int .i64 0,.int .i64 0,.int .i64 0]) (t:=36) ?hr ?_;(case hd=>rfl);(case hg=>rfl);(case hr=>first|(go_simp;done)|(go_simp;rfl));intro gb195 hg w10 hbox hb;have n0_:=bb_ BK192 hb;have n1_:=hs_ HB hb;have n2_:=qn.mk (hbox);have n3_:=qn.mk ((by rw [hg];exact (qj (by repeat (first|(with_reducible first|exact HB.out|apply qf|apply qa|apply qd|refine qg ?_ GE192.out)|exact HB.out))) : w.heap.size ≤ gb195));have n4_:=qn.mk ((by rw [hg];exact (qj (by repeat (first|(with_reducible first|exact HB.out|apply qf|apply qa|apply qd|refine qg ?_ GE192.out)|exact HB.out))) : w.heap.size ≤ gb195));have n5_:=qn.mk ((by rw [hg];exact nl_ BK192 : gb192 ≠ gb195));have n6_:=qn.mk ((by rw [hg];exact ng_ BK192 : gb195 ≠ gb192));clear BK192;clear HB;have BK192:=n0_;have HB:=n1_;have BK195:=n2_;have GW195:=n3_;have GE195:=n4_;have NB192_195:=n5_;have NB195_192:=n6_;clear n0_ n1_ n2_ n3_ n4_ n5_ n6_;clear hb hbox hg;have hnb11:=NB195_192.out;have hnc11:=NB192_195.out;have hcz12_0 : w10.cell? ⟨gb195,0,none⟩ = some (.int .i64 0):=(qh BK195.out 0).trans rfl;have hcz12_1 : w10.cell? ⟨gb195,1,none⟩ = some (.int .i64 0):=(qh BK195.out 1).trans rfl;have hcz12_2 : w10.cell? ⟨gb195,2,none⟩ = some (.int .i64 0):=(qh BK195.out 2).trans rfl;have hcz12_3 : w10.cell? ⟨gb195,3,none⟩ = some (.int .i64 0):=(qh BK195.out 3).trans rfl;have hcz12_4 : w10.cell? ⟨gb195,4,none⟩ = some (.int .i64 0):=(qh BK195.out 4).trans rfl;have hfz12_0:=qi BK195.out 0;have hfz12_1:=qi BK195.out 1;have hfz12_2:=qi BK195.out 2;have hfz12_3:=qi BK195.out 3;have hfz12_4:=qi BK195.out 4));go_upto_region 6 with (first|((with_reducible refine gate_dst (N:=4) rfl ?_);refine box_event ?hg (N:=4) ?hd (cs:=#[.int .i64 0,.int .i64 0,.int .i64 0,.int .i64 0,.int .i64 0]) (t:=36) ?hr ?_;(case hd=>rfl);(case hg=>rfl);(case hr=>first|(go_simp;done)|(go_simp;rfl));intro gb195 hg w10 hbox hb;have n0_:=bb_ BK192 hb;have n1_:=hs_ HB hb;have n2_:=qn.mk (hbox);have n3_:=qn.mk ((by rw [hg];exact (qj (by repeat (first|(with_reducible first|exact HB.out|apply qf|apply qa|apply qd|refine qg ?_ GE192.out)|exact HB.out))) : w.heap.size ≤ gb195));have n4_:=qn.mk ((by rw [hg];exact (qj (by repeat (first|(with_reducible first|exact HB.out|apply qf|apply qa|apply qd|refine qg ?_ GE192.out)|exact HB.out))) : w.heap.size ≤ gb195));have n5_:=qn.mk ((by rw [hg];exact nl_ BK192 : gb192 ≠ gb195));have n6_:=qn.mk ((by rw [hg];exact ng_ BK192 : gb195 ≠ gb192));clear BK192;clear HB;have BK192:=n0_;have HB:=n1_;have BK195:=n2_;have GW195:=n3_;have GE195:=n4_;have NB192_195:=n5_;have NB195_192:=n6_;clear n0_ n1_ n2_ n3_ n4_ n5_ n6_;clear hb hbox hg;have hnb11:=NB195_192.out;have hnc11:=NB192_195.out;have hcz12_0 : w10.cell? ⟨gb195,0,none⟩ = some (.int .i64 0):=(qh BK195.out 0).trans rfl;have hcz12_1 : w10.cell? ⟨gb195,1,none⟩ = some (.int .i64 0):=(qh BK195.out 1).trans rfl;have hcz12_2 : w10.cell? ⟨gb195,2,none⟩ = some (.int .i64 0):=(qh BK195.out 2).trans rfl;have hcz12_3 : w10.cell? ⟨gb195,3,none⟩ = some (.int .i64 0):=(qh BK195.out 3).trans rfl;have hcz12_4 : w10.cell? ⟨gb195,4,none⟩ = some (.int .i64 0):=(qh BK195.out 4).trans rfl;have hfz12_0:=qi BK195.out 0;have hfz12_1:=qi BK195.out 1;have hfz12_2:=qi BK195.out 2;have hfz12_3:=qi BK195.out 3;have hfz12_4:=qi BK195.out 4)))
              (try simp only [Act.put,List.setIfInBounds_toArray,List.set_cons_zero,List.set_cons_succ])
              go_cut [58] (fun v58 wc=>∃ (kq : Nat) (x58_8 : Bool),v58 = .bool x58_8 ∧ qn (impl_GraphOk.j1 kq x13_1 l0_1 (l0_1.length : Int) x13_1 x58_8 a0_0 l0_1 ((rd_T36 l0_1 x13_1).f0) ((rd_T36 l0_1 x13_1).f1) ((rd_T36 l0_1 x13_1).f2) ((rd_T36 l0_1 x13_1).f3) ((rd_T36 l0_1 x13_1).f4) = some r) ∧ qn (kq ≤ k1) ∧ qn (wc.heap[gb192]? = some (.cells #[.int .i64 a0_0,(.slice (some ad194) l0_1.length c0_1)] 26 (0,0))) ∧ qn (wc.heap[gb195]? = some (.cells #[.int .i64 ((rd_T36 l0_1 x13_1).f0),.int .i64 ((rd_T36 l0_1 x13_1).f1),.int .i64 ((rd_T36 l0_1 x13_1).f2),.int .i64 ((rd_T36 l0_1 x13_1).f3),.int .i64 ((rd_T36 l0_1 x13_1).f4)] 36 (0,0))) ∧ qn (Below w.heap.size w wc))
              case first =>
                have H:=HC9.out
                clear HC9
                replace H:=Option.bind_eq_some_iff.mp H
                obtain ⟨t196,A130,H⟩:=H
                replace H : (if t196 = true then ((impl_in.f ((rd_T36 l0_1 x13_1).f1) 0 (wrap64 (a0_0 - 1))).bind fun t197=>(if t197 = true then (if ((rd_T36 l0_1 x13_1).f0) ≥ ((rd_T36 l0_1 x13_1).f1) then (impl_GraphOk.j1 k1 x13_1 l0_1 (l0_1.length : Int) x13_1 true a0_0 l0_1 ((rd_T36 l0_1 x13_1).f0) ((rd_T36 l0_1 x13_1).f1) ((rd_T36 l0_1 x13_1).f2) ((rd_T36 l0_1 x13_1).f3) ((rd_T36 l0_1 x13_1).f4)) else ((impl_in.f ((rd_T36 l0_1 x13_1).f2) 0 50).bind fun t198=>(if t198 = true then ((impl_in.f ((rd_T36 l0_1 x13_1).f3) 0 50).bind fun t199=>(if t199 = true then ((impl_in.f ((rd_T36 l0_1 x13_1).f4) 0 50).bind fun t200=>(impl_GraphOk.j1 k1 x13_1 l0_1 (l0_1.length : Int) x13_1 (!t200) a0_0 l0_1 ((rd_T36 l0_1 x13_1).f0) ((rd_T36 l0_1 x13_1).f1) ((rd_T36 l0_1 x13_1).f2) ((rd_T36 l0_1 x13_1).f3) ((rd_T36 l0_1 x13_1).f4))) else (impl_GraphOk.j1 k1 x13_1 l0_1 (l0_1.length : Int) x13_1 true a0_0 l0_1 ((rd_T36 l0_1 x13_1).f0) ((rd_T36 l0_1 x13_1).f1) ((rd_T36 l0_1 x13_1).f2) ((rd_T36 l0_1 x13_1).f3) ((rd_T36 l0_1 x13_1).f4)))) else (impl_GraphOk.j1 k1 x13_1 l0_1 (l0_1.length : Int) x13_1 true a0_0 l0_1 ((rd_T36 l0_1 x13_1).f0) ((rd_T36 l0_1 x13_1).f1) ((rd_T36 l0_1 x13_1).f2) ((rd_T36 l0_1 x13_1).f3) ((rd_T36 l0_1 x13_1).f4))))) else (impl_GraphOk.j1 k1 x13_1 l0_1 (l0_1.length : Int) x13_1 true a0_0 l0_1 ((rd_T36 l0_1 x13_1).f0) ((rd_T36 l0_1 x13_1).f1) ((rd_T36 l0_1 x13_1).f2) ((rd_T36 l0_1 x13_1).f3) ((rd_T36 l0_1 x13_1).f4)))) else (impl_GraphOk.j1 k1 x13_1 l0_1 (l0_1.length : Int) x13_1 true a0_0 l0_1 ((rd_T36 l0_1 x13_1).f0) ((rd_T36 l0_1 x13_1).f1) ((rd_T36 l0_1 x13_1).f2) ((rd_T36 l0_1 x13_1).f3) ((rd_T36 l0_1 x13_1).f4))) = some r:=H
                have A13:=qn.mk A130
                clear A130
                by_cases c14 : t196 = true
                · subst c14
                  have H1 : ((impl_in.f ((rd_T36 l0_1 x13_1).f1) 0 (wrap64 (a0_0 - 1))).bind fun t197=>(if t197 = true then (if ((rd_T36 l0_1 x13_1).f0) ≥ ((rd_T36 l0_1 x13_1).f1) then (impl_GraphOk.j1 k1 x13_1 l0_1 (l0_1.length : Int) x13_1 true a0_0 l0_1 ((rd_T36 l0_1 x13_1).f0) ((rd_T36 l0_1 x13_1).f1) ((rd_T36 l0_1 x13_1).f2) ((rd_T36 l0_1 x13_1).f3) ((rd_T36 l0_1 x13_1).f4)) else ((impl_in.f ((rd_T36 l0_1 x13_1).f2) 0 50).bind fun t198=>(if t198 = true then ((impl_in.f ((rd_T36 l0_1 x13_1).f3) 0 50).bind fun t199=>(if t199 = true then ((impl_in.f ((rd_T36 l0_1 x13_1).f4) 0 50).bind fun t200=>(impl_GraphOk.j1 k1 x13_1 l0_1 (l0_1.length : Int) x13_1 (!t200) a0_0 l0_1 ((rd_T36 l0_1 x13_1).f0) ((rd_T36 l0_1 x13_1).f1) ((rd_T36 l0_1 x13_1).f2) ((rd_T36 l0_1 x13_1).f3) ((rd_T36 l0_1 x13_1).f4))) else (impl_GraphOk.j1 k1 x13_1 l0_1 (l0_1.length : Int) x13_1 true a0_0 l0_1 ((rd_T36 l0_1 x13_1).f0) ((rd_T36 l0_1 x13_1).f1) ((rd_T36 l0_1 x13_1).f2) ((rd_T36 l0_1 x13_1).f3) ((rd_T36 l0_1 x13_1).f4)))) else (impl_GraphOk.j1 k1 x13_1 l0_1 (l0_1.length : Int) x13_1 true a0_0 l0_1 ((rd_T36 l0_1 x13_1).f0) ((rd_T36 l0_1 x13_1).f1) ((rd_T36 l0_1 x13_1).f2) ((rd_T36 l0_1 x13_1).f3) ((rd_T36 l0_1 x13_1).f4))))) else (impl_GraphOk.j1 k1 x13_1 l0_1 (l0_1.length : Int) x13_1 true a0_0 l0_1 ((rd_T36 l0_1 x13_1).f0) ((rd_T36 l0_1 x13_1).f1) ((rd_T36 l0_1 x13_1).f2) ((rd_T36 l0_1 x13_1).f3) ((rd_T36 l0_1 x13_1).f4)))) = some r:=by rw [if_pos rfl] at H;exact H
                  clear H
                  have H:=H1
                  clear H1
                  replace H:=Option.bind_eq_some_iff.mp H
                  obtain ⟨t197,A150,H⟩:=H
                  replace H : (if t197 = true then (if ((rd_T36 l0_1 x13_1).f0) ≥ ((rd_T36 l0_1 x13_1).f1) then (impl_GraphOk.j1 k1 x13_1 l0_1 (l0_1.length : Int) x13_1 true a0_0 l0_1 ((rd_T36 l0_1 x13_1).f0) ((rd_T36 l0_1 x13_1).f1) ((rd_T36 l0_1 x13_1).f2) ((rd_T36 l0_1 x13_1).f3) ((rd_T36 l0_1 x13_1).f4)) else ((impl_in.f ((rd_T36 l0_1 x13_1).f2) 0 50).bind fun t198=>(if t198 = true then ((impl_in.f ((rd_T36 l0_1 x13_1).f3) 0 50).bind fun t199=>(if t199 = true then ((impl_in.f ((rd_T36 l0_1 x13_1).f4) 0 50).bind fun t200=>(impl_GraphOk.j1 k1 x13_1 l0_1 (l0_1.length : Int) x13_1 (!t200) a0_0 l0_1 ((rd_T36 l0_1 x13_1).f0) ((rd_T36 l0_1 x13_1).f1) ((rd_T36 l0_1 x13_1).f2) ((rd_T36 l0_1 x13_1).f3) ((rd_T36 l0_1 x13_1).f4))) else (impl_GraphOk.j1 k1 x13_1 l0_1 (l0_1.length : Int) x13_1 true a0_0 l0_1 ((rd_T36 l0_1 x13_1).f0) ((rd_T36 l0_1 x13_1).f1) ((rd_T36 l0_1 x13_1).f2) ((rd_T36 l0_1 x13_1).f3) ((rd_T36 l0_1 x13_1).f4)))) else (impl_GraphOk.j1 k1 x13_1 l0_1 (l0_1.length : Int) x13_1 true a0_0 l0_1 ((rd_T36 l0_1 x13_1).f0) ((rd_T36 l0_1 x13_1).f1) ((rd_T36 l0_1 x13_1).f2) ((rd_T36 l0_1 x13_1).f3) ((rd_T36 l0_1 x13_1).f4))))) else (impl_GraphOk.j1 k1 x13_1 l0_1 (l0_1.length : Int) x13_1 true a0_0 l0_1 ((rd_T36 l0_1 x13_1).f0) ((rd_T36 l0_1 x13_1).f1) ((rd_T36 l0_1 x13_1).f2) ((rd_T36 l0_1 x13_1).f3) ((rd_T36 l0_1 x13_1).f4))) = some r:=H
                  have A15:=qn.mk A150
                  clear A150
                  by_cases c16 : t197 = true
                  · subst c16
                    have H1 : (if ((rd_T36 l0_1 x13_1).f0) ≥ ((rd_T36 l0_1 x13_1).f1) then (impl_GraphOk.j1 k1 x13_1 l0_1 (l0_1.length : Int) x13_1 true a0_0 l0_1 ((rd_T36 l0_1 x13_1).f0) ((rd_T36 l0_1 x13_1).f1) ((rd_T36 l0_1 x13_1).f2) ((rd_T36 l0_1 x13_1).f3) ((rd_T36 l0_1 x13_1).f4)) else ((impl_in.f ((rd_T36 l0_1 x13_1).f2) 0 50).bind fun t198=>(if t198 = true then ((impl_in.f ((rd_T36 l0_1 x13_1).f3) 0 50).bind fun t199=>(if t199 = true then ((impl_in.f ((rd_T36 l0_1 x13_1).f4) 0 50).bind fun t200=>(impl_GraphOk.j1 k1 x13_1 l0_1 (l0_1.length : Int) x13_1 (!t200) a0_0 l0_1 ((rd_T36 l0_1 x13_1).f0) ((rd_T36 l0_1 x13_1).f1) ((rd_T36 l0_1 x13_1).f2) ((rd_T36 l0_1 x13_1).f3) ((rd_T36 l0_1 x13_1).f4))) else (impl_GraphOk.j1 k1 x13_1 l0_1 (l0_1.length : Int) x13_1 true a0_0 l0_1 ((rd_T36 l0_1 x13_1).f0) ((rd_T36 l0_1 x13_1).f1) ((rd_T36 l0_1 x13_1).f2) ((rd_T36 l0_1 x13_1).f3) ((rd_T36 l0_1 x13_1).f4)))) else (impl_GraphOk.j1 k1 x13_1 l0_1 (l0_1.length : Int) x13_1 true a0_0 l0_1 ((rd_T36 l0_1 x13_1).f0) ((rd_T36 l0_1 x13_1).f1) ((rd_T36 l0_1 x13_1).f2) ((rd_T36 l0_1 x13_1).f3) ((rd_T36 l0_1 x13_1).f4))))) = some r:=by rw [if_pos rfl] at H;exact H
                    clear H
                    have H:=H1
                    clear H1
                    by_cases c17 : ((rd_T36 l0_1 x13_1).f0) ≥ ((rd_T36 l0_1 x13_1).f1)
                    · rw [if_pos c17] at H
                      have c17b0 : decide (((rd_T36 l0_1 x13_1).f1) ≤ ((rd_T36 l0_1 x13_1).f0)) = true:=decide_eq_true c17
                      clear c17
                      (first|rw [c17b0]|(simp only [i64_w,i32_w];rw [c17b0])|skip)
                      have H':=qn.mk H
                      clear H
                      have hnb18:=NB195_192.out
                      have hnc18:=NB192_195.out
                      have hcz19_0 : w10.cell? ⟨gb195,0,none⟩ = some (.int .i64 0):=(qh BK195.out 0).trans rfl
                      have hcz19_1 : w10.cell? ⟨gb195,1,none⟩ = some (.int .i64 0):=(qh BK195.out 1).trans rfl
                      have hcz19_2 : w10.cell? ⟨gb195,2,none⟩ = some (.int .i64 0):=(qh BK195.out 2).trans rfl
                      have hcz19_3 : w10.cell? ⟨gb195,3,none⟩ = some (.int .i64 0):=(qh BK195.out 3).trans rfl
                      have hcz19_4 : w10.cell? ⟨gb195,4,none⟩ = some (.int .i64 0):=(qh BK195.out 4).trans rfl
                      have hfz19_0:=qi BK195.out 0
                      have hfz19_1:=qi BK195.out 1
                      have hfz19_2:=qi BK195.out 2
                      have hfz19_3:=qi BK195.out 3
                      have hfz19_4:=qi BK195.out 4
                      have hcz20_0 : w10.cell? ⟨gb192,0,none⟩ = some (.int .i64 a0_0):=(qh BK192.out 0).trans rfl
                      have hcz20_1 : w10.cell? ⟨gb192,1,none⟩ = some (.slice (some ad194) l0_1.length c0_1):=(qh BK192.out 1).trans rfl
                      have hfz20_0:=qi BK192.out 0
                      have hfz20_1:=qi BK192.out 1
                      go_wp2_with (first|(go_at_call 59;(with_reducible refine (impl_in.calls ((rd_T36 l0_1 x13_1).f0) 0 (wrap64 (a0_0 - 1)) true _ A13.out).mono ?_);rintro e w' ⟨rfl,⟨nd,rfl⟩⟩;(try first|exact ⟨rfl,_,World.drewN_drewN _ _ _⟩|exact ⟨rfl,_,Eq.trans (World.drewN_drewN _ _ _) (congrArg (World.drewN _) (Nat.add_assoc _ _ _))⟩))|(go_at_call 59;(with_reducible refine (impl_in.calls ((rd_T36 l0_1 x13_1).f1) 0 (wrap64 (a0_0 - 1)) true _ A15.out).mono ?_);rintro e w' ⟨rfl,⟨nd,rfl⟩⟩;(try first|exact ⟨rfl,_,World.drewN_drewN _ _ _⟩|exact ⟨rfl,_,Eq.trans (World.drewN_drewN _ _ _) (congrArg (World.drewN _) (Nat.add_assoc _ _ _))⟩)))
                      repeat (go_quiet (first|(go_at_call 59;(with_reducible refine (impl_in.calls ((rd_T36 l0_1 x13_1).f0) 0 (wrap64 (a0_0 - 1)) true _ A13.out).mono ?_);rintro e w' ⟨rfl,⟨nd,rfl⟩⟩;(try first|exact ⟨rfl,_,World.drewN_drewN _ _ _⟩|exact ⟨rfl,_,Eq.trans (World.drewN_drewN _ _ _) (congrArg (World.drewN _) (Nat.add_assoc _ _ _))⟩))|(go_at_call 59;(with_reducible refine (impl_in.calls ((rd_T36 l0_1 x13_1).f1) 0 (wrap64 (a0_0 - 1)) true _ A15.out).mono ?_);rintro e w' ⟨rfl,⟨nd,rfl⟩⟩;(try first|exact ⟨rfl,_,World.drewN_drewN _ _ _⟩|exact ⟨rfl,_,Eq.trans (World.drewN_drewN _ _ _) (congrArg (World.drewN _) (Nat.add_assoc _ _ _))⟩)));try go_wp2_with (first|(go_at_call 59;(with_reducible refine (impl_in.calls ((rd_T36 l0_1 x13_1).f0) 0 (wrap64 (a0_0 - 1)) true _ A13.out).mono ?_);rintro e w' ⟨rfl,⟨nd,rfl⟩⟩;(try first|exact ⟨rfl,_,World.drewN_drewN _ _ _⟩|exact ⟨rfl,_,Eq.trans (World.drewN_drewN _ _ _) (congrArg (World.drewN _) (Nat.add_assoc _ _ _))⟩))|(go_at_call 59;(with_reducible refine (impl_in.calls ((rd_T36 l0_1 x13_1).f1) 0 (wrap64 (a0_0 - 1)) true _ A15.out).mono ?_);rintro e w' ⟨rfl,⟨nd,rfl⟩⟩;(try first|exact ⟨rfl,_,World.drewN_drewN _ _ _⟩|exact ⟨rfl,_,Eq.trans (World.drewN_drewN _ _ _) (congrArg (World.drewN _) (Nat.add_assoc _ _ _))⟩))))
                      go_meet
                      case rel=>exact ⟨_,(true),(by first|rfl|(simp;done)|(simp [*];done)),H',⟨by have:=HK1.out;first|omega|exact Nat.le_refl _⟩,⟨by (with_reducible repeat (first|refine qb ?_ _|refine qe ?_|refine qc ?_ _));refine blk_far ?_ NB192_195.out _;(with_reducible repeat (first|refine qb ?_ _|refine qe ?_|refine qc ?_ _));refine blk_far ?_ NB192_195.out _;(with_reducible repeat (first|refine qb ?_ _|refine qe ?_|refine qc ?_ _));refine blk_far ?_ NB192_195.out _;(with_reducible repeat (first|refine qb ?_ _|refine qe ?_|refine qc ?_ _));refine blk_far ?_ NB192_195.out _;(with_reducible repeat (first|refine qb ?_ _|refine qe ?_|refine qc ?_ _));refine blk_far ?_ NB192_195.out _;(with_reducible repeat (first|refine qb ?_ _|refine qe ?_|refine qc ?_ _));exact BK192.out⟩,⟨by (with_reducible repeat (first|refine qb ?_ _|refine qe ?_|refine qc ?_ _));refine blk_put (cs:=#[.int .i64 ((rd_T36 l0_1 x13_1).f0),.int .i64 ((rd_T36 l0_1 x13_1).f1),.int .i64 ((rd_T36 l0_1 x13_1).f2),.int .i64 ((rd_T36 l0_1 x13_1).f3),.int .i64 0]) ?_ 4 _ rfl;(with_reducible repeat (first|refine qb ?_ _|refine qe ?_|refine qc ?_ _));refine blk_put (cs:=#[.int .i64 ((rd_T36 l0_1 x13_1).f0),.int .i64 ((rd_T36 l0_1 x13_1).f1),.int .i64 ((rd_T36 l0_1 x13_1).f2),.int .i64 0,.int .i64 0]) ?_ 3 _ rfl;(with_reducible repeat (first|refine qb ?_ _|refine qe ?_|refine qc ?_ _));refine blk_put (cs:=#[.int .i64 ((rd_T36 l0_1 x13_1).f0),.int .i64 ((rd_T36 l0_1 x13_1).f1),.int .i64 0,.int .i64 0,.int .i64 0]) ?_ 2 _ rfl;(with_reducible repeat (first|refine qb ?_ _|refine qe ?_|refine qc ?_ _));refine blk_put (cs:=#[.int .i64 ((rd_T36 l0_1 x13_1).f0),.int .i64 0,.int .i64 0,.int .i64 0,.int .i64 0]) ?_ 1 _ rfl;(with_reducible repeat (first|refine qb ?_ _|refine qe ?_|refine qc ?_ _));refine blk_put (cs:=#[.int .i64 0,.int .i64 0,.int .i64 0,.int .i64 0,.int .i64 0]) ?_ 0 _ rfl;(with_reducible repeat (first|refine qb ?_ _|refine qe ?_|refine qc ?_ _));exact BK195.out⟩,⟨by repeat (first|(with_reducible first|exact HB.out|apply qf|apply qa|apply qd|refine qg ?_ GE192.out|refine qg ?_ GE195.out)|exact HB.out)⟩⟩
                    · rw [if_neg c17] at H
                      have c17b0 : decide (((rd_T36 l0_1 x13_1).f1) ≤ ((rd_T36 l0_1 x13_1).f0)) = false:=decide_eq_false c17
                      clear c17
                      (first|rw [c17b0]|(simp only [i64_w,i32_w];rw [c17b0])|skip)
                      replace H:=Option.bind_eq_some_iff.mp H
                      obtain ⟨t198,A210,H⟩:=H
                      replace H : (if t198 = true then ((impl_in.f ((rd_T36 l0_1 x13_1).f3) 0 50).bind fun t199=>(if t199 = true then ((impl_in.f ((rd_T36 l0_1 x13_1).f4) 0 50).bind fun t200=>(impl_GraphOk.j1 k1 x13_1 l0_1 (l0_1.length : Int) x13_1 (!t200) a0_0 l0_1 ((rd_T36 l0_1 x13_1).f0) ((rd_T36 l0_1 x13_1).f1) ((rd_T36 l0_1 x13_1).f2) ((rd_T36 l0_1 x13_1).f3) ((rd_T36 l0_1 x13_1).f4))) else (impl_GraphOk.j1 k1 x13_1 l0_1 (l0_1.length : Int) x13_1 true a0_0 l0_1 ((rd_T36 l0_1 x13_1).f0) ((rd_T36 l0_1 x13_1).f1) ((rd_T36 l0_1 x13_1).f2) ((rd_T36 l0_1 x13_1).f3) ((rd_T36 l0_1 x13_1).f4)))) else (impl_GraphOk.j1 k1 x13_1 l0_1 (l0_1.length : Int) x13_1 true a0_0 l0_1 ((rd_T36 l0_1 x13_1).f0) ((rd_T36 l0_1 x13_1).f1) ((rd_T36 l0_1 x13_1).f2) ((rd_T36 l0_1 x13_1).f3) ((rd_T36 l0_1 x13_1).f4))) = some r:=H
                      have A21:=qn.mk A210
                      clear A210
                      by_cases c22 : t198 = true
                      · subst c22
                        have H1 : ((impl_in.f ((rd_T36 l0_1 x13_1).f3) 0 50).bind fun t199=>(if t199 = true then ((impl_in.f ((rd_T36 l0_1 x13_1).f4) 0 50).bind fun t200=>(impl_GraphOk.j1 k1 x13_1 l0_1 (l0_1.length : Int) x13_1 (!t200) a0_0 l0_1 ((rd_T36 l0_1 x13_1).f0) ((rd_T36 l0_1 x13_1).f1) ((rd_T36 l0_1 x13_1).f2) ((rd_T36 l0_1 x13_1).f3) ((rd_T36 l0_1 x13_1).f4))) else (impl_GraphOk.j1 k1 x13_1 l0_1 (l0_1.length : Int) x13_1 true a0_0 l0_1 ((rd_T36 l0_1 x13_1).f0) ((rd_T36 l0_1 x13_1).f1) ((rd_T36 l0_1 x13_1).f2) ((rd_T36 l0_1 x13_1).f3) ((rd_T36 l0_1 x13_1).f4)))) = some r:=by rw [if_pos rfl] at H;exact H
                        clear H
                        have H:=H1
                        clear H1
                        replace H:=Option.bind_eq_some_iff.mp H
                        obtain ⟨t199,A230,H⟩:=H
                        replace H : (if t199 = true then ((impl_in.f ((rd_T36 l0_1 x13_1).f4) 0 50).bind fun t200=>(impl_GraphOk.j1 k1 x13_1 l0_1 (l0_1.length : Int) x13_1 (!t200) a0_0 l0_1 ((rd_T36 l0_1 x13_1).f0) ((rd_T36 l0_1 x13_1).f1) ((rd_T36 l0_1 x13_1).f2) ((rd_T36 l0_1 x13_1).f3) ((rd_T36 l0_1 x13_1).f4))) else (impl_GraphOk.j1 k1 x13_1 l0_1 (l0_1.length : Int) x13_1 true a0_0 l0_1 ((rd_T36 l0_1 x13_1).f0) ((rd_T36 l0_1 x13_1).f1) ((rd_T36 l0_1 x13_1).f2) ((rd_T36 l0_1 x13_1).f3) ((rd_T36 l0_1 x13_1).f4))) = some r:=H
                        have A23:=qn.mk A230
                        clear A230
                        by_cases c24 : t199 = true
                        · subst c24
                          have H1 : ((impl_in.f ((rd_T36 l0_1 x13_1).f4) 0 50).bind fun t200=>(impl_GraphOk.j1 k1 x13_1 l0_1 (l0_1.length : Int) x13_1 (!t200) a0_0 l0_1 ((rd_T36 l0_1 x13_1).f0) ((rd_T36 l0_1 x13_1).f1) ((rd_T36 l0_1 x13_1).f2) ((rd_T36 l0_1 x13_1).f3) ((rd_T36 l0_1 x13_1).f4))) = some r:=by rw [if_pos rfl] at H;exact H
                          clear H
                          have H:=H1
                          clear H1
                          replace H:=Option.bind_eq_some_iff.mp H
                          obtain ⟨t200,A250,H⟩:=H
                          replace H : (impl_GraphOk.j1 k1 x13_1 l0_1 (l0_1.length : Int) x13_1 (!t200) a0_0 l0_1 ((rd_T36 l0_1 x13_1).f0) ((rd_T36 l0_1 x13_1).f1) ((rd_T36 l0_1 x13_1).f2) ((rd_T36 l0_1 x13_1).f3) ((rd_T36 l0_1 x13_1).f4)) = some r:=H
                          have A25:=qn.mk A250
                          clear A250
                          have H':=qn.mk H
                          clear H
                          have hnb26:=NB195_192.out
                          have hnc26:=NB192_195.out
                          have hcz27_0 : w10.cell? ⟨gb195,0,none⟩ = some (.int .i64 0):=(qh BK195.out 0).trans rfl
                          have hcz27_1 : w10.cell? ⟨gb195,1,none⟩ = some (.int .i64 0):=(qh BK195.out 1).trans rfl
                          have hcz27_2 : w10.cell? ⟨gb195,2,none⟩ = some (.int .i64 0):=(qh BK195.out 2).trans rfl
                          have hcz27_3 : w10.cell? ⟨gb195,3,none⟩ = some (.int .i64 0):=(qh BK195.out 3).trans rfl
                          have hcz27_4 : w10.cell? ⟨gb195,4,none⟩ = some (.int .i64 0):=(qh BK195.out 4).trans rfl
                          have hfz27_0:=qi BK195.out 0
                          have hfz27_1:=qi BK195.out 1
                          have hfz27_2:=qi BK195.out 2
                          have hfz27_3:=qi BK195.out 3
                          have hfz27_4:=qi BK195.out 4
                          have hcz28_0 : w10.cell? ⟨gb192,0,none⟩ = some (.int .i64 a0_0):=(qh BK192.out 0).trans rfl
                          have hcz28_1 : w10.cell? ⟨gb192,1,none⟩ = some (.slice (some ad194) l0_1.length c0_1):=(qh BK192.out 1).trans rfl
                          have hfz28_0:=qi BK192.out 0
                          have hfz28_1:=qi BK192.out 1
                          go_wp2_with (first|(go_at_call 59;(with_reducible refine (impl_in.calls ((rd_T36 l0_1 x13_1).f0) 0 (wrap64 (a0_0 - 1)) true _ A13.out).mono ?_);rintro e w' ⟨rfl,⟨nd,rfl⟩⟩;(try first|exact ⟨rfl,_,World.drewN_drewN _ _ _⟩|exact ⟨rfl,_,Eq.trans (World.drewN_drewN _ _ _) (congrArg (World.drewN _) (Nat.add_assoc _ _ _))⟩))|(go_at_call 59;(with_reducible refine (impl_in.calls ((rd_T36 l0_1 x13_1).f1) 0 (wrap64 (a0_0 - 1)) true _ A15.out).mono ?_);rintro e w' ⟨rfl,⟨nd,rfl⟩⟩;(try first|exact ⟨rfl,_,World.drewN_drewN _ _ _⟩|exact ⟨rfl,_,Eq.trans (World.drewN_drewN _ _ _) (congrArg (World.drewN _) (Nat.add_assoc _ _ _))⟩))|(go_at_call 59;(with_reducible refine (impl_in.calls ((rd_T36 l0_1 x13_1).f2) 0 50 true _ A21.out).mono ?_);rintro e w' ⟨rfl,⟨nd,rfl⟩⟩;(try first|exact ⟨rfl,_,World.drewN_drewN _ _ _⟩|exact ⟨rfl,_,Eq.trans (World.drewN_drewN _ _ _) (congrArg (World.drewN _) (Nat.add_assoc _ _ _))⟩))|(go_at_call 59;(with_reducible refine (impl_in.calls ((rd_T36 l0_1 x13_1).f3) 0 50 true _ A23.out).mono ?_);rintro e w' ⟨rfl,⟨nd,rfl⟩⟩;(try first|exact ⟨rfl,_,World.drewN_drewN _ _ _⟩|exact ⟨rfl,_,Eq.trans (World.drewN_drewN _ _ _) (congrArg (World.drewN _) (Nat.add_assoc _ _ _))⟩))|(go_at_call 59;(with_reducible refine (impl_in.calls ((rd_T36 l0_1 x13_1).f4) 0 50 t200 _ A25.out).mono ?_);rintro e w' ⟨rfl,⟨nd,rfl⟩⟩;(try first|exact ⟨rfl,_,World.drewN_drewN _ _ _⟩|exact ⟨rfl,_,Eq.trans (World.drewN_drewN _ _ _) (congrArg (World.drewN _) (Nat.add_assoc _ _ _))⟩)))
                          repeat (go_quiet (first|(go_at_call 59;(with_reducible refine (impl_in.calls ((rd_T36 l0_1 x13_1).f0) 0 (wrap64 (a0_0 - 1)) true _ A13.out).mono ?_);rintro e w' ⟨rfl,⟨nd,rfl⟩⟩;(try first|exact ⟨rfl,_,World.drewN_drewN _ _ _⟩|exact ⟨rfl,_,Eq.trans (World.drewN_drewN _ _ _) (congrArg (World.drewN _) (Nat.add_assoc _ _ _))⟩))|(go_at_call 59;(with_reducible refine (impl_in.calls ((rd_T36 l0_1 x13_1).f1) 0 (wrap64 (a0_0 - 1)) true _ A15.out).mono ?_);rintro e w' ⟨rfl,⟨nd,rfl⟩⟩;(try first|exact ⟨rfl,_,World.drewN_drewN _ _ _⟩|exact ⟨rfl,_,Eq.trans (World.drewN_drewN _ _ _) (congrArg (World.drewN _) (Nat.add_assoc _ _ _))⟩))|(go_at_call 59;(with_reducible refine (impl_in.calls ((rd_T36 l0_1 x13_1).f2) 0 50 true _ A21.out).mono ?_);rintro e w' ⟨rfl,⟨nd,rfl⟩⟩;(try first|exact ⟨rfl,_,World.drewN_drewN _ _ _⟩|exact ⟨rfl,_,Eq.trans (World.drewN_drewN _ _ _) (congrArg (World.drewN _) (Nat.add_assoc _ _ _))⟩))|(go_at_call 59;(with_reducible refine (impl_in.calls ((rd_T36 l0_1 x13_1).f3) 0 50 true _ A23.out).mono ?_);rintro e w' ⟨rfl,⟨nd,rfl⟩⟩;(try first|exact ⟨rfl,_,World.drewN_drewN _ _ _⟩|exact ⟨rfl,_,Eq.trans (World.drewN_drewN _ _ _) (congrArg (World.drewN _) (Nat.add_assoc _ _ _))⟩))|(go_at_call 59;(with_reducible refine (impl_in.calls ((rd_T36 l0_1 x13_1).f4) 0 50 t200 _ A25.out).mono ?_);rintro e w' ⟨rfl,⟨nd,rfl⟩⟩;(try first|exact ⟨rfl,_,World.drewN_drewN _ _ _⟩|exact ⟨rfl,_,Eq.trans (World.drewN_drewN _ _ _) (congrArg (World.drewN _) (Nat.add_assoc _ _ _))⟩)));try go_wp2_with (first|(go_at_call 59;(with_reducible refine (impl_in.calls ((rd_T36 l0_1 x13_1).f0) 0 (wrap64 (a0_0 - 1)) true _ A13.out).mono ?_);rintro e w' ⟨rfl,⟨nd,rfl⟩⟩;(try first|exact ⟨rfl,_,World.drewN_drewN _ _ _⟩|exact ⟨rfl,_,Eq.trans (World.drewN_drewN _ _ _) (congrArg (World.drewN _) (Nat.add_assoc _ _ _))⟩))|(go_at_call 59;(with_reducible refine (impl_in.calls ((rd_T36 l0_1 x13_1).f1) 0 (wrap64 (a0_0 - 1)) true _ A15.out).mono ?_);rintro e w' ⟨rfl,⟨nd,rfl⟩⟩;(try first|exact ⟨rfl,_,World.drewN_drewN _ _ _⟩|exact ⟨rfl,_,Eq.trans (World.drewN_drewN _ _ _) (congrArg (World.drewN _) (Nat.add_assoc _ _ _))⟩))|(go_at_call 59;(with_reducible refine (impl_in.calls ((rd_T36 l0_1 x13_1).f2) 0 50 true _ A21.out).mono ?_);rintro e w' ⟨rfl,⟨nd,rfl⟩⟩;(try first|exact ⟨rfl,_,World.drewN_drewN _ _ _⟩|exact ⟨rfl,_,Eq.trans (World.drewN_drewN _ _ _) (congrArg (World.drewN _) (Nat.add_assoc _ _ _))⟩))|(go_at_call 59;(with_reducible refine (impl_in.calls ((rd_T36 l0_1 x13_1).f3) 0 50 true _ A23.out).mono ?_);rintro e w' ⟨rfl,⟨nd,rfl⟩⟩;(try first|exact ⟨rfl,_,World.drewN_drewN _ _ _⟩|exact ⟨rfl,_,Eq.trans (World.drewN_drewN _ _ _) (congrArg (World.drewN _) (Nat.add_assoc _ _ _))⟩))|(go_at_call 59;(with_reducible refine (impl_in.calls ((rd_T36 l0_1 x13_1).f4) 0 50 t200 _ A25.out).mono ?_);rintro e w' ⟨rfl,⟨nd,rfl⟩⟩;(try first|exact ⟨rfl,_,World.drewN_drewN _ _ _⟩|exact ⟨rfl,_,Eq.trans (World.drewN_drewN _ _ _) (congrArg (World.drewN _) (Nat.add_assoc _ _ _))⟩))))
                          go_meet
                          case rel=>exact ⟨_,(!t200),(by first|rfl|(simp;done)|(simp [*];done)),H',⟨by have:=HK1.out;first|omega|exact Nat.le_refl _⟩,⟨by (with_reducible repeat (first|refine qb ?_ _|refine qe ?_|refine qc ?_ _));refine blk_far ?_ NB192_195.out _;(with_reducible repeat (first|refine qb ?_ _|refine qe ?_|refine qc ?_ _));refine blk_far ?_ NB192_195.out _;(with_reducible repeat (first|refine qb ?_ _|refine qe ?_|refine qc ?_ _));refine blk_far ?_ NB192_195.out _;(with_reducible repeat (first|refine qb ?_ _|refine qe ?_|refine qc ?_ _));refine blk_far ?_ NB192_195.out _;(with_reducible repeat (first|refine qb ?_ _|refine qe ?_|refine qc ?_ _));refine blk_far ?_ NB192_195.out _;(with_reducible repeat (first|refine qb ?_ _|refine qe ?_|refine qc ?_ _));exact BK192.out⟩,⟨by (with_reducible repeat (first|refine qb ?_ _|refine qe ?_|refine qc ?_ _));refine blk_put (cs:=#[.int .i64 ((rd_T36 l0_1 x13_1).f0),.int .i64 ((rd_T36 l0_1 x13_1).f1),.int .i64 ((rd_T36 l0_1 x13_1).f2),.int .i64 ((rd_T36 l0_1 x13_1).f3),.int .i64 0]) ?_ 4 _ rfl;(with_reducible repeat (first|refine qb ?_ _|refine qe ?_|refine qc ?_ _));refine blk_put (cs:=#[.int .i64 ((rd_T36 l0_1 x13_1).f0),.int .i64 ((rd_T36 l0_1 x13_1).f1),.int .i64 ((rd_T36 l0_1 x13_1).f2),.int .i64 0,.int .i64 0]) ?_ 3 _ rfl;(with_reducible repeat (first|refine qb ?_ _|refine qe ?_|refine qc ?_ _));refine blk_put (cs:=#[.int .i64 ((rd_T36 l0_1 x13_1).f0),.int .i64 ((rd_T36 l0_1 x13_1).f1),.int .i64 0,.int .i64 0,.int .i64 0]) ?_ 2 _ rfl;(with_reducible repeat (first|refine qb ?_ _|refine qe ?_|refine qc ?_ _));refine blk_put (cs:=#[.int .i64 ((rd_T36 l0_1 x13_1).f0),.int .i64 0,.int .i64 0,.int .i64 0,.int .i64 0]) ?_ 1 _ rfl;(with_reducible repeat (first|refine qb ?_ _|refine qe ?_|refine qc ?_ _));refine blk_put (cs:=#[.int .i64 0,.int .i64 0,.int .i64 0,.int .i64 0,.int .i64 0]) ?_ 0 _ rfl;(with_reducible repeat (first|refine qb ?_ _|refine qe ?_|refine qc ?_ _));exact BK195.out⟩,⟨by repeat (first|(with_reducible first|exact HB.out|apply qf|apply qa|apply qd|refine qg ?_ GE192.out|refine qg ?_ GE195.out)|exact HB.out)⟩⟩
                        · replace c24:=Bool.eq_false_iff.mpr c24
                          subst c24
                          have H1 : (impl_GraphOk.j1 k1 x13_1 l0_1 (l0_1.length : Int) x13_1 true a0_0 l0_1 ((rd_T36 l0_1 x13_1).f0) ((rd_T36 l0_1 x13_1).f1) ((rd_T36 l0_1 x13_1).f2) ((rd_T36 l0_1 x13_1).f3) ((rd_T36 l0_1 x13_1).f4)) = some r:=by rw [if_neg (show ¬ (false = true) by decide)] at H;exact H
                          clear H
                          have H:=H1
                          clear H1
                          have H':=qn.mk H
                          clear H
                          have hnb29:=NB195_192.out
                          have hnc29:=NB192_195.out
                          have hcz30_0 : w10.cell? ⟨gb195,0,none⟩ = some (.int .i64 0):=(qh BK195.out 0).trans rfl
                          have hcz30_1 : w10.cell? ⟨gb195,1,none⟩ = some (.int .i64 0):=(qh BK195.out 1).trans rfl
                          have hcz30_2 : w10.cell? ⟨gb195,2,none⟩ = some (.int .i64 0):=(qh BK195.out 2).trans rfl
                          have hcz30_3 : w10.cell? ⟨gb195,3,none⟩ = some (.int .i64 0):=(qh BK195.out 3).trans rfl
                          have hcz30_4 : w10.cell? ⟨gb195,4,none⟩ = some (.int .i64 0):=(qh BK195.out 4).trans rfl
                          have hfz30_0:=qi BK195.out 0
                          have hfz30_1:=qi BK195.out 1
                          have hfz30_2:=qi BK195.out 2
                          have hfz30_3:=qi BK195.out 3
                          have hfz30_4:=qi BK195.out 4
                          have hcz31_0 : w10.cell? ⟨gb192,0,none⟩ = some (.int .i64 a0_0):=(qh BK192.out 0).trans rfl
                          have hcz31_1 : w10.cell? ⟨gb192,1,none⟩ = some (.slice (some ad194) l0_1.length c0_1):=(qh BK192.out 1).trans rfl
                          have hfz31_0:=qi BK192.out 0
                          have hfz31_1:=qi BK192.out 1
                          go_wp2_with (first|(go_at_call 59;(with_reducible refine (impl_in.calls ((rd_T36 l0_1 x13_1).f0) 0 (wrap64 (a0_0 - 1)) true _ A13.out).mono ?_);rintro e w' ⟨rfl,⟨nd,rfl⟩⟩;(try first|exact ⟨rfl,_,World.drewN_drewN _ _ _⟩|exact ⟨rfl,_,Eq.trans (World.drewN_drewN _ _ _) (congrArg (World.drewN _) (Nat.add_assoc _ _ _))⟩))|(go_at_call 59;(with_reducible refine (impl_in.calls ((rd_T36 l0_1 x13_1).f1) 0 (wrap64 (a0_0 - 1)) true _ A15.out).mono ?_);rintro e w' ⟨rfl,⟨nd,rfl⟩⟩;(try first|exact ⟨rfl,_,World.drewN_drewN _ _ _⟩|exact ⟨rfl,_,Eq.trans (World.drewN_drewN _ _ _) (congrArg (World.drewN _) (Nat.add_assoc _ _ _))⟩))|(go_at_call 59;(with_reducible refine (impl_in.calls ((rd_T36 l0_1 x13_1).f2) 0 50 true _ A21.out).mono ?_);rintro e w' ⟨rfl,⟨nd,rfl⟩⟩;(try first|exact ⟨rfl,_,World.drewN_drewN _ _ _⟩|exact ⟨rfl,_,Eq.trans (World.drewN_drewN _ _ _) (congrArg (World.drewN _) (Nat.add_assoc _ _ _))⟩))|(go_at_call 59;(with_reducible refine (impl_in.calls ((rd_T36 l0_1 x13_1).f3) 0 50 false _ A23.out).mono ?_);rintro e w' ⟨rfl,⟨nd,rfl⟩⟩;(try first|exact ⟨rfl,_,World.drewN_drewN _ _ _⟩|exact ⟨rfl,_,Eq.trans (World.drewN_drewN _ _ _) (congrArg (World.drewN _) (Nat.add_assoc _ _ _))⟩)))
                          repeat (go_quiet (first|(go_at_call 59;(with_reducible refine (impl_in.calls ((rd_T36 l0_1 x13_1).f0) 0 (wrap64 (a0_0 - 1)) true _ A13.out).mono ?_);rintro e w' ⟨rfl,⟨nd,rfl⟩⟩;(try first|exact ⟨rfl,_,World.drewN_drewN _ _ _⟩|exact ⟨rfl,_,Eq.trans (World.drewN_drewN _ _ _) (congrArg (World.drewN _) (Nat.add_assoc _ _ _))⟩))|(go_at_call 59;(with_reducible refine (impl_in.calls ((rd_T36 l0_1 x13_1).f1) 0 (wrap64 (a0_0 - 1)) true _ A15.out).mono ?_);rintro e w' ⟨rfl,⟨nd,rfl⟩⟩;(try first|exact ⟨rfl,_,World.drewN_drewN _ _ _⟩|exact ⟨rfl,_,Eq.trans (World.drewN_drewN _ _ _) (congrArg (World.drewN _) (Nat.add_assoc _ _ _))⟩))|(go_at_call 59;(with_reducible refine (impl_in.calls ((rd_T36 l0_1 x13_1).f2) 0 50 true _ A21.out).mono ?_);rintro e w' ⟨rfl,⟨nd,rfl⟩⟩;(try first|exact ⟨rfl,_,World.drewN_drewN _ _ _⟩|exact ⟨rfl,_,Eq.trans (World.drewN_drewN _ _ _) (congrArg (World.drewN _) (Nat.add_assoc _ _ _))⟩))|(go_at_call 59;(with_reducible refine (impl_in.calls ((rd_T36 l0_1 x13_1).f3) 0 50 false _ A23.out).mono ?_);rintro e w' ⟨rfl,⟨nd,rfl⟩⟩;(try first|exact ⟨rfl,_,World.drewN_drewN _ _ _⟩|exact ⟨rfl,_,Eq.trans (World.drewN_drewN _ _ _) (congrArg (World.drewN _) (Nat.add_assoc _ _ _))⟩)));try go_wp2_with (first|(go_at_call 59;(with_reducible refine (impl_in.calls ((rd_T36 l0_1 x13_1).f0) 0 (wrap64 (a0_0 - 1)) true _ A13.out).mono ?_);rintro e w' ⟨rfl,⟨nd,rfl⟩⟩;(try first|exact ⟨rfl,_,World.drewN_drewN _ _ _⟩|exact ⟨rfl,_,Eq.trans (World.drewN_drewN _ _ _) (congrArg (World.drewN _) (Nat.add_assoc _ _ _))⟩))|(go_at_call 59;(with_reducible refine (impl_in.calls ((rd_T36 l0_1 x13_1).f1) 0 (wrap64 (a0_0 - 1)) true _ A15.out).mono ?_);rintro e w' ⟨rfl,⟨nd,rfl⟩⟩;(try first|exact ⟨rfl,_,World.drewN_drewN _ _ _⟩|exact ⟨rfl,_,Eq.trans (World.drewN_drewN _ _ _) (congrArg (World.drewN _) (Nat.add_assoc _ _ _))⟩))|(go_at_call 59;(with_reducible refine (impl_in.calls ((rd_T36 l0_1 x13_1).f2) 0 50 true _ A21.out).mono ?_);rintro e w' ⟨rfl,⟨nd,rfl⟩⟩;(try first|exact ⟨rfl,_,World.drewN_drewN _ _ _⟩|exact ⟨rfl,_,Eq.trans (World.drewN_drewN _ _ _) (congrArg (World.drewN _) (Nat.add_assoc _ _ _))⟩))|(go_at_call 59;(with_reducible refine (impl_in.calls ((rd_T36 l0_1 x13_1).f3) 0 50 false _ A23.out).mono ?_);rintro e w' ⟨rfl,⟨nd,rfl⟩⟩;(try first|exact ⟨rfl,_,World.drewN_drewN _ _ _⟩|exact ⟨rfl,_,Eq.trans (World.drewN_drewN _ _ _) (congrArg (World.drewN _) (Nat.add_assoc _ _ _))⟩))))
                          go_meet
                          case rel=>exact ⟨_,(true),(by first|rfl|(simp;done)|(simp [*];done)),H',⟨by have:=HK1.out;first|omega|exact Nat.le_refl _⟩,⟨by (with_reducible repeat (first|refine qb ?_ _|refine qe ?_|refine qc ?_ _));refine blk_far ?_ NB192_195.out _;(with_reducible repeat (first|refine qb ?_ _|refine qe ?_|refine qc ?_ _));refine blk_far ?_ NB192_195.out _;(with_reducible repeat (first|refine qb ?_ _|refine qe ?_|refine qc ?_ _));refine blk_far ?_ NB192_195.out _;(with_reducible repeat (first|refine qb ?_ _|refine qe ?_|refine qc ?_ _));refine blk_far ?_ NB192_195.out _;(with_reducible repeat (first|refine qb ?_ _|refine qe ?_|refine qc ?_ _));refine blk_far ?_ NB192_195.out _;(with_reducible repeat (first|refine qb ?_ _|refine qe ?_|refine qc ?_ _));exact BK192.out⟩,⟨by (with_reducible repeat (first|refine qb ?_ _|refine qe ?_|refine qc ?_ _));refine blk_put (cs:=#[.int .i64 ((rd_T36 l0_1 x13_1).f0),.int .i64 ((rd_T36 l0_1 x13_1).f1),.int .i64 ((rd_T36 l0_1 x13_1).f2),.int .i64 ((rd_T36 l0_1 x13_1).f3),.int .i64 0]) ?_ 4 _ rfl;(with_reducible repeat (first|refine qb ?_ _|refine qe ?_|refine qc ?_ _));refine blk_put (cs:=#[.int .i64 ((rd_T36 l0_1 x13_1).f0),.int .i64 ((rd_T36 l0_1 x13_1).f1),.int .i64 ((rd_T36 l0_1 x13_1).f2),.int .i64 0,.int .i64 0]) ?_ 3 _ rfl;(with_reducible repeat (first|refine qb ?_ _|refine qe ?_|refine qc ?_ _));refine blk_put (cs:=#[.int .i64 ((rd_T36 l0_1 x13_1).f0),.int .i64 ((rd_T36 l0_1 x13_1).f1),.int .i64 0,.int .i64 0,.int .i64 0]) ?_ 2 _ rfl;(with_reducible repeat (first|refine qb ?_ _|refine qe ?_|refine qc ?_ _));refine blk_put (cs:=#[.int .i64 ((rd_T36 l0_1 x13_1).f0),.int .i64 0,.int .i64 0,.int .i64 0,.int .i64 0]) ?_ 1 _ rfl;(with_reducible repeat (first|refine qb ?_ _|refine qe ?_|refine qc ?_ _));refine blk_put (cs:=#[.int .i64 0,.int .i64 0,.int .i64 0,.int .i64 0,.int .i64 0]) ?_ 0 _ rfl;(with_reducible repeat (first|refine qb ?_ _|refine qe ?_|refine qc ?_ _));exact BK195.out⟩,⟨by repeat (first|(with_reducible first|exact HB.out|apply qf|apply qa|apply qd|refine qg ?_ GE192.out|refine qg ?_ GE195.out)|exact HB.out)⟩⟩
                      · replace c22:=Bool.eq_false_iff.mpr c22
                        subst c22
                        have H1 : (impl_GraphOk.j1 k1 x13_1 l0_1 (l0_1.length : Int) x13_1 true a0_0 l0_1 ((rd_T36 l0_1 x13_1).f0) ((rd_T36 l0_1 x13_1).f1) ((rd_T36 l0_1 x13_1).f2) ((rd_T36 l0_1 x13_1).f3) ((rd_T36 l0_1 x13_1).f4)) = some r:=by rw [if_neg (show ¬ (false = true) by decide)] at H;exact H
                        clear H
                        have H:=H1
                        clear H1
                        have H':=qn.mk H
                        clear H
                        have hnb32:=NB195_192.out
                        have hnc32:=NB192_195.out
                        have hcz33_0 : w10.cell? ⟨gb195,0,none⟩ = some (.int .i64 0):=(qh BK195.out 0).trans rfl
                        have hcz33_1 : w10.cell? ⟨gb195,1,none⟩ = some (.int .i64 0):=(qh BK195.out 1).trans rfl
                        have hcz33_2 : w10.cell? ⟨gb195,2,none⟩ = some (.int .i64 0):=(qh BK195.out 2).trans rfl
                        have hcz33_3 : w10.cell? ⟨gb195,3,none⟩ = some (.int .i64 0):=(qh BK195.out 3).trans rfl
                        have hcz33_4 : w10.cell? ⟨gb195,4,none⟩ = some (.int .i64 0):=(qh BK195.out 4).trans rfl
                        have hfz33_0:=qi BK195.out 0
                        have hfz33_1:=qi BK195.out 1
                        have hfz33_2:=qi BK195.out 2
                        have hfz33_3:=qi BK195.out 3
                        have hfz33_4:=qi BK195.out 4
                        have hcz34_0 : w10.cell? ⟨gb192,0,none⟩ = some (.int .i64 a0_0):=(qh BK192.out 0).trans rfl
                        have hcz34_1 : w10.cell? ⟨gb192,1,none⟩ = some (.slice (some ad194) l0_1.length c0_1):=(qh BK192.out 1).trans rfl
                        have hfz34_0:=qi BK192.out 0
                        have hfz34_1:=qi BK192.out 1
                        go_wp2_with (first|(go_at_call 59;(with_reducible refine (impl_in.calls ((rd_T36 l0_1 x13_1).f0) 0 (wrap64 (a0_0 - 1)) true _ A13.out).mono ?_);rintro e w' ⟨rfl,⟨nd,rfl⟩⟩;(try first|exact ⟨rfl,_,World.drewN_drewN _ _ _⟩|exact ⟨rfl,_,Eq.trans (World.drewN_drewN _ _ _) (congrArg (World.drewN _) (Nat.add_assoc _ _ _))⟩))|(go_at_call 59;(with_reducible refine (impl_in.calls ((rd_T36 l0_1 x13_1).f1) 0 (wrap64 (a0_0 - 1)) true _ A15.out).mono ?_);rintro e w' ⟨rfl,⟨nd,rfl⟩⟩;(try first|exact ⟨rfl,_,World.drewN_drewN _ _ _⟩|exact ⟨rfl,_,Eq.trans (World.drewN_drewN _ _ _) (congrArg (World.drewN _) (Nat.add_assoc _ _ _))⟩))|(go_at_call 59;(with_reducible refine (impl_in.calls ((rd_T36 l0_1 x13_1).f2) 0 50 false _ A21.out).mono ?_);rintro e w' ⟨rfl,⟨nd,rfl⟩⟩;(try first|exact ⟨rfl,_,World.drewN_drewN _ _ _⟩|exact ⟨rfl,_,Eq.trans (World.drewN_drewN _ _ _) (congrArg (World.drewN _) (Nat.add_assoc _ _ _))⟩)))
                        repeat (go_quiet (first|(go_at_call 59;(with_reducible refine (impl_in.calls ((rd_T36 l0_1 x13_1).f0) 0 (wrap64 (a0_0 - 1)) true _ A13.out).mono ?_);rintro e w' ⟨rfl,⟨nd,rfl⟩⟩;(try first|exact ⟨rfl,_,World.drewN_drewN _ _ _⟩|exact ⟨rfl,_,Eq.trans (World.drewN_drewN _ _ _) (congrArg (World.drewN _) (Nat.add_assoc _ _ _))⟩))|(go_at_call 59;(with_reducible refine (impl_in.calls ((rd_T36 l0_1 x13_1).f1) 0 (wrap64 (a0_0 - 1)) true _ A15.out).mono ?_);rintro e w' ⟨rfl,⟨nd,rfl⟩⟩;(try first|exact ⟨rfl,_,World.drewN_drewN _ _ _⟩|exact ⟨rfl,_,Eq.trans (World.drewN_drewN _ _ _) (congrArg (World.drewN _) (Nat.add_assoc _ _ _))⟩))|(go_at_call 59;(with_reducible refine (impl_in.calls ((rd_T36 l0_1 x13_1).f2) 0 50 false _ A21.out).mono ?_);rintro e w' ⟨rfl,⟨nd,rfl⟩⟩;(try first|exact ⟨rfl,_,World.drewN_drewN _ _ _⟩|exact ⟨rfl,_,Eq.trans (World.drewN_drewN _ _ _) (congrArg (World.drewN _) (Nat.add_assoc _ _ _))⟩)));try go_wp2_with (first|(go_at_call 59;(with_reducible refine (impl_in.calls ((rd_T36 l0_1 x13_1).f0) 0 (wrap64 (a0_0 - 1)) true _ A13.out).mono ?_);rintro e w' ⟨rfl,⟨nd,rfl⟩⟩;(try first|exact ⟨rfl,_,World.drewN_drewN _ _ _⟩|exact ⟨rfl,_,Eq.trans (World.drewN_drewN _ _ _) (congrArg (World.drewN _) (Nat.add_assoc _ _ _))⟩))|(go_at_call 59;(with_reducible refine (impl_in.calls ((rd_T36 l0_1 x13_1).f1) 0 (wrap64 (a0_0 - 1)) true _ A15.out).mono ?_);rintro e w' ⟨rfl,⟨nd,rfl⟩⟩;(try first|exact ⟨rfl,_,World.drewN_drewN _ _ _⟩|exact ⟨rfl,_,Eq.trans (World.drewN_drewN _ _ _) (congrArg (World.drewN _) (Nat.add_assoc _ _ _))⟩))|(go_at_call 59;(with_reducible refine (impl_in.calls ((rd_T36 l0_1 x13_1).f2) 0 50 false _ A21.out).mono ?_);rintro e w' ⟨rfl,⟨nd,rfl⟩⟩;(try first|exact ⟨rfl,_,World.drewN_drewN _ _ _⟩|exact ⟨rfl,_,Eq.trans (World.drewN_drewN _ _ _) (congrArg (World.drewN _) (Nat.add_assoc _ _ _))⟩))))
                        go_meet
                        case rel=>exact ⟨_,(true),(by first|rfl|(simp;done)|(simp [*];done)),H',⟨by have:=HK1.out;first|omega|exact Nat.le_refl _⟩,⟨by (with_reducible repeat (first|refine qb ?_ _|refine qe ?_|refine qc ?_ _));refine blk_far ?_ NB192_195.out _;(with_reducible repeat (first|refine qb ?_ _|refine qe ?_|refine qc ?_ _));refine blk_far ?_ NB192_195.out _;(with_reducible repeat (first|refine qb ?_ _|refine qe ?_|refine qc ?_ _));refine blk_far ?_ NB192_195.out _;(with_reducible repeat (first|refine qb ?_ _|refine qe ?_|refine qc ?_ _));refine blk_far ?_ NB192_195.out _;(with_reducible repeat (first|refine qb ?_ _|refine qe ?_|refine qc ?_ _));refine blk_far ?_ NB192_195.out _;(with_reducible repeat (first|refine qb ?_ _|refine qe ?_|refine qc ?_ _));exact BK192.out⟩,⟨by (with_reducible repeat (first|refine qb ?_ _|refine qe ?_|refine qc ?_ _));refine blk_put (cs:=#[.int .i64 ((rd_T36 l0_1 x13_1).f0),.int .i64 ((rd_T36 l0_1 x13_1).f1),.int .i64 ((rd_T36 l0_1 x13_1).f2),.int .i64 ((rd_T36 l0_1 x13_1).f3),.int .i64 0]) ?_ 4 _ rfl;(with_reducible repeat (first|refine qb ?_ _|refine qe ?_|refine qc ?_ _));refine blk_put (cs:=#[.int .i64 ((rd_T36 l0_1 x13_1).f0),.int .i64 ((rd_T36 l0_1 x13_1).f1),.int .i64 ((rd_T36 l0_1 x13_1).f2),.int .i64 0,.int .i64 0]) ?_ 3 _ rfl;(with_reducible repeat (first|refine qb ?_ _|refine qe ?_|refine qc ?_ _));refine blk_put (cs:=#[.int .i64 ((rd_T36 l0_1 x13_1).f0),.int .i64 ((rd_T36 l0_1 x13_1).f1),.int .i64 0,.int .i64 0,.int .i64 0]) ?_ 2 _ rfl;(with_reducible repeat (first|refine qb ?_ _|refine qe ?_|refine qc ?_ _));refine blk_put (cs:=#[.int .i64 ((rd_T36 l0_1 x13_1).f0),.int .i64 0,.int .i64 0,.int .i64 0,.int .i64 0]) ?_ 1 _ rfl;(with_reducible repeat (first|refine qb ?_ _|refine qe ?_|refine qc ?_ _));refine blk_put (cs:=#[.int .i64 0,.int .i64 0,.int .i64 0,.int .i64 0,.int .i64 0]) ?_ 0 _ rfl;(with_reducible repeat (first|refine qb ?_ _|refine qe ?_|refine qc ?_ _));exact BK195.out⟩,⟨by repeat (first|(with_reducible first|exact HB.out|apply qf|apply qa|apply qd|refine qg ?_ GE192.out|refine qg ?_ GE195.out)|exact HB.out)⟩⟩
                  · replace c16:=Bool.eq_false_iff.mpr c16
                    subst c16
                    have H1 : (impl_GraphOk.j1 k1 x13_1 l0_1 (l0_1.length : Int) x13_1 true a0_0 l0_1 ((rd_T36 l0_1 x13_1).f0) ((rd_T36 l0_1 x13_1).f1) ((rd_T36 l0_1 x13_1).f2) ((rd_T36 l0_1 x13_1).f3) ((rd_T36 l0_1 x13_1).f4)) = some r:=by rw [if_neg (show ¬ (false = true) by decide)] at H;exact H
                    clear H
                    have H:=H1
                    clear H1
                    have H':=qn.mk H
                    clear H
                    have hnb35:=NB195_192.out
                    have hnc35:=NB192_195.out
                    have hcz36_0 : w10.cell? ⟨gb195,0,none⟩ = some (.int .i64 0):=(qh BK195.out 0).trans rfl
                    have hcz36_1 : w10.cell? ⟨gb195,1,none⟩ = some (.int .i64 0):=(qh BK195.out 1).trans rfl
                    have hcz36_2 : w10.cell? ⟨gb195,2,none⟩ = some (.int .i64 0):=(qh BK195.out 2).trans rfl
                    have hcz36_3 : w10.cell? ⟨gb195,3,none⟩ = some (.int .i64 0):=(qh BK195.out 3).trans rfl
                    have hcz36_4 : w10.cell? ⟨gb195,4,none⟩ = some (.int .i64 0):=(qh BK195.out 4).trans rfl
                    have hfz36_0:=qi BK195.out 0
                    have hfz36_1:=qi BK195.out 1
                    have hfz36_2:=qi BK195.out 2
                    have hfz36_3:=qi BK195.out 3
                    have hfz36_4:=qi BK195.out 4
                    have hcz37_0 : w10.cell? ⟨gb192,0,none⟩ = some (.int .i64 a0_0):=(qh BK192.out 0).trans rfl
                    have hcz37_1 : w10.cell? ⟨gb192,1,none⟩ = some (.slice (some ad194) l0_1.length c0_1):=(qh BK192.out 1).trans rfl
                    have hfz37_0:=qi BK192.out 0
                    have hfz37_1:=qi BK192.out 1
                    go_wp2_with (first|(go_at_call 59;(with_reducible refine (impl_in.calls ((rd_T36 l0_1 x13_1).f0) 0 (wrap64 (a0_0 - 1)) true _ A13.out).mono ?_);rintro e w' ⟨rfl,⟨nd,rfl⟩⟩;(try first|exact ⟨rfl,_,World.drewN_drewN _ _ _⟩|exact ⟨rfl,_,Eq.trans (World.drewN_drewN _ _ _) (congrArg (World.drewN _) (Nat.add_assoc _ _ _))⟩))|(go_at_call 59;(with_reducible refine (impl_in.calls ((rd_T36 l0_1 x13_1).f1) 0 (wrap64 (a0_0 - 1)) false _ A15.out).mono ?_);rintro e w' ⟨rfl,⟨nd,rfl⟩⟩;(try first|exact ⟨rfl,_,World.drewN_drewN _ _ _⟩|exact ⟨rfl,_,Eq.trans (World.drewN_drewN _ _ _) (congrArg (World.drewN _) (Nat.add_assoc _ _ _))⟩)))
                    repeat (go_quiet (first|(go_at_call 59;(with_reducible refine (impl_in.calls ((rd_T36 l0_1 x13_1).f0) 0 (wrap64 (a0_0 - 1)) true _ A13.out).mono ?_);rintro e w' ⟨rfl,⟨nd,rfl⟩⟩;(try first|exact ⟨rfl,_,World.drewN_drewN _ _ _⟩|exact ⟨rfl,_,Eq.trans (World.drewN_drewN _ _ _) (congrArg (World.drewN _) (Nat.add_assoc _ _ _))⟩))|(go_at_call 59;(with_reducible refine (impl_in.calls ((rd_T36 l0_1 x13_1).f1) 0 (wrap64 (a0_0 - 1)) false _ A15.out).mono ?_);rintro e w' ⟨rfl,⟨nd,rfl⟩⟩;(try first|exact ⟨rfl,_,World.drewN_drewN _ _ _⟩|exact ⟨rfl,_,Eq.trans (World.drewN_drewN _ _ _) (congrArg (World.drewN _) (Nat.add_assoc _ _ _))⟩)));try go_wp2_with (first|(go_at_call 59;(with_reducible refine (impl_in.calls ((rd_T36 l0_1 x13_1).f0) 0 (wrap64 (a0_0 - 1)) true _ A13.out).mono ?_);rintro e w' ⟨rfl,⟨nd,rfl⟩⟩;(try first|exact ⟨rfl,_,World.drewN_drewN _ _ _⟩|exact ⟨rfl,_,Eq.trans (World.drewN_drewN _ _ _) (congrArg (World.drewN _) (Nat.add_assoc _ _ _))⟩))|(go_at_call 59;(with_reducible refine (impl_in.calls ((rd_T36 l0_1 x13_1).f1) 0 (wrap64 (a0_0 - 1)) false _ A15.out).mono ?_);rintro e w' ⟨rfl,⟨nd,rfl⟩⟩;(try first|exact ⟨rfl,_,World.drewN_drewN _ _ _⟩|exact ⟨rfl,_,Eq.trans (World.drewN_drewN _ _ _) (congrArg (World.drewN _) (Nat.add_assoc _ _ _))⟩))))
                    go_meet
                    case rel=>exact ⟨_,(true),(by first|rfl|(simp;done)|(simp [*];done)),H',⟨by have:=HK1.out;first|omega|exact Nat.le_refl _⟩,⟨by (with_reducible repeat (first|refine qb ?_ _|refine qe ?_|refine qc ?_ _));refine blk_far ?_ NB192_195.out _;(with_reducible repeat (first|refine qb ?_ _|refine qe ?_|refine qc ?_ _));refine blk_far ?_ NB192_195.out _;(with_reducible repeat (first|refine qb ?_ _|refine qe ?_|refine qc ?_ _));refine blk_far ?_ NB192_195.out _;(with_reducible repeat (first|refine qb ?_ _|refine qe ?_|refine qc ?_ _));refine blk_far ?_ NB192_195.out _;(with_reducible repeat (first|refine qb ?_ _|refine qe ?_|refine qc ?_ _));refine blk_far ?_ NB192_195.out _;(with_reducible repeat (first|refine qb ?_ _|refine qe ?_|refine qc ?_ _));exact BK192.out⟩,⟨by (with_reducible repeat (first|refine qb ?_ _|refine qe ?_|refine qc ?_ _));refine blk_put (cs:=#[.int .i64 ((rd_T36 l0_1 x13_1).f0),.int .i64 ((rd_T36 l0_1 x13_1).f1),.int .i64 ((rd_T36 l0_1 x13_1).f2),.int .i64 ((rd_T36 l0_1 x13_1).f3),.int .i64 0]) ?_ 4 _ rfl;(with_reducible repeat (first|refine qb ?_ _|refine qe ?_|refine qc ?_ _));refine blk_put (cs:=#[.int .i64 ((rd_T36 l0_1 x13_1).f0),.int .i64 ((rd_T36 l0_1 x13_1).f1),.int .i64 ((rd_T36 l0_1 x13_1).f2),.int .i64 0,.int .i64 0]) ?_ 3 _ rfl;(with_reducible repeat (first|refine qb ?_ _|refine qe ?_|refine qc ?_ _));refine blk_put (cs:=#[.int .i64 ((rd_T36 l0_1 x13_1).f0),.int .i64 ((rd_T36 l0_1 x13_1).f1),.int .i64 0,.int .i64 0,.int .i64 0]) ?_ 2 _ rfl;(with_reducible repeat (first|refine qb ?_ _|refine qe ?_|refine qc ?_ _));refine blk_put (cs:=#[.int .i64 ((rd_T36 l0_1 x13_1).f0),.int .i64 0,.int .i64 0,.int .i64 0,.int .i64 0]) ?_ 1 _ rfl;(with_reducible repeat (first|refine qb ?_ _|refine qe ?_|refine qc ?_ _));refine blk_put (cs:=#[.int .i64 0,.int .i64 0,.int .i64 0,.int .i64 0,.int .i64 0]) ?_ 0 _ rfl;(with_reducible repeat (first|refine qb ?_ _|refine qe ?_|refine qc ?_ _));exact BK195.out⟩,⟨by repeat (first|(with_reducible first|exact HB.out|apply qf|apply qa|apply qd|refine qg ?_ GE192.out|refine qg ?_ GE195.out)|exact HB.out)⟩⟩
                · replace c14:=Bool.eq_false_iff.mpr c14
                  subst c14
                  have H1 : (impl_GraphOk.j1 k1 x13_1 l0_1 (l0_1.length : Int) x13_1 true a0_0 l0_1 ((rd_T36 l0_1 x13_1).f0) ((rd_T36 l0_1 x13_1).f1) ((rd_T36 l0_1 x13_1).f2) ((rd_T36 l0_1 x13_1).f3) ((rd_T36 l0_1 x13_1).f4)) = some r:=by rw [if_neg (show ¬ (false = true) by decide)] at H;exact H
                  clear H
                  have H:=H1
                  clear H1
                  have H':=qn.mk H
                  clear H
                  have hnb38:=NB195_192.out
                  have hnc38:=NB192_195.out
                  have hcz39_0 : w10.cell? ⟨gb195,0,none⟩ = some (.int .i64 0):=(qh BK195.out 0).trans rfl
                  have hcz39_1 : w10.cell? ⟨gb195,1,none⟩ = some (.int .i64 0):=(qh BK195.out 1).trans rfl
                  have hcz39_2 : w10.cell? ⟨gb195,2,none⟩ = some (.int .i64 0):=(qh BK195.out 2).trans rfl
                  have hcz39_3 : w10.cell? ⟨gb195,3,none⟩ = some (.int .i64 0):=(qh BK195.out 3).trans rfl
                  have hcz39_4 : w10.cell? ⟨gb195,4,none⟩ = some (.int .i64 0):=(qh BK195.out 4).trans rfl
                  have hfz39_0:=qi BK195.out 0
                  have hfz39_1:=qi BK195.out 1
                  have hfz39_2:=qi BK195.out 2
                  have hfz39_3:=qi BK195.out 3
                  have hfz39_4:=qi BK195.out 4
                  have hcz40_0 : w10.cell? ⟨gb192,0,none⟩ = some (.int .i64 a0_0):=(qh BK192.out 0).trans rfl
                  have hcz40_1 : w10.cell? ⟨gb192,1,none⟩ = some (.slice (some ad194) l0_1.length c0_1):=(qh BK192.out 1).trans rfl
                  have hfz40_0:=qi BK192.out 0
                  have hfz40_1:=qi BK192.out 1
                  go_wp2_with (first|(go_at_call 59;(with_reducible refine (impl_in.calls ((rd_T36 l0_1 x13_1).f0) 0 (wrap64 (a0_0 - 1)) false _ A13.out).mono ?_);rintro e w' ⟨rfl,⟨nd,rfl⟩⟩;(try first|exact ⟨rfl,_,World.drewN_drewN _ _ _⟩|exact ⟨rfl,_,Eq.trans (World.drewN_drewN _ _ _) (congrArg (World.drewN _) (Nat.add_assoc _ _ _))⟩)))
                  repeat (go_quiet (first|(go_at_call 59;(with_reducible refine (impl_in.calls ((rd_T36 l0_1 x13_1).f0) 0 (wrap64 (a0_0 - 1)) false _ A13.out).mono ?_);rintro e w' ⟨rfl,⟨nd,rfl⟩⟩;(try first|exact ⟨rfl,_,World.drewN_drewN _ _ _⟩|exact ⟨rfl,_,Eq.trans (World.drewN_drewN _ _ _) (congrArg (World.drewN _) (Nat.add_assoc _ _ _))⟩)));try go_wp2_with (first|(go_at_call 59;(with_reducible refine (impl_in.calls ((rd_T36 l0_1 x13_1).f0) 0 (wrap64 (a0_0 - 1)) false _ A13.out).mono ?_);rintro e w' ⟨rfl,⟨nd,rfl⟩⟩;(try first|exact ⟨rfl,_,World.drewN_drewN _ _ _⟩|exact ⟨rfl,_,Eq.trans (World.drewN_drewN _ _ _) (congrArg (World.drewN _) (Nat.add_assoc _ _ _))⟩))))
                  go_meet
                  case rel=>exact ⟨_,(true),(by first|rfl|(simp;done)|(simp [*];done)),H',⟨by have:=HK1.out;first|omega|exact Nat.le_refl _⟩,⟨by (with_reducible repeat (first|refine qb ?_ _|refine qe ?_|refine qc ?_ _));refine blk_far ?_ NB192_195.out _;(with_reducible repeat (first|refine qb ?_ _|refine qe ?_|refine qc ?_ _));refine blk_far ?_ NB192_195.out _;(with_reducible repeat (first|refine qb ?_ _|refine qe ?_|refine qc ?_ _));refine blk_far ?_ NB192_195.out _;(with_reducible repeat (first|refine qb ?_ _|refine qe ?_|refine qc ?_ _));refine blk_far ?_ NB192_195.out _;(with_reducible repeat (first|refine qb ?_ _|refine qe ?_|refine qc ?_ _));refine blk_far ?_ NB192_195.out _;(with_reducible repeat (first|refine qb ?_ _|refine qe ?_|refine qc ?_ _));exact BK192.out⟩,⟨by (with_reducible repeat (first|refine qb ?_ _|refine qe ?_|refine qc ?_ _));refine blk_put (cs:=#[.int .i64 ((rd_T36 l0_1 x13_1).f0),.int .i64 ((rd_T36 l0_1 x13_1).f1),.int .i64 ((rd_T36 l0_1 x13_1).f2),.int .i64 ((rd_T36 l0_1 x13_1).f3),.int .i64 0]) ?_ 4 _ rfl;(with_reducible repeat (first|refine qb ?_ _|refine qe ?_|refine qc ?_ _));refine blk_put (cs:=#[.int .i64 ((rd_T36 l0_1 x13_1).f0),.int .i64 ((rd_T36 l0_1 x13_1).f1),.int .i64 ((rd_T36 l0_1 x13_1).f2),.int .i64 0,.int .i64 0]) ?_ 3 _ rfl;(with_reducible repeat (first|refine qb ?_ _|refine qe ?_|refine qc ?_ _));refine blk_put (cs:=#[.int .i64 ((rd_T36 l0_1 x13_1).f0),.int .i64 ((rd_T36 l0_1 x13_1).f1),.int .i64 0,.int .i64 0,.int .i64 0]) ?_ 2 _ rfl;(with_reducible repeat (first|refine qb ?_ _|refine qe ?_|refine qc ?_ _));refine blk_put (cs:=#[.int .i64 ((rd_T36 l0_1 x13_1).f0),.int .i64 0,.int .i64 0,.int .i64 0,.int .i64 0]) ?_ 1 _ rfl;(with_reducible repeat (first|refine qb ?_ _|refine qe ?_|refine qc ?_ _));refine blk_put (cs:=#[.int .i64 0,.int .i64 0,.int .i64 0,.int .i64 0,.int .i64 0]) ?_ 0 _ rfl;(with_reducible repeat (first|refine qb ?_ _|refine qe ?_|refine qc ?_ _));exact BK195.out⟩,⟨by repeat (first|(with_reducible first|exact HB.out|apply qf|apply qa|apply qd|refine qg ?_ GE192.out|refine qg ?_ GE195.out)|exact HB.out)⟩⟩
              case rest =>
                clear HC9
                try clear c1
                try clear p1
                try clear q1
                try clear hx1
                try clear c2
                try clear p2
                try clear c3
                try clear c6
                try clear c6b0
                try clear p6
                try clear c7
                try clear c7b0
                try clear c8
                try clear c8b0
                try clear c11
                try clear c14
                try clear c16
                try clear c17
                try clear c17b0
                try clear c18
                try clear p19
                try clear q19
                try clear hx19
                try clear c22
                try clear c24
                try clear c26
                try clear c29
                try clear c32
                try clear c35
                try clear c38
                try clear hcz12_0
                try clear hcz12_1
                try clear hcz12_2
                try clear hcz12_3
                try clear hcz12_4
                try clear hcz19_0
                try clear hcz19_1
                try clear hcz19_2
                try clear hcz19_3
                try clear hcz19_4
                try clear hcz20_0
                try clear hcz20_1
                try clear hcz27_0
                try clear hcz27_1
                try clear hcz27_2
                try clear hcz27_3
                try clear hcz27_4
                try clear hcz28_0
                try clear hcz28_1
                try clear hcz30_0
                try clear hcz30_1
                try clear hcz30_2
                try clear hcz30_3
                try clear hcz30_4
                try clear hcz31_0
                try clear hcz31_1
                try clear hcz33_0
                try clear hcz33_1
                try clear hcz33_2
                try clear hcz33_3
                try clear hcz33_4
                try clear hcz34_0
                try clear hcz34_1
                try clear hcz36_0
                try clear hcz36_1
                try clear hcz36_2
                try clear hcz36_3
                try clear hcz36_4
                try clear hcz37_0
                try clear hcz37_1
                try clear hcz39_0
                try clear hcz39_1
                try clear hcz39_2
                try clear hcz39_3
                try clear hcz39_4
                try clear hcz40_0
                try clear hcz40_1
                try clear hcz5_0
                try clear hcz5_1
                try clear hfz12_0
                try clear hfz12_1
                try clear hfz12_2
                try clear hfz12_3
                try clear hfz12_4
                try clear hfz19_0
                try clear hfz19_1
                try clear hfz19_2
                try clear hfz19_3
                try clear hfz19_4
                try clear hfz20_0
                try clear hfz20_1
                try clear hfz27_0
                try clear hfz27_1
                try clear hfz27_2
                try clear hfz27_3
                try clear hfz27_4
                try clear hfz28_0
                try clear hfz28_1
                try clear hfz30_0
                try clear hfz30_1
                try clear hfz30_2
                try clear hfz30_3
                try clear hfz30_4
                try clear hfz31_0
                try clear hfz31_1
                try clear hfz33_0
                try clear hfz33_1
                try clear hfz33_2
                try clear hfz33_3
                try clear hfz33_4
                try clear hfz34_0
                try clear hfz34_1
                try clear hfz36_0
                try clear hfz36_1
                try clear hfz36_2
                try clear hfz36_3
                try clear hfz36_4
                try clear hfz37_0
                try clear hfz37_1
                try clear hfz39_0
                try clear hfz39_1
                try clear hfz39_2
                try clear hfz39_3
                try clear hfz39_4
                try clear hfz40_0
                try clear hfz40_1
                try clear hfz5_0
                try clear hfz5_1
                try clear hx194_0
                try clear hx194_1
                try clear hx194_2
                try clear hx194_3
                try clear hx194_4
                try clear p194
                try clear p2
                try clear q194
                obtain ⟨kq,x58_8,rfl,HA,HJ8,BK192,BK195,HB⟩:=hcut
                cases kq with
                | zero=>exact absurd HA.out (by simp [impl_GraphOk.j1])
                | succ kj8 =>
                  have H:=HA.out
                  clear HA
                  simp only [impl_GraphOk.j1] at H
                  by_cases c41 : x58_8 = true
                  · subst c41
                    have H1 : (some false) = some r:=by rw [if_pos rfl] at H;exact H
                    clear H
                    have H:=H1
                    clear H1
                    obtain rfl:=Option.some.inj H
                    go_wp2
                    repeat (go_quiet (fail);try go_wp2)
                    go_ret
                    exact ⟨by first|rfl|(simp [errW_none,errW_some] <;> rfl)|(simp [*,errW_none,errW_some] <;> rfl),by repeat (first|(with_reducible first|exact HB.out|apply qf|apply qa|apply qd|refine qg ?_ GE192.out|refine qg ?_ GE195.out)|exact HB.out)⟩
                  · replace c41:=Bool.eq_false_iff.mpr c41
                    subst c41
                    have H1 : (if x13_1 > 0 then (if 0 ≤ (wrap64 (x13_1 - 1)) then (if (wrap64 (x13_1 - 1)) < (l0_1.length : Int) then (if ((rd_T36 l0_1 (wrap64 (x13_1 - 1))).f0) > ((rd_T36 l0_1 x13_1).f0) then (some false) else (if ((rd_T36 l0_1 (wrap64 (x13_1 - 1))).f0) = ((rd_T36 l0_1 x13_1).f0) then (if ((rd_T36 l0_1 (wrap64 (x13_1 - 1))).f1) ≥ ((rd_T36 l0_1 x13_1).f1) then (some false) else (impl_GraphOk.l0 kj8 l0_1 (l0_1.length : Int) (wrap64 (x13_1 + 1)) a0_0 l0_1)) else (impl_GraphOk.l0 kj8 l0_1 (l0_1.length : Int) (wrap64 (x13_1 + 1)) a0_0 l0_1))) else (none)) else (none)) else (impl_GraphOk.l0 kj8 l0_1 (l0_1.length : Int) (wrap64 (x13_1 + 1)) a0_0 l0_1)) = some r:=by rw [if_neg (show ¬ (false = true) by decide)] at H;exact H
                    clear H
                    have H:=H1
                    clear H1
                    by_cases c42 : x13_1 > 0
                    · rw [if_pos c42] at H
                      have c42b0 : decide (0 < x13_1) = true:=decide_eq_true c42
                      clear c42
                      obtain ⟨ji43,hji43⟩ : ∃ j_ : Int,(wrap64 (x13_1 - 1)) = j_:=⟨_,rfl⟩
                      replace H : (if 0 ≤ (ji43) then (if (ji43) < (l0_1.length : Int) then (if ((rd_T36 l0_1 (ji43)).f0) > ((rd_T36 l0_1 x13_1).f0) then (some false) else (if ((rd_T36 l0_1 (ji43)).f0) = ((rd_T36 l0_1 x13_1).f0) then (if ((rd_T36 l0_1 (ji43)).f1) ≥ ((rd_T36 l0_1 x13_1).f1) then (some false) else (impl_GraphOk.l0 kj8 l0_1 (l0_1.length : Int) (wrap64 (x13_1 + 1)) a0_0 l0_1)) else (impl_GraphOk.l0 kj8 l0_1 (l0_1.length : Int) (wrap64 (x13_1 + 1)) a0_0 l0_1))) else (none)) else (none)) = some r:=by first|(rw [hji43] at H;exact H)|(simp only [hji43] at H ⊢;exact H)
                      have hji43w : (IntKind.i64.wrap (x13_1 - 1)) = ji43:=(i64_w _).trans hji43
                      by_cases c44 : 0 ≤ (ji43)
                      · rw [if_pos c44] at H
                        have c44b0 : decide (0 ≤ (ji43)) = true:=decide_eq_true c44
                        clear c44
                        by_cases c45 : (ji43) < (l0_1.length : Int)
                        · rw [if_pos c45] at H
                          have c45b0 : decide ((ji43) < (l0_1.length : Int)) = true:=decide_eq_true c45
                          clear c45
                          by_cases c46 : ((rd_T36 l0_1 (ji43)).f0) > ((rd_T36 l0_1 x13_1).f0)
                          · rw [if_pos c46] at H
                            have c46b0 : decide (((rd_T36 l0_1 x13_1).f0) < ((rd_T36 l0_1 (ji43)).f0)) = true:=decide_eq_true c46
                            clear c46
                            obtain rfl:=Option.some.inj H
                            have hnb47:=NB192_195.out
                            have hnc47:=NB195_192.out
                            have hcz48_0 : wc.cell? ⟨gb192,0,none⟩ = some (.int .i64 a0_0):=(qh BK192.out 0).trans rfl
                            have hcz48_1 : wc.cell? ⟨gb192,1,none⟩ = some (.slice (some ad194) l0_1.length c0_1):=(qh BK192.out 1).trans rfl
                            have hfz48_0:=qi BK192.out 0
                            have hfz48_1:=qi BK192.out 1
                            have p201 : 0 ≤ ((ji43) : Int):=of_decide_eq_true (by first|(with_reducible assumption)|assumption)
                            have q201 : (ji43) < (l0_1.length : Int):=of_decide_eq_true (by first|(with_reducible assumption)|assumption)
                            obtain ⟨ad201,e201,hx201_0,hx201_1,hx201_2,hx201_3,hx201_4⟩:=at_T36 HR0_1.out (ji43) p201 q201
                            obtain rfl : ad194 = ad201:=(by injection e201)
                            replace hx201_0:=cb_ HB hx201_0
                            replace hx201_1:=cb_ HB hx201_1
                            replace hx201_2:=cb_ HB hx201_2
                            replace hx201_3:=cb_ HB hx201_3
                            replace hx201_4:=cb_ HB hx201_4
                            replace p201:=eq_true p201
                            replace q201:=eq_true q201
                            have hcz49_0 : wc.cell? ⟨gb195,0,none⟩ = some (.int .i64 ((rd_T36 l0_1 x13_1).f0)):=(qh BK195.out 0).trans rfl
                            have hcz49_1 : wc.cell? ⟨gb195,1,none⟩ = some (.int .i64 ((rd_T36 l0_1 x13_1).f1)):=(qh BK195.out 1).trans rfl
                            have hcz49_2 : wc.cell? ⟨gb195,2,none⟩ = some (.int .i64 ((rd_T36 l0_1 x13_1).f2)):=(qh BK195.out 2).trans rfl
                            have hcz49_3 : wc.cell? ⟨gb195,3,none⟩ = some (.int .i64 ((rd_T36 l0_1 x13_1).f3)):=(qh BK195.out 3).trans rfl
                            have hcz49_4 : wc.cell? ⟨gb195,4,none⟩ = some (.int .i64 ((rd_T36 l0_1 x13_1).f4)):=(qh BK195.out 4).trans rfl
                            have hfz49_0:=qi BK195.out 0
                            have hfz49_1:=qi BK195.out 1
                            have hfz49_2:=qi BK195.out 2
                            have hfz49_3:=qi BK195.out 3
                            have hfz49_4:=qi BK195.out 4
                            go_wp2
                            repeat (go_quiet (fail);try go_wp2)
                            go_ret
                            exact ⟨by first|rfl|(simp [errW_none,errW_some] <;> rfl)|(simp only [← hji43];first|rfl|(simp [errW_none,errW_some] <;> rfl))|(simp [*,errW_none,errW_some] <;> rfl),by repeat (first|(with_reducible first|exact HB.out|apply qf|apply qa|apply qd|refine qg ?_ GE192.out|refine qg ?_ GE195.out)|exact HB.out)⟩
                          · rw [if_neg c46] at H
                            have c46b0 : decide (((rd_T36 l0_1 x13_1).f0) < ((rd_T36 l0_1 (ji43)).f0)) = false:=decide_eq_false c46
                            clear c46
                            by_cases c50 : ((rd_T36 l0_1 (ji43)).f0) = ((rd_T36 l0_1 x13_1).f0)
                            · rw [if_pos c50] at H
                              have c50b0 : (((rd_T36 l0_1 (ji43)).f0) == ((rd_T36 l0_1 x13_1).f0)) = true:=beq_iff_eq.mpr c50
                              have c50b1 : (((rd_T36 l0_1 (ji43)).f0) != ((rd_T36 l0_1 x13_1).f0)) = false:=bne_eq_false_iff_eq.mpr c50
                              clear c50
                              by_cases c51 : ((rd_T36 l0_1 (ji43)).f1) ≥ ((rd_T36 l0_1 x13_1).f1)
                              · rw [if_pos c51] at H
                                have c51b0 : decide (((rd_T36 l0_1 x13_1).f1) ≤ ((rd_T36 l0_1 (ji43)).f1)) = true:=decide_eq_true c51
                                clear c51
                                obtain rfl:=Option.some.inj H
                                have hnb52:=NB192_195.out
                                have hnc52:=NB195_192.out
                                have hcz53_0 : wc.cell? ⟨gb192,0,none⟩ = some (.int .i64 a0_0):=(qh BK192.out 0).trans rfl
                                have hcz53_1 : wc.cell? ⟨gb192,1,none⟩ = some (.slice (some ad194) l0_1.length c0_1):=(qh BK192.out 1).trans rfl
                                have hfz53_0:=qi BK192.out 0
                                have hfz53_1:=qi BK192.out 1
                                have p201 : 0 ≤ ((ji43) : Int):=of_decide_eq_true (by first|(with_reducible assumption)|assumption)
                                have q201 : (ji43) < (l0_1.length : Int):=of_decide_eq_true (by first|(with_reducible assumption)|assumption)
                                obtain ⟨ad201,e201,hx201_0,hx201_1,hx201_2,hx201_3,hx201_4⟩:=at_T36 HR0_1.out (ji43) p201 q201
                                obtain rfl : ad194 = ad201:=(by injection e201)
                                replace hx201_0:=cb_ HB hx201_0
                                replace hx201_1:=cb_ HB hx201_1
                                replace hx201_2:=cb_ HB hx201_2
                                replace hx201_3:=cb_ HB hx201_3
                                replace hx201_4:=cb_ HB hx201_4
                                replace p201:=eq_true p201
                                replace q201:=eq_true q201
                                have hcz54_0 : wc.cell? ⟨gb195,0,none⟩ = some (.int .i64 ((rd_T36 l0_1 x13_1).f0)):=(qh BK195.out 0).trans rfl
                                have hcz54_1 : wc.cell? ⟨gb195,1,none⟩ = some (.int .i64 ((rd_T36 l0_1 x13_1).f1)):=(qh BK195.out 1).trans rfl
                                have hcz54_2 : wc.cell? ⟨gb195,2,none⟩ = some (.int .i64 ((rd_T36 l0_1 x13_1).f2)):=(qh BK195.out 2).trans rfl
                                have hcz54_3 : wc.cell? ⟨gb195,3,none⟩ = some (.int .i64 ((rd_T36 l0_1 x13_1).f3)):=(qh BK195.out 3).trans rfl
                                have hcz54_4 : wc.cell? ⟨gb195,4,none⟩ = some (.int .i64 ((rd_T36 l0_1 x13_1).f4)):=(qh BK195.out 4).trans rfl
                                have hfz54_0:=qi BK195.out 0
                                have hfz54_1:=qi BK195.out 1
                                have hfz54_2:=qi BK195.out 2
                                have hfz54_3:=qi BK195.out 3
                                have hfz54_4:=qi BK195.out 4
                                have p202 : 0 ≤ ((ji43) : Int):=of_decide_eq_true (by first|(with_reducible assumption)|assumption)
                                have q202 : (ji43) < (l0_1.length : Int):=of_decide_eq_true (by first|(with_reducible assumption)|assumption)
                                obtain ⟨ad202,e202,hx202_0,hx202_1,hx202_2,hx202_3,hx202_4⟩:=at_T36 HR0_1.out (ji43) p202 q202
                                obtain rfl : ad194 = ad202:=(by injection e202)
                                replace hx202_0:=cb_ HB hx202_0
                                replace hx202_1:=cb_ HB hx202_1
                                replace hx202_2:=cb_ HB hx202_2
                                replace hx202_3:=cb_ HB hx202_3
                                replace hx202_4:=cb_ HB hx202_4
                                replace p202:=eq_true p202
                                replace q202:=eq_true q202
                                have p203 : 0 ≤ ((ji43) : Int):=of_decide_eq_true (by first|(with_reducible assumption)|assumption)
                                have q203 : (ji43) < (l0_1.length : Int):=of_decide_eq_true (by first|(with_reducible assumption)|assumption)
                                obtain ⟨ad203,e203,hx203_0,hx203_1,hx203_2,hx203_3,hx203_4⟩:=at_T36 HR0_1.out (ji43) p203 q203
                                obtain rfl : ad194 = ad203:=(by injection e203)
                                replace hx203_0:=cb_ HB hx203_0
                                replace hx203_1:=cb_ HB hx203_1
                                replace hx203_2:=cb_ HB hx203_2
                                replace hx203_3:=cb_ HB hx203_3
                                replace hx203_4:=cb_ HB hx203_4
                                replace p203:=eq_true p203
                                replace q203:=eq_true q203
                                go_wp2
                                repeat (go_quiet (fail);try go_wp2)
                                go_ret
                                exact ⟨by first|rfl|(simp [errW_none,errW_some] <;> rfl)|(simp only [← hji43];first|rfl|(simp [errW_none,errW_some] <;> rfl))|(simp [*,errW_none,errW_some] <;> rfl),by repeat (first|(with_reducible first|exact HB.out|apply qf|apply qa|apply qd|refine qg ?_ GE192.out|refine qg ?_ GE195.out)|exact HB.out)⟩
                              · rw [if_neg c51] at H
                                have c51b0 : decide (((rd_T36 l0_1 x13_1).f1) ≤ ((rd_T36 l0_1 (ji43)).f1)) = false:=decide_eq_false c51
                                clear c51
                                have H':=qn.mk H
                                clear H
                                have hnb55:=NB192_195.out
                                have hnc55:=NB195_192.out
                                have hcz56_0 : wc.cell? ⟨gb192,0,none⟩ = some (.int .i64 a0_0):=(qh BK192.out 0).trans rfl
                                have hcz56_1 : wc.cell? ⟨gb192,1,none⟩ = some (.slice (some ad194) l0_1.length c0_1):=(qh BK192.out 1).trans rfl
                                have hfz56_0:=qi BK192.out 0
                                have hfz56_1:=qi BK192.out 1
                                have p201 : 0 ≤ ((ji43) : Int):=of_decide_eq_true (by first|(with_reducible assumption)|assumption)
                                have q201 : (ji43) < (l0_1.length : Int):=of_decide_eq_true (by first|(with_reducible assumption)|assumption)
                                obtain ⟨ad201,e201,hx201_0,hx201_1,hx201_2,hx201_3,hx201_4⟩:=at_T36 HR0_1.out (ji43) p201 q201
                                obtain rfl : ad194 = ad201:=(by injection e201)
                                replace hx201_0:=cb_ HB hx201_0
                                replace hx201_1:=cb_ HB hx201_1
                                replace hx201_2:=cb_ HB hx201_2
                                replace hx201_3:=cb_ HB hx201_3
                                replace hx201_4:=cb_ HB hx201_4
                                replace p201:=eq_true p201
                                replace q201:=eq_true q201
                                have hcz57_0 : wc.cell? ⟨gb195,0,none⟩ = some (.int .i64 ((rd_T36 l0_1 x13_1).f0)):=(qh BK195.out 0).trans rfl
                                have hcz57_1 : wc.cell? ⟨gb195,1,none⟩ = some (.int .i64 ((rd_T36 l0_1 x13_1).f1)):=(qh BK195.out 1).trans rfl
                                have hcz57_2 : wc.cell? ⟨gb195,2,none⟩ = some (.int .i64 ((rd_T36 l0_1 x13_1).f2)):=(qh BK195.out 2).trans rfl
                                have hcz57_3 : wc.cell? ⟨gb195,3,none⟩ = some (.int .i64 ((rd_T36 l0_1 x13_1).f3)):=(qh BK195.out 3).trans rfl
                                have hcz57_4 : wc.cell? ⟨gb195,4,none⟩ = some (.int .i64 ((rd_T36 l0_1 x13_1).f4)):=(qh BK195.out 4).trans rfl
                                have hfz57_0:=qi BK195.out 0
                                have hfz57_1:=qi BK195.out 1
                                have hfz57_2:=qi BK195.out 2
                                have hfz57_3:=qi BK195.out 3
                                have hfz57_4:=qi BK195.out 4
                                have p202 : 0 ≤ ((ji43) : Int):=of_decide_eq_true (by first|(with_reducible assumption)|assumption)
                                have q202 : (ji43) < (l0_1.length : Int):=of_decide_eq_true (by first|(with_reducible assumption)|assumption)
                                obtain ⟨ad202,e202,hx202_0,hx202_1,hx202_2,hx202_3,hx202_4⟩:=at_T36 HR0_1.out (ji43) p202 q202
                                obtain rfl : ad194 = ad202:=(by injection e202)
                                replace hx202_0:=cb_ HB hx202_0
                                replace hx202_1:=cb_ HB hx202_1
                                replace hx202_2:=cb_ HB hx202_2
                                replace hx202_3:=cb_ HB hx202_3
                                replace hx202_4:=cb_ HB hx202_4
                                replace p202:=eq_true p202
                                replace q202:=eq_true q202
                                have p203 : 0 ≤ ((ji43) : Int):=of_decide_eq_true (by first|(with_reducible assumption)|assumption)
                                have q203 : (ji43) < (l0_1.length : Int):=of_decide_eq_true (by first|(with_reducible assumption)|assumption)
                                obtain ⟨ad203,e203,hx203_0,hx203_1,hx203_2,hx203_3,hx203_4⟩:=at_T36 HR0_1.out (ji43) p203 q203
                                obtain rfl : ad194 = ad203:=(by injection e203)
                                replace hx203_0:=cb_ HB hx203_0
                                replace hx203_1:=cb_ HB hx203_1
                                replace hx203_2:=cb_ HB hx203_2
                                replace hx203_3:=cb_ HB hx203_3
                                replace hx203_4:=cb_ HB hx203_4
                                replace p203:=eq_true p203
                                replace q203:=eq_true q203
                                go_wp2
                                repeat (go_quiet (fail);try go_wp2)
                                go_roundg kj8
                                case measure=>have:=HK1.out;have:=HJ8.out;omega
                                case rel=>exact ⟨(wrap64 (x13_1 + 1)),(by first|rfl|(simp;done)|(simp [*];done)),H',⟨by have:=HK1.out;have:=HJ8.out;omega⟩,⟨by (with_reducible repeat (first|refine qb ?_ _|refine qe ?_|refine qc ?_ _));exact BK192.out⟩,⟨by repeat (first|(with_reducible first|exact HB.out|apply qf|apply qa|apply qd|refine qg ?_ GE192.out|refine qg ?_ GE195.out)|exact HB.out)⟩⟩
                            · rw [if_neg c50] at H
                              have c50b0 : (((rd_T36 l0_1 (ji43)).f0) == ((rd_T36 l0_1 x13_1).f0)) = false:=beq_eq_false_iff_ne.mpr c50
                              have c50b1 : (((rd_T36 l0_1 (ji43)).f0) != ((rd_T36 l0_1 x13_1).f0)) = true:=bne_iff_ne.mpr c50
                              have H':=qn.mk H
                              clear H
                              have hnb58:=NB192_195.out
                              have hnc58:=NB195_192.out
                              have hcz59_0 : wc.cell? ⟨gb192,0,none⟩ = some (.int .i64 a0_0):=(qh BK192.out 0).trans rfl
                              have hcz59_1 : wc.cell? ⟨gb192,1,none⟩ = some (.slice (some ad194) l0_1.length c0_1):=(qh BK192.out 1).trans rfl
                              have hfz59_0:=qi BK192.out 0
                              have hfz59_1:=qi BK192.out 1
                              have p201 : 0 ≤ ((ji43) : Int):=of_decide_eq_true (by first|(with_reducible assumption)|assumption)
                              have q201 : (ji43) < (l0_1.length : Int):=of_decide_eq_true (by first|(with_reducible assumption)|assumption)
                              obtain ⟨ad201,e201,hx201_0,hx201_1,hx201_2,hx201_3,hx201_4⟩:=at_T36 HR0_1.out (ji43) p201 q201
                              obtain rfl : ad194 = ad201:=(by injection e201)
                              replace hx201_0:=cb_ HB hx201_0
                              replace hx201_1:=cb_ HB hx201_1
                              replace hx201_2:=cb_ HB hx201_2
                              replace hx201_3:=cb_ HB hx201_3
                              replace hx201_4:=cb_ HB hx201_4
                              replace p201:=eq_true p201
                              replace q201:=eq_true q201
                              have hcz60_0 : wc.cell? ⟨gb195,0,none⟩ = some (.int .i64 ((rd_T36 l0_1 x13_1).f0)):=(qh BK195.out 0).trans rfl
                              have hcz60_1 : wc.cell? ⟨gb195,1,none⟩ = some (.int .i64 ((rd_T36 l0_1 x13_1).f1)):=(qh BK195.out 1).trans rfl
                              have hcz60_2 : wc.cell? ⟨gb195,2,none⟩ = some (.int .i64 ((rd_T36 l0_1 x13_1).f2)):=(qh BK195.out 2).trans rfl
                              have hcz60_3 : wc.cell? ⟨gb195,3,none⟩ = some (.int .i64 ((rd_T36 l0_1 x13_1).f3)):=(qh BK195.out 3).trans rfl
                              have hcz60_4 : wc.cell? ⟨gb195,4,none⟩ = some (.int .i64 ((rd_T36 l0_1 x13_1).f4)):=(qh BK195.out 4).trans rfl
                              have hfz60_0:=qi BK195.out 0
                              have hfz60_1:=qi BK195.out 1
                              have hfz60_2:=qi BK195.out 2
                              have hfz60_3:=qi BK195.out 3
                              have hfz60_4:=qi BK195.out 4
                              have p202 : 0 ≤ ((ji43) : Int):=of_decide_eq_true (by first|(with_reducible assumption)|assumption)
                              have q202 : (ji43) < (l0_1.length : Int):=of_decide_eq_true (by first|(with_reducible assumption)|assumption)
                              obtain ⟨ad202,e202,hx202_0,hx202_1,hx202_2,hx202_3,hx202_4⟩:=at_T36 HR0_1.out (ji43) p202 q202
                              obtain rfl : ad194 = ad202:=(by injection e202)
                              replace hx202_0:=cb_ HB hx202_0
                              replace hx202_1:=cb_ HB hx202_1
                              replace hx202_2:=cb_ HB hx202_2
                              replace hx202_3:=cb_ HB hx202_3
                              replace hx202_4:=cb_ HB hx202_4
                              replace p202:=eq_true p202
                              replace q202:=eq_true q202
                              go_wp2
                              repeat (go_quiet (fail);try go_wp2)
                              go_roundg kj8
                              case measure=>have:=HK1.out;have:=HJ8.out;omega
                              case rel=>exact ⟨(wrap64 (x13_1 + 1)),(by first|rfl|(simp;done)|(simp [*];done)),H',⟨by have:=HK1.out;have:=HJ8.out;omega⟩,⟨by (with_reducible repeat (first|refine qb ?_ _|refine qe ?_|refine qc ?_ _));exact BK192.out⟩,⟨by repeat (first|(with_reducible first|exact HB.out|apply qf|apply qa|apply qd|refine qg ?_ GE192.out|refine qg ?_ GE195.out)|exact HB.out)⟩⟩
                        · rw [if_neg c45] at H
                          exact absurd H (by simp)
                      · rw [if_neg c44] at H
                        exact absurd H (by simp)
                    · rw [if_neg c42] at H
                      have c42b0 : decide (0 < x13_1) = false:=decide_eq_false c42
                      clear c42
                      have H':=qn.mk H
                      clear H
                      go_wp2
                      repeat (go_quiet (fail);try go_wp2)
                      go_roundg kj8
                      case measure=>have:=HK1.out;have:=HJ8.out;omega
                      case rel=>exact ⟨(wrap64 (x13_1 + 1)),(by first|rfl|(simp;done)|(simp [*];done)),H',⟨by have:=HK1.out;have:=HJ8.out;omega⟩,⟨by (with_reducible repeat (first|refine qb ?_ _|refine qe ?_|refine qc ?_ _));exact BK192.out⟩,⟨by repeat (first|(with_reducible first|exact HB.out|apply qf|apply qa|apply qd|refine qg ?_ GE192.out|refine qg ?_ GE195.out)|exact HB.out)⟩⟩
            · rw [if_neg c8] at H
              exact absurd H (by simp)
          · rw [if_neg c7] at H
            exact absurd H (by simp)
        · rw [if_neg c6] at H
          have c6b0 : decide (x13_1 < (l0_1.length : Int)) = false:=decide_eq_false c6
          clear c6
          obtain rfl:=Option.some.inj H
          go_wp2
          repeat (go_quiet (fail);try go_wp2)
          go_ret
          exact ⟨by first|rfl|(simp [errW_none,errW_some] <;> rfl)|(simp [*,errW_none,errW_some] <;> rfl),by repeat (first|(with_reducible first|exact HB.out|apply qf|apply qa|apply qd|refine qg ?_ GE192.out)|exact HB.out)⟩
  · replace c3:=Bool.eq_false_iff.mpr c3
    subst c3
    have H1 : (some false) = some r:=by rw [if_neg (show ¬ (false = true) by decide)] at H;exact H
    clear H
    have H:=H1
    clear H1
    obtain rfl:=Option.some.inj H
    go_enter Try.func16,Try.ntmps16
    go_wp2_with (first|((with_reducible refine gate_dst (N:=1) rfl ?_);refine box_event ?hg (N:=1) ?hd (cs:=#[.int .i64 a0_0,.slice A0_1 l0_1.length c0_1]) (t:=26) ?hr ?_;(case hd=>rfl);(case hg=>rfl);(case hr=>first|(go_simp;done)|(go_simp;rfl));intro gb192 hg w61 hbox hb;have n0_:=hs_ HB hb;have n1_:=qn.mk (hbox);have n2_:=qn.mk ((by rw [hg];exact (qj (by repeat (first|(with_reducible first|exact HB.out|apply qf|apply qa|apply qd)|exact HB.out))) : w.heap.size ≤ gb192));have n3_:=qn.mk ((by rw [hg];exact (qj (by repeat (first|(with_reducible first|exact HB.out|apply qf|apply qa|apply qd)|exact HB.out))) : w.heap.size ≤ gb192));clear HB;have HB:=n0_;have BK192:=n1_;have GW192:=n2_;have GE192:=n3_;clear n0_ n1_ n2_ n3_;clear hb hbox hg;have hcz62_0 : w61.cell? ⟨gb192,0,none⟩ = some (.int .i64 a0_0):=(qh BK192.out 0).trans rfl;have hcz62_1 : w61.cell? ⟨gb192,1,none⟩ = some (.slice A0_1 l0_1.length c0_1):=(qh BK192.out 1).trans rfl;have hfz62_0:=qi BK192.out 0;have hfz62_1:=qi BK192.out 1)|(go_at_call 59;(with_reducible refine (impl_in.calls a0_0 0 9 false _ A2.out).mono ?_);rintro e w' ⟨rfl,⟨nd,rfl⟩⟩;(try first|exact ⟨rfl,_,World.drewN_drewN _ _ _⟩|exact ⟨rfl,_,Eq.trans (World.drewN_drewN _ _ _) (congrArg (World.drewN _) (Nat.add_assoc _ _ _))⟩)))
    repeat (go_quiet (first|((with_reducible refine gate_dst (N:=1) rfl ?_);refine box_event ?hg (N:=1) ?hd (cs:=#[.int .i64 a0_0,.slice A0_1 l0_1.length c0_1]) (t:=26) ?hr ?_;(case hd=>rfl);(case hg=>rfl);(case hr=>first|(go_simp;done)|(go_simp;rfl));intro gb192 hg w61 hbox hb;have n0_:=hs_ HB hb;have n1_:=qn.mk (hbox);have n2_:=qn.mk ((by rw [hg];exact (qj (by repeat (first|(with_reducible first|exact HB.out|apply qf|apply qa|apply qd)|exact HB.out))) : w.heap.size ≤ gb192));have n3_:=qn.mk ((by rw [hg];exact (qj (by repeat (first|(with_reducible first|exact HB.out|apply qf|apply qa|apply qd)|exact HB.out))) : w.heap.size ≤ gb192));clear HB;have HB:=n0_;have BK192:=n1_;have GW192:=n2_;have GE192:=n3_;clear n0_ n1_ n2_ n3_;clear hb hbox hg;have hcz62_0 : w61.cell? ⟨gb192,0,none⟩ = some (.int .i64 a0_0):=(qh BK192.out 0).trans rfl;have hcz62_1 : w61.cell? ⟨gb192,1,none⟩ = some (.slice A0_1 l0_1.length c0_1):=(qh BK192.out 1).trans rfl;have hfz62_0:=qi BK192.out 0;have hfz62_1:=qi BK192.out 1)|(go_at_call 59;(with_reducible refine (impl_in.calls a0_0 0 9 false _ A2.out).mono ?_);rintro e w' ⟨rfl,⟨nd,rfl⟩⟩;(try first|exact ⟨rfl,_,World.drewN_drewN _ _ _⟩|exact ⟨rfl,_,Eq.trans (World.drewN_drewN _ _ _) (congrArg (World.drewN _) (Nat.add_assoc _ _ _))⟩)));try go_wp2_with (first|((with_reducible refine gate_dst (N:=1) rfl ?_);refine box_event ?hg (N:=1) ?hd (cs:=#[.int .i64 a0_0,.slice A0_1 l0_1.length c0_1]) (t:=26) ?hr ?_;(case hd=>rfl);(case hg=>rfl);(case hr=>first|(go_simp;done)|(go_simp;rfl));intro gb192 hg w61 hbox hb;have n0_:=hs_ HB hb;have n1_:=qn.mk (hbox);have n2_:=qn.mk ((by rw [hg];exact (qj (by repeat (first|(with_reducible first|exact HB.out|apply qf|apply qa|apply qd)|exact HB.out))) : w.heap.size ≤ gb192));have n3_:=qn.mk ((by rw [hg];exact (qj (by repeat (first|(with_reducible first|exact HB.out|apply qf|apply qa|apply qd)|exact HB.out))) : w.heap.size ≤ gb192));clear HB;have HB:=n0_;have BK192:=n1_;have GW192:=n2_;have GE192:=n3_;clear n0_ n1_ n2_ n3_;clear hb hbox hg;have hcz62_0 : w61.cell? ⟨gb192,0,none⟩ = some (.int .i64 a0_0):=(qh BK192.out 0).trans rfl;have hcz62_1 : w61.cell? ⟨gb192,1,none⟩ = some (.slice A0_1 l0_1.length c0_1):=(qh BK192.out 1).trans rfl;have hfz62_0:=qi BK192.out 0;have hfz62_1:=qi BK192.out 1)|(go_at_call 59;(with_reducible refine (impl_in.calls a0_0 0 9 false _ A2.out).mono ?_);rintro e w' ⟨rfl,⟨nd,rfl⟩⟩;(try first|exact ⟨rfl,_,World.drewN_drewN _ _ _⟩|exact ⟨rfl,_,Eq.trans (World.drewN_drewN _ _ _) (congrArg (World.drewN _) (Nat.add_assoc _ _ _))⟩))))
    go_ret
    exact ⟨by first|rfl|(simp [errW_none,errW_some] <;> rfl)|(simp [*,errW_none,errW_some] <;> rfl),by repeat (first|(with_reducible first|exact HB.out|apply qf|apply qa|apply qd|refine qg ?_ GE192.out)|exact HB.out)⟩

/-! ### impl_Sums_plus: function 91 -/
def impl_Sums_plus.f (a0_0 : Int) (a0_1 : Int) (a0_2 : Int) (a1_0 : Int) (a1_1 : Int) (a1_2 : Int) (a1_3 : Int) (a1_4 : Int) : Option (Int × Int × Int):=some (wrap64 (a0_0 + a1_2),wrap64 (a0_1 + a1_3),wrap64 (a0_2 + a1_4))
set_option maxHeartbeats 8000000 in
set_option maxRecDepth 100000 in
theorem impl_Sums_plus.calls (a0_0 : Int) (a0_1 : Int) (a0_2 : Int) (a1_0 : Int) (a1_1 : Int) (a1_2 : Int) (a1_3 : Int) (a1_4 : Int) (r1 : Int) (r2 : Int) (r3 : Int) (w : World) (h : impl_Sums_plus.f a0_0 a0_1 a0_2 a1_0 a1_1 a1_2 a1_3 a1_4 = some (r1,r2,r3)) :
    Calls Try.prog 91 #[.agg #[.int .i64 a0_0,.int .i64 a0_1,.int .i64 a0_2],.agg #[.int .i64 a1_0,.int .i64 a1_1,.int .i64 a1_2,.int .i64 a1_3,.int .i64 a1_4]] w fun e w'=>e = .returned (.agg #[.int .i64 r1,.int .i64 r2,.int .i64 r3]) ∧ Below w.heap.size w w':=by
  have hu72:=Try.underlying72
  have hu36:=Try.underlying36
  have HB:=qn.mk (Below.refl w.heap.size w)
  have H : (some (wrap64 (a0_0 + a1_2),wrap64 (a0_1 + a1_3),wrap64 (a0_2 + a1_4))) = some (r1,r2,r3):=h
  clear h
  simp only [Option.some.injEq,Prod.mk.injEq] at H
  obtain ⟨rfl,rfl,rfl⟩:=H
  go_enter Try.func91,Try.ntmps91
  go_wp2_with (first|((with_reducible refine gate_dst (N:=2) rfl ?_);refine box_event ?hg (N:=2) ?hd (cs:=#[.int .i64 a0_0,.int .i64 a0_1,.int .i64 a0_2]) (t:=72) ?hr ?_;(case hd=>rfl);(case hg=>rfl);(case hr=>first|(go_simp;done)|(go_simp;rfl));intro gb204 hg w3 hbox hb;have n0_:=hs_ HB hb;have n1_:=qn.mk (hbox);have n2_:=qn.mk ((by rw [hg];exact (qj (by repeat (first|(with_reducible first|exact HB.out|apply qf|apply qa|apply qd)|exact HB.out))) : w.heap.size ≤ gb204));have n3_:=qn.mk ((by rw [hg];exact (qj (by repeat (first|(with_reducible first|exact HB.out|apply qf|apply qa|apply qd)|exact HB.out))) : w.heap.size ≤ gb204));clear HB;have HB:=n0_;have BK204:=n1_;have GW204:=n2_;have GE204:=n3_;clear n0_ n1_ n2_ n3_;clear hb hbox hg)|((with_reducible refine gate_dst (N:=3) rfl ?_);refine box_event ?hg (N:=3) ?hd (cs:=#[.int .i64 a1_0,.int .i64 a1_1,.int .i64 a1_2,.int .i64 a1_3,.int .i64 a1_4]) (t:=36) ?hr ?_;(case hd=>rfl);(case hg=>rfl);(case hr=>first|(go_simp;done)|(go_simp;rfl));intro gb205 hg w4 hbox hb;have n0_:=bb_ BK204 hb;have n1_:=hs_ HB hb;have n2_:=qn.mk (hbox);have n3_:=qn.mk ((by rw [hg];exact (qj (by repeat (first|(with_reducible first|exact HB.out|apply qf|apply qa|apply qd|refine qg ?_ GE204.out)|exact HB.out))) : w.heap.size ≤ gb205));have n4_:=qn.mk ((by rw [hg];exact (qj (by repeat (first|(with_reducible first|exact HB.out|apply qf|apply qa|apply qd|refine qg ?_ GE204.out)|exact HB.out))) : w.heap.size ≤ gb205));have n5_:=qn.mk ((by rw [hg];exact nl_ BK204 : gb204 ≠ gb205));have n6_:=qn.mk ((by rw [hg];exact ng_ BK204 : gb205 ≠ gb204));clear BK204;clear HB;have BK204:=n0_;have HB:=n1_;have BK205:=n2_;have GW205:=n3_;have GE205:=n4_;have NB204_205:=n5_;have NB205_204:=n6_;clear n0_ n1_ n2_ n3_ n4_ n5_ n6_;clear hb hbox hg)|((with_reducible refine gate_dst (N:=4) rfl ?_);refine box_event ?hg (N:=4) ?hd (cs:=#[.int .i64 0,.int .i64 0,.int .i64 0]) (t:=72) ?hr ?_;(case hd=>rfl);(case hg=>rfl);(case hr=>first|(go_simp;done)|(go_simp;rfl));intro gb206 hg w5 hbox hb;have n0_:=bb_ BK204 hb;have n1_:=bb_ BK205 hb;have n2_:=hs_ HB hb;have n3_:=qn.mk (hbox);have n4_:=qn.mk ((by rw [hg];exact (qj (by repeat (first|(with_reducible first|exact HB.out|apply qf|apply qa|apply qd|refine qg ?_ GE204.out|refine qg ?_ GE205.out)|exact HB.out))) : w.heap.size ≤ gb206));have n5_:=qn.mk ((by rw [hg];exact (qj (by repeat (first|(with_reducible first|exact HB.out|apply qf|apply qa|apply qd|refine qg ?_ GE204.out|refine qg ?_ GE205.out)|exact HB.out))) : w.heap.size ≤ gb206));have n6_:=qn.mk ((by rw [hg];exact nl_ BK204 : gb204 ≠ gb206));have n7_:=qn.mk ((by rw [hg];exact ng_ BK204 : gb206 ≠ gb204));have n8_:=qn.mk ((by rw [hg];exact nl_ BK205 : gb205 ≠ gb206));have n9_:=qn.mk ((by rw [hg];exact ng_ BK205 : gb206 ≠ gb205));clear BK204;clear BK205;clear HB;have BK204:=n0_;have BK205:=n1_;have HB:=n2_;have BK206:=n3_;have GW206:=n4_;have GE206:=n5_;have NB204_206:=n6_;have NB206_204:=n7_;have NB205_206:=n8_;have NB206_205:=n9_;clear n0_ n1_ n2_ n3_ n4_ n5_ n6_ n7_ n8_ n9_;clear hb hbox hg;have hnb6:=NB204_205.out;have hnc6:=NB205_204.out;have hnb7:=NB204_206.out;have hnc7:=NB206_204.out;have hcz8_0 : w5.cell? ⟨gb204,0,none⟩ = some (.int .i64 a0_0):=(qh BK204.out 0).trans rfl;have hcz8_1 : w5.cell? ⟨gb204,1,none⟩ = some (.int .i64 a0_1):=(qh BK204.out 1).trans rfl;have hcz8_2 : w5.cell? ⟨gb204,2,none⟩ = some (.int .i64 a0_2):=(qh BK204.out 2).trans rfl;have hfz8_0:=qi BK204.out 0;have hfz8_1:=qi BK204.out 1;have hfz8_2:=qi BK204.out 2;have hnb9:=NB205_206.out;have hnc9:=NB206_205.out;have hcz10_0 : w5.cell? ⟨gb205,0,none⟩ = some (.int .i64 a1_0):=(qh BK205.out 0).trans rfl;have hcz10_1 : w5.cell? ⟨gb205,1,none⟩ = some (.int .i64 a1_1):=(qh BK205.out 1).trans rfl;have hcz10_2 : w5.cell? ⟨gb205,2,none⟩ = some (.int .i64 a1_2):=(qh BK205.out 2).trans rfl;have hcz10_3 : w5.cell? ⟨gb205,3,none⟩ = some (.int .i64 a1_3):=(qh BK205.out 3).trans rfl;have hcz10_4 : w5.cell? ⟨gb205,4,none⟩ = some (.int .i64 a1_4):=(qh BK205.out 4).trans rfl;have hfz10_0:=qi BK205.out 0;have hfz10_1:=qi BK205.out 1;have hfz10_2:=qi BK205.out 2;have hfz10_3:=qi BK205.out 3;have hfz10_4:=qi BK205.out 4;have hcz11_0 : w5.cell? ⟨gb206,0,none⟩ = some (.int .i64 0):=(qh BK206.out 0).trans rfl;have hcz11_1 : w5.cell? ⟨gb206,1,none⟩ = some (.int .i64 0):=(qh BK206.out 1).trans rfl;have hcz11_2 : w5.cell? ⟨gb206,2,none⟩ = some (.int .i64 0):=(qh BK206.out 2).trans rfl;have hfz11_0:=qi BK206.out 0;have hfz11_1:=qi BK206.out 1;have hfz11_2:=qi BK206.out 2))
  refine bodyPost_ret (results_cell_row rfl _ _ gb206 72 #[.int .i64 (wrap64 (a0_0 + a1_2)),.int .i64 (wrap64 (a0_1 + a1_3)),.int .i64 (wrap64 (a0_2 + a1_4))] (0,0) _ rfl (by (with_reducible repeat (first|refine qb ?_ _|refine qe ?_|refine qc ?_ _));refine blk_put (cs:=#[.int .i64 (wrap64 (a0_0 + a1_2)),.int .i64 (wrap64 (a0_1 + a1_3)),.int .i64 0]) ?_ 2 _ rfl;(with_reducible repeat (first|refine qb ?_ _|refine qe ?_|refine qc ?_ _));refine blk_put (cs:=#[.int .i64 (wrap64 (a0_0 + a1_2)),.int .i64 0,.int .i64 0]) ?_ 1 _ rfl;(with_reducible repeat (first|refine qb ?_ _|refine qe ?_|refine qc ?_ _));refine blk_put (cs:=#[.int .i64 0,.int .i64 0,.int .i64 0]) ?_ 0 _ rfl;(with_reducible repeat (first|refine qb ?_ _|refine qe ?_|refine qc ?_ _));exact BK206.out) Try.underlying72 rfl (by kernel_rfl)) rfl ?_
  exact ⟨by first|rfl|(simp [errW_none,errW_some] <;> rfl)|(simp [*,errW_none,errW_some] <;> rfl),by repeat (first|(with_reducible first|exact HB.out|apply qf|apply qa|apply qd|refine qg ?_ GE204.out|refine qg ?_ GE205.out|refine qg ?_ GE206.out)|exact HB.out)⟩

-- NOT PRINTED: function 85 (impl_every)

end Go.Proofs.Ytfmemcffbfahhaa.QFnExactBestSums
