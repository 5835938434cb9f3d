/- Lean functions for the Go functions that the law FnExactCountMatches reaches, and that each Go function comes to just its Lean function's answer; by a program of this session. -/
import Derived.Test.YtfmemcffbfahhaaZFnExactCountMatchesx0
import Derived.Test.YtfmemcffbfahhaaZFnExactCountMatchesx1
import Derived.Test.YtfmemcffbfahhaaZFnExactCountMatchesx3
namespace Go.Proofs.Ytfmemcffbfahhaa.QFnExactCountMatches
open Go.RowKit Go.Proofs.YtfmemcffbfahhaaW.PrintWords Go.Proofs.YtfmemcffbfahhaaW.PrintLast Go.Proofs.YtfmemcffbfahhaaW.PrintMore
attribute [local go_sem] max2_int min2_int max_two min_two max_three min_three max_four min_four   -- for this text's walks alone
set_option linter.unusedVariables false
set_option linter.unusedSimpArgs false

/-! ### spec_CountMatches: function 34 -/
def spec_CountMatches.f (k : Nat) (a0_0 : Int) (l0_1 : List (S36)) : Option (Int):=(spec_GraphOk.f k a0_0 l0_1).bind fun t155=>(if t155 = true then ((spec_l09Best.f k a0_0 l0_1 0 (([] : List Int))).bind fun bt159=>(some bt159.2.2.2)) else (some (-1)))
theorem spec_CountMatches.mono : ∀ a0 a1 k,LeO (spec_CountMatches.f k a0 a1) (spec_CountMatches.f (k + 1) a0 a1):=by
  intro a0 a1 k
  unfold spec_CountMatches.f
  repeat' first
      | (with_reducible exact spec_GraphOk.mono _ _ _)
      | (with_reducible exact spec_l09Best.mono _ _ _ _ _)
      | (with_reducible exact LeO.refl _)
      | (with_reducible exact LeO.none _)
      | (with_reducible refine LeO.ite ?_ ?_)
      | (with_reducible refine LeO.bind ?_ (fun _=>?_))
      | exact spec_GraphOk.mono _ _ _
      | exact spec_l09Best.mono _ _ _ _ _
      | exact LeO.none _
      | refine LeO.ite ?_ ?_
      | refine LeO.bind ?_ (fun _=>?_)
set_option maxHeartbeats 8000000 in
set_option maxRecDepth 100000 in
theorem spec_CountMatches.calls (k : Nat) (a0_0 : Int) (A0_1 : Option Addr) (c0_1 : Nat) (l0_1 : List (S36)) (r : Int) (w : World) (hr0_1 : Kd.C k36 w A0_1 l0_1.length l0_1) (hc0_1 : l0_1.length ≤ c0_1) (h : spec_CountMatches.f k a0_0 l0_1 = some r) :
    Calls Try.prog 34 #[.agg #[.int .i64 a0_0,.slice A0_1 l0_1.length c0_1]] w fun e w'=>e = .returned (.int .i64 r) ∧ Below w.heap.size w w':=by
  have hu26:=Try.underlying26
  have hu72:=Try.underlying72
  have HR0_1:=qn.mk hr0_1
  have HC0_1:=qn.mk hc0_1
  clear hr0_1 hc0_1
  have HB:=qn.mk (Below.refl w.heap.size w)
  have H : ((spec_GraphOk.f k a0_0 l0_1).bind fun t155=>(if t155 = true then ((spec_l09Best.f k a0_0 l0_1 0 (([] : List Int))).bind fun bt159=>(some bt159.2.2.2)) else (some (-1)))) = some r:=h
  clear h
  replace H:=Option.bind_eq_some_iff.mp H
  obtain ⟨t155,A20,H⟩:=H
  replace H : (if t155 = true then ((spec_l09Best.f k a0_0 l0_1 0 (([] : List Int))).bind fun bt159=>(some bt159.2.2.2)) else (some (-1))) = some r:=H
  have A2:=qn.mk A20
  clear A20
  by_cases c3 : t155 = true
  · subst c3
    have H1 : ((spec_l09Best.f k a0_0 l0_1 0 (([] : List Int))).bind fun bt159=>(some bt159.2.2.2)) = some r:=by rw [if_pos rfl] at H;exact H
    clear H
    have H:=H1
    clear H1
    obtain ⟨y156,hy156⟩ : ∃ y_ : List Int,y_ = (([] : List Int)):=⟨_,rfl⟩
    replace H : ((spec_l09Best.f k a0_0 l0_1 0 y156).bind fun bt159=>(some bt159.2.2.2)) = some r:=by first|(rw [hy156];with_reducible exact H)|(have H2_:=(Option.bind_some _ _).symm.trans H;rw [hy156];with_reducible exact H2_)|(have H2_:=(Option.bind_some _ _).symm.trans H;with_reducible exact H2_)|with_reducible exact H|(rw [hy156];exact H)|exact H
    have Ny156:=qn.mk hy156
    clear hy156
    replace H:=Option.bind_eq_some_iff.mp H
    obtain ⟨⟨t159,t160,t161,t162⟩,A40,H⟩:=H
    replace H : (some t162) = some r:=H
    have A4:=qn.mk A40
    clear A40
    obtain rfl:=Option.some.inj H
    go_enter Try.func34,Try.ntmps34
    go_wp2_with (first|((with_reducible refine gate_dst (N:=1) rfl ?_);refine box_event ?hg (N:=1) ?hd (cs:=#[.int .i64 a0_0,.slice A0_1 l0_1.length c0_1]) (t:=26) ?hr ?_;(case hd=>rfl);(case hg=>rfl);(case hr=>first|(go_simp;done)|(go_simp;rfl));intro gb154 hg w5 hbox hb;have n0_:=hs_ HB hb;have n1_:=qn.mk (hbox);have n2_:=qn.mk ((by rw [hg];exact (qj (by repeat (first|(with_reducible first|exact HB.out|apply qf|apply qa|apply qd)|exact HB.out))) : w.heap.size ≤ gb154));have n3_:=qn.mk ((by rw [hg];exact (qj (by repeat (first|(with_reducible first|exact HB.out|apply qf|apply qa|apply qd)|exact HB.out))) : w.heap.size ≤ gb154));clear HB;have HB:=n0_;have BK154:=n1_;have GW154:=n2_;have GE154:=n3_;clear n0_ n1_ n2_ n3_;clear hb hbox hg;have hcz6_0 : w5.cell? ⟨gb154,0,none⟩ = some (.int .i64 a0_0):=(qh BK154.out 0).trans rfl;have hcz6_1 : w5.cell? ⟨gb154,1,none⟩ = some (.slice A0_1 l0_1.length c0_1):=(qh BK154.out 1).trans rfl;have hfz6_0:=qi BK154.out 0;have hfz6_1:=qi BK154.out 1)|((with_reducible refine gate_callee (f:=82) rfl ?_);refine goesL_ (some 6) rfl rfl Try.func82 (by kernel_rfl) rfl #[.agg #[.int .i64 a0_0,.slice A0_1 l0_1.length c0_1]] rfl (by (try simp only [List.map_toArray,List.map_cons,List.map_nil]);first|done|rfl|(simp only [List.length_drop,List.length_take];rfl)) ?_;(with_reducible refine (spec_GraphOk.calls k a0_0 _ _ l0_1 true _ ?side1 ?side2 A2.out).mono ?_);(case side1=>repeat (first|exact (Kd.C_below HR0_1.out HB.out)|(with_reducible refine Kd.C_alloc ?_ _)|(with_reducible refine Kd.C_drewN ?_ _)|(with_reducible refine Kd.C_drew ?_)));(case side2=>exact HC0_1.out);rintro e w7 ⟨rfl,hb⟩;refine ⟨_,rfl,?_⟩;have n0_:=bb_ BK154 hb;have n1_:=hs_ HB hb;clear BK154;clear HB;have BK154:=n0_;have HB:=n1_;clear n0_ n1_;(try clear hb);(try clear hb2);(try clear hk);(try clear hi);have hcz8_0 : w7.cell? ⟨gb154,0,none⟩ = some (.int .i64 a0_0):=(qh BK154.out 0).trans rfl;have hcz8_1 : w7.cell? ⟨gb154,1,none⟩ = some (.slice A0_1 l0_1.length c0_1):=(qh BK154.out 1).trans rfl;have hfz8_0:=qi BK154.out 0;have hfz8_1:=qi BK154.out 1)|((with_reducible refine gate_dst (N:=10) rfl ?_);refine Kd.R_lit (Kd.int .i64) _ 3 ?hg (N:=10) ?hd (xs:=([] : List Int)) (inner:=[]) (ok:=fun _=>True) (okp:=fun _=>True) ?hr ?hp (fun _ hk=>hk) trivial (Below.refl _ _) (Nat.le_refl _) (by simp) ?_;(case hd=>rfl);(case hg=>rfl);(case hr=>first|(go_simp;done)|(go_simp;rfl));(case hp=>exact (Reps.none _ _));intro v157 w9 ho10 hb hg_ hnew_;clear hg_ hnew_;(first|rw [← Ny156.out] at ho10|(simp only [Int.reduceToNat] at ho10;rw [← Ny156.out] at ho10));have n0_:=qn.mk (Kd.R_lower ho10 (qj (by repeat (first|(with_reducible first|exact HB.out|apply qf|apply qa|apply qd|refine qg ?_ GE154.out)|exact HB.out))));have n1_:=bb_ BK154 hb;have n2_:=hs_ HB hb;clear BK154;clear HB;have HO158:=n0_;have BK154:=n1_;have HB:=n2_;clear n0_ n1_ n2_;clear hb ho10;obtain ⟨Ao11,co11,eo11⟩:=Kd.R_slice HO158.out;subst eo11)|((with_reducible refine gate_callee (f:=83) rfl ?_);refine goesL_ (some 11) rfl rfl Try.func83 (by kernel_rfl) rfl #[.agg #[.int .i64 a0_0,.slice A0_1 l0_1.length c0_1],.int .i64 0,.slice Ao11 y156.length co11] rfl (by (try simp only [List.map_toArray,List.map_cons,List.map_nil]);first|done|rfl|(simp only [List.length_drop,List.length_take];rfl)) ?_;(with_reducible refine (spec_l09Best.calls k a0_0 _ _ l0_1 0 _ _ y156 t159 t160 t161 t162 _ ?side1 ?side2 ?side3 ?side4 A4.out).mono ?_);(case side1=>repeat (first|exact (Kd.C_below HR0_1.out HB.out)|(with_reducible refine Kd.C_alloc ?_ _)|(with_reducible refine Kd.C_drewN ?_ _)|(with_reducible refine Kd.C_drew ?_)));(case side2=>exact HC0_1.out);(case side3=>repeat (first|exact (Kd.R_reads' HO158.out).2.2|(with_reducible refine Kd.C_alloc ?_ _)|(with_reducible refine Kd.C_drewN ?_ _)|(with_reducible refine Kd.C_drew ?_)));(case side4=>exact (Kd.R_reads' HO158.out).2.1);rintro e w12 ⟨rfl,hb⟩;refine ⟨_,rfl,?_⟩;have n0_:=rb_ HO158 hb;have n1_:=bb_ BK154 hb;have n2_:=hs_ HB hb;clear HO158;clear BK154;clear HB;have HO158:=n0_;have BK154:=n1_;have HB:=n2_;clear n0_ n1_ n2_;(try clear hb);(try clear hb2);(try clear hk);(try clear hi))|((with_reducible refine gate_dst (N:=3) rfl ?_);refine box_event ?hg (N:=3) ?hd (cs:=#[.int .i64 0,.int .i64 0,.int .i64 0]) (t:=72) ?hr ?_;(case hd=>rfl);(case hg=>rfl);(case hr=>first|(go_simp;done)|(go_simp;rfl));intro gb163 hg w13 hbox hb;have n0_:=rb_ HO158 hb;have n1_:=bb_ BK154 hb;have n2_:=hs_ HB hb;have n3_:=qn.mk (hbox);have n4_:=qn.mk ((by rw [hg];exact (qj (by repeat (first|(with_reducible first|exact HB.out|apply qf|apply qa|apply qd|refine qg ?_ GE154.out)|exact HB.out))) : w.heap.size ≤ gb163));have n5_:=qn.mk ((by rw [hg];exact (qj (by repeat (first|(with_reducible first|exact HB.out|apply qf|apply qa|apply qd|refine qg ?_ GE154.out)|exact HB.out))) : w.heap.size ≤ gb163));have n6_:=qn.mk ((by rw [hg];exact nl_ BK154 : gb154 ≠ gb163));have n7_:=qn.mk ((by rw [hg];exact ng_ BK154 : gb163 ≠ gb154));clear HO158;clear BK154;clear HB;have HO158:=n0_;have BK154:=n1_;have HB:=n2_;have BK163:=n3_;have GW163:=n4_;have GE163:=n5_;have NB154_163:=n6_;have NB163_154:=n7_;clear n0_ n1_ n2_ n3_ n4_ n5_ n6_ n7_;clear hb hbox hg;have hnb14:=NB163_154.out;have hnc14:=NB154_163.out;have hcz15_0 : w13.cell? ⟨gb163,0,none⟩ = some (.int .i64 0):=(qh BK163.out 0).trans rfl;have hcz15_1 : w13.cell? ⟨gb163,1,none⟩ = some (.int .i64 0):=(qh BK163.out 1).trans rfl;have hcz15_2 : w13.cell? ⟨gb163,2,none⟩ = some (.int .i64 0):=(qh BK163.out 2).trans rfl;have hfz15_0:=qi BK163.out 0;have hfz15_1:=qi BK163.out 1;have hfz15_2:=qi BK163.out 2))
    go_ret
    exact ⟨by first|rfl|(simp [errW_none,errW_some] <;> rfl)|(simp [*,errW_none,errW_some] <;> rfl),by repeat (first|(with_reducible first|exact HB.out|apply qf|apply qa|apply qd|refine qg ?_ GE154.out|refine qg ?_ GE163.out)|exact HB.out)⟩
  · replace c3:=Bool.eq_false_iff.mpr c3
    subst c3
    have H1 : (some (-1)) = some r:=by rw [if_neg (show ¬ (false = true) by decide)] at H;exact H
    clear H
    have H:=H1
    clear H1
    obtain rfl:=Option.some.inj H
    go_enter Try.func34,Try.ntmps34
    go_wp2_with (first|((with_reducible refine gate_dst (N:=1) rfl ?_);refine box_event ?hg (N:=1) ?hd (cs:=#[.int .i64 a0_0,.slice A0_1 l0_1.length c0_1]) (t:=26) ?hr ?_;(case hd=>rfl);(case hg=>rfl);(case hr=>first|(go_simp;done)|(go_simp;rfl));intro gb154 hg w16 hbox hb;have n0_:=hs_ HB hb;have n1_:=qn.mk (hbox);have n2_:=qn.mk ((by rw [hg];exact (qj (by repeat (first|(with_reducible first|exact HB.out|apply qf|apply qa|apply qd)|exact HB.out))) : w.heap.size ≤ gb154));have n3_:=qn.mk ((by rw [hg];exact (qj (by repeat (first|(with_reducible first|exact HB.out|apply qf|apply qa|apply qd)|exact HB.out))) : w.heap.size ≤ gb154));clear HB;have HB:=n0_;have BK154:=n1_;have GW154:=n2_;have GE154:=n3_;clear n0_ n1_ n2_ n3_;clear hb hbox hg;have hcz17_0 : w16.cell? ⟨gb154,0,none⟩ = some (.int .i64 a0_0):=(qh BK154.out 0).trans rfl;have hcz17_1 : w16.cell? ⟨gb154,1,none⟩ = some (.slice A0_1 l0_1.length c0_1):=(qh BK154.out 1).trans rfl;have hfz17_0:=qi BK154.out 0;have hfz17_1:=qi BK154.out 1)|((with_reducible refine gate_callee (f:=82) rfl ?_);refine goesL_ (some 6) rfl rfl Try.func82 (by kernel_rfl) rfl #[.agg #[.int .i64 a0_0,.slice A0_1 l0_1.length c0_1]] rfl (by (try simp only [List.map_toArray,List.map_cons,List.map_nil]);first|done|rfl|(simp only [List.length_drop,List.length_take];rfl)) ?_;(with_reducible refine (spec_GraphOk.calls k a0_0 _ _ l0_1 false _ ?side1 ?side2 A2.out).mono ?_);(case side1=>repeat (first|exact (Kd.C_below HR0_1.out HB.out)|(with_reducible refine Kd.C_alloc ?_ _)|(with_reducible refine Kd.C_drewN ?_ _)|(with_reducible refine Kd.C_drew ?_)));(case side2=>exact HC0_1.out);rintro e w18 ⟨rfl,hb⟩;refine ⟨_,rfl,?_⟩;have n0_:=bb_ BK154 hb;have n1_:=hs_ HB hb;clear BK154;clear HB;have BK154:=n0_;have HB:=n1_;clear n0_ n1_;(try clear hb);(try clear hb2);(try clear hk);(try clear hi)))
    go_ret
    exact ⟨by first|rfl|(simp [errW_none,errW_some] <;> rfl)|(simp [*,errW_none,errW_some] <;> rfl),by repeat (first|(with_reducible first|exact HB.out|apply qf|apply qa|apply qd|refine qg ?_ GE154.out)|exact HB.out)⟩

/-! ### laws_toEdge: function 117 -/
def laws_toEdge.f (a0_0 : Int) (a0_1 : Int) (a0_2 : Int) (a0_3 : Int) (a0_4 : Int) : Option (Int × Int × Int × Int × Int):=some (a0_0,a0_1,a0_2,a0_3,a0_4)
set_option maxHeartbeats 8000000 in
set_option maxRecDepth 100000 in
theorem laws_toEdge.calls (a0_0 : Int) (a0_1 : Int) (a0_2 : Int) (a0_3 : Int) (a0_4 : Int) (r1 : Int) (r2 : Int) (r3 : Int) (r4 : Int) (r5 : Int) (w : World) (h : laws_toEdge.f a0_0 a0_1 a0_2 a0_3 a0_4 = some (r1,r2,r3,r4,r5)) :
    Calls Try.prog 117 #[.agg #[.int .i64 a0_0,.int .i64 a0_1,.int .i64 a0_2,.int .i64 a0_3,.int .i64 a0_4]] w fun e w'=>e = .returned (.agg #[.int .i64 r1,.int .i64 r2,.int .i64 r3,.int .i64 r4,.int .i64 r5]) ∧ Below w.heap.size w w':=by
  have hu148:=Try.underlying148
  have hu36:=Try.underlying36
  have HB:=qn.mk (Below.refl w.heap.size w)
  have H : (some (a0_0,a0_1,a0_2,a0_3,a0_4)) = some (r1,r2,r3,r4,r5):=h
  clear h
  simp only [Option.some.injEq,Prod.mk.injEq] at H
  obtain ⟨rfl,rfl,rfl,rfl,rfl⟩:=H
  go_enter Try.func117,Try.ntmps117
  go_wp2_with (first|((with_reducible refine gate_dst (N:=1) rfl ?_);refine box_event ?hg (N:=1) ?hd (cs:=#[.int .i64 a0_0,.int .i64 a0_1,.int .i64 a0_2,.int .i64 a0_3,.int .i64 a0_4]) (t:=148) ?hr ?_;(case hd=>rfl);(case hg=>rfl);(case hr=>first|(go_simp;done)|(go_simp;rfl));intro gb164 hg w2 hbox hb;have n0_:=hs_ HB hb;have n1_:=qn.mk (hbox);have n2_:=qn.mk ((by rw [hg];exact (qj (by repeat (first|(with_reducible first|exact HB.out|apply qf|apply qa|apply qd)|exact HB.out))) : w.heap.size ≤ gb164));have n3_:=qn.mk ((by rw [hg];exact (qj (by repeat (first|(with_reducible first|exact HB.out|apply qf|apply qa|apply qd)|exact HB.out))) : w.heap.size ≤ gb164));clear HB;have HB:=n0_;have BK164:=n1_;have GW164:=n2_;have GE164:=n3_;clear n0_ n1_ n2_ n3_;clear hb hbox hg)|((with_reducible refine gate_dst (N:=2) rfl ?_);refine box_event ?hg (N:=2) ?hd (cs:=#[.int .i64 0,.int .i64 0,.int .i64 0,.int .i64 0,.int .i64 0]) (t:=36) ?hr ?_;(case hd=>rfl);(case hg=>rfl);(case hr=>first|(go_simp;done)|(go_simp;rfl));intro gb165 hg w3 hbox hb;have n0_:=bb_ BK164 hb;have n1_:=hs_ HB hb;have n2_:=qn.mk (hbox);have n3_:=qn.mk ((by rw [hg];exact (qj (by repeat (first|(with_reducible first|exact HB.out|apply qf|apply qa|apply qd|refine qg ?_ GE164.out)|exact HB.out))) : w.heap.size ≤ gb165));have n4_:=qn.mk ((by rw [hg];exact (qj (by repeat (first|(with_reducible first|exact HB.out|apply qf|apply qa|apply qd|refine qg ?_ GE164.out)|exact HB.out))) : w.heap.size ≤ gb165));have n5_:=qn.mk ((by rw [hg];exact nl_ BK164 : gb164 ≠ gb165));have n6_:=qn.mk ((by rw [hg];exact ng_ BK164 : gb165 ≠ gb164));clear BK164;clear HB;have BK164:=n0_;have HB:=n1_;have BK165:=n2_;have GW165:=n3_;have GE165:=n4_;have NB164_165:=n5_;have NB165_164:=n6_;clear n0_ n1_ n2_ n3_ n4_ n5_ n6_;clear hb hbox hg)|((with_reducible refine gate_dst (N:=3) rfl ?_);refine box_event ?hg (N:=3) ?hd (cs:=#[.int .i64 0,.int .i64 0,.int .i64 0,.int .i64 0,.int .i64 0]) (t:=36) ?hr ?_;(case hd=>rfl);(case hg=>rfl);(case hr=>first|(go_simp;done)|(go_simp;rfl));intro gb166 hg w4 hbox hb;have n0_:=bb_ BK164 hb;have n1_:=bb_ BK165 hb;have n2_:=hs_ HB hb;have n3_:=qn.mk (hbox);have n4_:=qn.mk ((by rw [hg];exact (qj (by repeat (first|(with_reducible first|exact HB.out|apply qf|apply qa|apply qd|refine qg ?_ GE164.out|refine qg ?_ GE165.out)|exact HB.out))) : w.heap.size ≤ gb166));have n5_:=qn.mk ((by rw [hg];exact (qj (by repeat (first|(with_reducible first|exact HB.out|apply qf|apply qa|apply qd|refine qg ?_ GE164.out|refine qg ?_ GE165.out)|exact HB.out))) : w.heap.size ≤ gb166));have n6_:=qn.mk ((by rw [hg];exact nl_ BK164 : gb164 ≠ gb166));have n7_:=qn.mk ((by rw [hg];exact ng_ BK164 : gb166 ≠ gb164));have n8_:=qn.mk ((by rw [hg];exact nl_ BK165 : gb165 ≠ gb166));have n9_:=qn.mk ((by rw [hg];exact ng_ BK165 : gb166 ≠ gb165));clear BK164;clear BK165;clear HB;have BK164:=n0_;have BK165:=n1_;have HB:=n2_;have BK166:=n3_;have GW166:=n4_;have GE166:=n5_;have NB164_166:=n6_;have NB166_164:=n7_;have NB165_166:=n8_;have NB166_165:=n9_;clear n0_ n1_ n2_ n3_ n4_ n5_ n6_ n7_ n8_ n9_;clear hb hbox hg;have hnb5:=NB164_165.out;have hnc5:=NB165_164.out;have hnb6:=NB164_166.out;have hnc6:=NB166_164.out;have hcz7_0 : w4.cell? ⟨gb164,0,none⟩ = some (.int .i64 a0_0):=(qh BK164.out 0).trans rfl;have hcz7_1 : w4.cell? ⟨gb164,1,none⟩ = some (.int .i64 a0_1):=(qh BK164.out 1).trans rfl;have hcz7_2 : w4.cell? ⟨gb164,2,none⟩ = some (.int .i64 a0_2):=(qh BK164.out 2).trans rfl;have hcz7_3 : w4.cell? ⟨gb164,3,none⟩ = some (.int .i64 a0_3):=(qh BK164.out 3).trans rfl;have hcz7_4 : w4.cell? ⟨gb164,4,none⟩ = some (.int .i64 a0_4):=(qh BK164.out 4).trans rfl;have hfz7_0:=qi BK164.out 0;have hfz7_1:=qi BK164.out 1;have hfz7_2:=qi BK164.out 2;have hfz7_3:=qi BK164.out 3;have hfz7_4:=qi BK164.out 4;have hnb8:=NB166_165.out;have hnc8:=NB165_166.out;have hcz9_0 : w4.cell? ⟨gb166,0,none⟩ = some (.int .i64 0):=(qh BK166.out 0).trans rfl;have hcz9_1 : w4.cell? ⟨gb166,1,none⟩ = some (.int .i64 0):=(qh BK166.out 1).trans rfl;have hcz9_2 : w4.cell? ⟨gb166,2,none⟩ = some (.int .i64 0):=(qh BK166.out 2).trans rfl;have hcz9_3 : w4.cell? ⟨gb166,3,none⟩ = some (.int .i64 0):=(qh BK166.out 3).trans rfl;have hcz9_4 : w4.cell? ⟨gb166,4,none⟩ = some (.int .i64 0):=(qh BK166.out 4).trans rfl;have hfz9_0:=qi BK166.out 0;have hfz9_1:=qi BK166.out 1;have hfz9_2:=qi BK166.out 2;have hfz9_3:=qi BK166.out 3;have hfz9_4:=qi BK166.out 4;have hcz10_0 : w4.cell? ⟨gb165,0,none⟩ = some (.int .i64 0):=(qh BK165.out 0).trans rfl;have hcz10_1 : w4.cell? ⟨gb165,1,none⟩ = some (.int .i64 0):=(qh BK165.out 1).trans rfl;have hcz10_2 : w4.cell? ⟨gb165,2,none⟩ = some (.int .i64 0):=(qh BK165.out 2).trans rfl;have hcz10_3 : w4.cell? ⟨gb165,3,none⟩ = some (.int .i64 0):=(qh BK165.out 3).trans rfl;have hcz10_4 : w4.cell? ⟨gb165,4,none⟩ = some (.int .i64 0):=(qh BK165.out 4).trans rfl;have hfz10_0:=qi BK165.out 0;have hfz10_1:=qi BK165.out 1;have hfz10_2:=qi BK165.out 2;have hfz10_3:=qi BK165.out 3;have hfz10_4:=qi BK165.out 4))
  refine bodyPost_ret (results_cell_row rfl _ _ gb165 36 #[.int .i64 a0_0,.int .i64 a0_1,.int .i64 a0_2,.int .i64 a0_3,.int .i64 a0_4] (0,0) _ rfl (by (with_reducible repeat (first|refine qb ?_ _|refine qe ?_|refine qc ?_ _));refine blk_put (cs:=#[.int .i64 a0_0,.int .i64 a0_1,.int .i64 a0_2,.int .i64 a0_3,.int .i64 0]) ?_ 4 _ rfl;(with_reducible repeat (first|refine qb ?_ _|refine qe ?_|refine qc ?_ _));refine blk_put (cs:=#[.int .i64 a0_0,.int .i64 a0_1,.int .i64 a0_2,.int .i64 0,.int .i64 0]) ?_ 3 _ rfl;(with_reducible repeat (first|refine qb ?_ _|refine qe ?_|refine qc ?_ _));refine blk_put (cs:=#[.int .i64 a0_0,.int .i64 a0_1,.int .i64 0,.int .i64 0,.int .i64 0]) ?_ 2 _ rfl;(with_reducible repeat (first|refine qb ?_ _|refine qe ?_|refine qc ?_ _));refine blk_put (cs:=#[.int .i64 a0_0,.int .i64 0,.int .i64 0,.int .i64 0,.int .i64 0]) ?_ 1 _ rfl;(with_reducible repeat (first|refine qb ?_ _|refine qe ?_|refine qc ?_ _));refine blk_put (cs:=#[.int .i64 0,.int .i64 0,.int .i64 0,.int .i64 0,.int .i64 0]) ?_ 0 _ rfl;(with_reducible repeat (first|refine qb ?_ _|refine qe ?_|refine qc ?_ _));refine blk_far ?_ NB165_166.out _;(with_reducible repeat (first|refine qb ?_ _|refine qe ?_|refine qc ?_ _));refine blk_far ?_ NB165_166.out _;(with_reducible repeat (first|refine qb ?_ _|refine qe ?_|refine qc ?_ _));refine blk_far ?_ NB165_166.out _;(with_reducible repeat (first|refine qb ?_ _|refine qe ?_|refine qc ?_ _));refine blk_far ?_ NB165_166.out _;(with_reducible repeat (first|refine qb ?_ _|refine qe ?_|refine qc ?_ _));refine blk_far ?_ NB165_166.out _;(with_reducible repeat (first|refine qb ?_ _|refine qe ?_|refine qc ?_ _));exact BK165.out) Try.underlying36 rfl (by kernel_rfl)) rfl ?_
  exact ⟨by first|rfl|(simp [errW_none,errW_some] <;> rfl)|(simp [*,errW_none,errW_some] <;> rfl),by repeat (first|(with_reducible first|exact HB.out|apply qf|apply qa|apply qd|refine qg ?_ GE164.out|refine qg ?_ GE165.out|refine qg ?_ GE166.out)|exact HB.out)⟩

/-! ### laws_toEdgeS: function 84 -/
def laws_toEdgeS.l0 : Nat → List (S148) → List (S36) → Int → Option ((List (S36)))
  | 0,_,_,_=>none
  | k + 1,x0,x3,x4=>if x4 < (x0.length : Int) then (if 0 ≤ x4 then ((laws_toEdge.f ((rd_T148 x0 x4).f0) ((rd_T148 x0 x4).f1) ((rd_T148 x0 x4).f2) ((rd_T148 x0 x4).f3) ((rd_T148 x0 x4).f4)).bind fun bt171=>(if x4 < (x3.length : Int) then (laws_toEdgeS.l0 k x0 (x3.set (x4 : Int).toNat (⟨bt171.1,bt171.2.1,bt171.2.2.1,bt171.2.2.2.1,bt171.2.2.2.2⟩ : S36)) (wrap64 (x4 + 1))) else (none))) else (none)) else (some x3)
def laws_toEdgeS.f (k : Nat) (l0 : List (S148)) : Option ((List (S36))):=if 0 ≤ (l0.length : Int) then (if ((l0.length : Int) : Int).toNat ≤ 7036874417766 then (laws_toEdgeS.l0 k l0 (List.replicate ((l0.length : Int) : Int).toNat z36) 0) else (none)) else (none)
theorem laws_toEdgeS.mono_l : ∀ k,(∀ y0 y1 y2,LeO (laws_toEdgeS.l0 k y0 y1 y2) (laws_toEdgeS.l0 (k + 1) y0 y1 y2))
  | 0=>fun _ _ _ r h=>by simp [laws_toEdgeS.l0] at h
  | k + 1=>by
    have ih0:=laws_toEdgeS.mono_l k
    · intro y0 y1 y2
      unfold laws_toEdgeS.l0
      repeat' first
      | (with_reducible exact ih0 _ _ _)
      | (with_reducible exact LeO.refl _)
      | (with_reducible exact LeO.none _)
      | (with_reducible refine LeO.ite ?_ ?_)
      | (with_reducible refine LeO.bind ?_ (fun _=>?_))
      | exact ih0 _ _ _
      | exact LeO.none _
      | refine LeO.ite ?_ ?_
      | refine LeO.bind ?_ (fun _=>?_)
theorem laws_toEdgeS.mono : ∀ a0 k,LeO (laws_toEdgeS.f k a0) (laws_toEdgeS.f (k + 1) a0):=by
  intro a0 k
  have ih0:=laws_toEdgeS.mono_l k
  unfold laws_toEdgeS.f
  repeat' first
      | (with_reducible exact ih0 _ _ _)
      | (with_reducible exact LeO.refl _)
      | (with_reducible exact LeO.none _)
      | (with_reducible refine LeO.ite ?_ ?_)
      | (with_reducible refine LeO.bind ?_ (fun _=>?_))
      | exact ih0 _ _ _
      | exact LeO.none _
      | refine LeO.ite ?_ ?_
      | refine LeO.bind ?_ (fun _=>?_)
set_option maxHeartbeats 8000000 in
set_option maxRecDepth 100000 in
theorem laws_toEdgeS.calls (k : Nat) (A0 : Option Addr) (c0 : Nat) (l0 : List (S148)) (r : List (S36)) (w : World) (hr0 : Kd.C k148 w A0 l0.length l0) (hc0 : l0.length ≤ c0) (h : laws_toEdgeS.f k l0 = some r) :
    Calls Try.prog 84 #[.slice A0 l0.length c0] w fun e w'=>∃ v0_ : Value,e = .returned (v0_) ∧ Kd.R k36 36 w' w.heap.size (fun _=>True) v0_ r ∧ Below w.heap.size w w':=by
  have hu148:=Try.underlying148
  have hu36:=Try.underlying36
  have HR0:=qn.mk hr0
  have HC0:=qn.mk hc0
  clear hr0 hc0
  have HB:=qn.mk (Below.refl w.heap.size w)
  have H : (if 0 ≤ (l0.length : Int) then (if ((l0.length : Int) : Int).toNat ≤ 7036874417766 then (laws_toEdgeS.l0 k l0 (List.replicate ((l0.length : Int) : Int).toNat z36) 0) else (none)) else (none)) = some r:=h
  clear h
  by_cases c2 : 0 ≤ (l0.length : Int)
  · rw [if_pos c2] at H
    have c2b0:=eq_true c2
    have c2b1 : decide (0 ≤ (l0.length : Int)) = true:=decide_eq_true c2
    clear c2
    by_cases c3 : ((l0.length : Int) : Int).toNat ≤ 7036874417766
    · rw [if_pos c3] at H
      have c3b0:=eq_true c3
      have c3b1 : decide (((l0.length : Int) : Int).toNat ≤ 7036874417766) = true:=decide_eq_true c3
      clear c3
      obtain ⟨y167,hy167⟩ : ∃ y_ : List (S36),y_ = (List.replicate ((l0.length : Int) : Int).toNat z36):=⟨_,rfl⟩
      replace H : (laws_toEdgeS.l0 k l0 y167 0) = some r:=by first|(rw [hy167];with_reducible exact H)|(have H2_:=(Option.bind_some _ _).symm.trans H;rw [hy167];with_reducible exact H2_)|(have H2_:=(Option.bind_some _ _).symm.trans H;with_reducible exact H2_)|with_reducible exact H|(rw [hy167];exact H)|exact H
      have Ny167:=qn.mk hy167
      clear hy167
      have H':=qn.mk H
      clear H
      go_enter Try.func84,Try.ntmps84
      go_wp2_with (first|((with_reducible refine gate_dst (N:=7) rfl ?_);refine Kd.R_make k36 _ 36 rfl (N:=7) rfl 24 _ _ rfl (l0.length : Int) rfl rfl Try.underlying24 (.agg #[(.int .i64 0),(.int .i64 0),(.int .i64 0),(.int .i64 0),(.int .i64 0)]) 40 info36 rfl (by decide) (by omega) z36 (ok:=fun _=>True) (okp:=fun _=>True) (k36_mkM _ _ _ z36 ) (fun _ hk=>hk) trivial (of_decide_eq_true (by first|(with_reducible assumption)|assumption)) (Nat.le_trans (Nat.mul_le_mul_right _ (of_decide_eq_true (by first|(with_reducible assumption)|assumption) : (l0.length : Int).toNat ≤ 7036874417766)) (by omega)) (Below.refl _ _) (Nat.le_refl _) ?_;intro v168 w4 ho5 hb hg_ hnew_;clear hg_ hnew_;(first|rw [← Ny167.out] at ho5|(simp only [Int.reduceToNat] at ho5;rw [← Ny167.out] at ho5));have n0_:=qn.mk (Kd.R_lower ho5 (qj (by repeat (first|(with_reducible first|exact HB.out|apply qf|apply qa|apply qd)|exact HB.out))));have n1_:=hs_ HB hb;clear HB;have HO169:=n0_;have HB:=n1_;clear n0_ n1_;clear hb ho5))
      go_loopg [4] k (fun kq v4 w'=>∃ (x3_1 : List (S36)) (x4_1 : Int),v4 = .int .i64 x4_1 ∧ qn (laws_toEdgeS.l0 kq l0 x3_1 x4_1 = some r) ∧ qn (kq ≤ k) ∧ qn (Kd.R k36 36 w' w.heap.size (fun _=>True) v168 x3_1) ∧ qn (Below w.heap.size w w'))
      case atStart=>exact ⟨(y167),(0),(by first|rfl|(simp;done)|(simp [*];done)),H',⟨Nat.le_refl _⟩,⟨by (with_reducible repeat (first|apply Kd.R_alloc|apply Kd.R_drewN|apply Kd.R_drew));exact HO169.out⟩,⟨by repeat (first|(with_reducible first|exact HB.out|apply qf|apply qa|apply qd)|exact HB.out)⟩⟩
      case round =>
        clear H'
        try clear c2
        try clear c2b0
        try clear c2b1
        try clear p2
        try clear c3
        try clear c3b0
        try clear c3b1
        obtain ⟨x3_1,x4_1,rfl,HA,HK1,HO_3,HB⟩:=hrel
        cases gk with
        | zero=>exact absurd HA.out (by simp [laws_toEdgeS.l0])
        | succ k1 =>
          have H:=HA.out
          clear HA
          simp only [laws_toEdgeS.l0] at H
          by_cases c6 : x4_1 < (l0.length : Int)
          · rw [if_pos c6] at H
            have c6b0 : decide (x4_1 < (l0.length : Int)) = true:=decide_eq_true c6
            clear c6
            by_cases c7 : 0 ≤ x4_1
            · rw [if_pos c7] at H
              have c7b0 : decide (0 ≤ x4_1) = true:=decide_eq_true c7
              clear c7
              replace H:=Option.bind_eq_some_iff.mp H
              obtain ⟨⟨t171,t172,t173,t174,t175⟩,A80,H⟩:=H
              replace H : (if x4_1 < (x3_1.length : Int) then (laws_toEdgeS.l0 k1 l0 (x3_1.set (x4_1 : Int).toNat (⟨t171,t172,t173,t174,t175⟩ : S36)) (wrap64 (x4_1 + 1))) else (none)) = some r:=H
              have A8:=qn.mk A80
              clear A80
              by_cases c9 : x4_1 < (x3_1.length : Int)
              · rw [if_pos c9] at H
                have c9b0 : decide (x4_1 < (x3_1.length : Int)) = true:=decide_eq_true c9
                clear c9
                obtain ⟨y176,hy176⟩ : ∃ y_ : List (S36),y_ = (x3_1.set (x4_1 : Int).toNat (⟨t171,t172,t173,t174,t175⟩ : S36)):=⟨_,rfl⟩
                replace H : (laws_toEdgeS.l0 k1 l0 y176 (wrap64 (x4_1 + 1))) = some r:=by first|(rw [hy176];with_reducible exact H)|(have H2_:=(Option.bind_some _ _).symm.trans H;rw [hy176];with_reducible exact H2_)|(have H2_:=(Option.bind_some _ _).symm.trans H;with_reducible exact H2_)|with_reducible exact H|(rw [hy176];exact H)|exact H
                have Ny176:=qn.mk hy176
                clear hy176
                have H':=qn.mk H
                clear H
                have p170 : 0 ≤ (x4_1 : Int):=of_decide_eq_true (by first|(with_reducible assumption)|assumption)
                have q170 : x4_1 < (l0.length : Int):=of_decide_eq_true (by first|(with_reducible assumption)|assumption)
                obtain ⟨ad170,e170,hx170_0,hx170_1,hx170_2,hx170_3,hx170_4⟩:=at_T148 HR0.out x4_1 p170 q170
                cases e170
                replace hx170_0:=cb_ HB hx170_0
                replace hx170_1:=cb_ HB hx170_1
                replace hx170_2:=cb_ HB hx170_2
                replace hx170_3:=cb_ HB hx170_3
                replace hx170_4:=cb_ HB hx170_4
                replace p170:=eq_true p170
                replace q170:=eq_true q170
                go_wp2_with (first|((with_reducible refine gate_callee (f:=117) rfl ?_);refine goesL_ (some 20) rfl rfl Try.func117 (by kernel_rfl) rfl #[.agg #[.int .i64 ((rd_T148 l0 x4_1).f0),.int .i64 ((rd_T148 l0 x4_1).f1),.int .i64 ((rd_T148 l0 x4_1).f2),.int .i64 ((rd_T148 l0 x4_1).f3),.int .i64 ((rd_T148 l0 x4_1).f4)]] rfl (by (try simp only [List.map_toArray,List.map_cons,List.map_nil]);first|done|rfl|(simp only [List.length_drop,List.length_take];rfl)) ?_;(with_reducible refine (laws_toEdge.calls ((rd_T148 l0 x4_1).f0) ((rd_T148 l0 x4_1).f1) ((rd_T148 l0 x4_1).f2) ((rd_T148 l0 x4_1).f3) ((rd_T148 l0 x4_1).f4) t171 t172 t173 t174 t175 _ A8.out).mono ?_);rintro e w11 ⟨rfl,hb⟩;refine ⟨_,rfl,?_⟩;have n0_:=rb_ HO_3 hb;have n1_:=hs_ HB hb;clear HO_3;clear HB;have HO_3:=n0_;have HB:=n1_;clear n0_ n1_;(try clear hb);(try clear hb2);(try clear hk);(try clear hi);have p10 : 0 ≤ (x4_1 : Int):=of_decide_eq_true (by first|(with_reducible assumption)|assumption);have q10 : (x4_1 : Int) < ((x3_1.length : Int) : Int):=of_decide_eq_true (by first|(with_reducible assumption)|assumption);obtain ⟨go10,co10,eo10,gb10,gl10,cl10,HG10⟩:=Kd.R_form HO_3.out (by omega);(first|cases eo10|(injection eo10 with ea_ en_ ec_;(first|subst ea_|(injection ea_ with ea_;subst ea_));subst ec_;clear en_));have GB10:=qn.mk gb10;have GG10:=qn.mk HG10;clear gb10 gl10 HG10;obtain ⟨ce10,hcl10,hM10,hcc10,hfr10⟩:=Kd.R_elem HO_3.out z36 (x4_1 : Int) p10 q10;obtain rfl:=k36_openM hM10;have hx10_0 : w11.cell? ⟨go10,(x4_1 : Int).toNat * 5,none⟩ = some (.int .i64 ((rd_T36 x3_1 x4_1).f0)):=hcc10 0 _ rfl;have hx10_1 : w11.cell? ⟨go10,(x4_1 : Int).toNat * 5 + 1,none⟩ = some (.int .i64 ((rd_T36 x3_1 x4_1).f1)):=hcc10 1 _ rfl;have hx10_2 : w11.cell? ⟨go10,(x4_1 : Int).toNat * 5 + 2,none⟩ = some (.int .i64 ((rd_T36 x3_1 x4_1).f2)):=hcc10 2 _ rfl;have hx10_3 : w11.cell? ⟨go10,(x4_1 : Int).toNat * 5 + 3,none⟩ = some (.int .i64 ((rd_T36 x3_1 x4_1).f3)):=hcc10 3 _ rfl;have hx10_4 : w11.cell? ⟨go10,(x4_1 : Int).toNat * 5 + 4,none⟩ = some (.int .i64 ((rd_T36 x3_1 x4_1).f4)):=hcc10 4 _ rfl;have hf10_0 : w11.frozen? ⟨go10,(x4_1 : Int).toNat * 5,none⟩ = false:=hfr10 0;have hf10_1 : w11.frozen? ⟨go10,(x4_1 : Int).toNat * 5 + 1,none⟩ = false:=hfr10 1;have hf10_2 : w11.frozen? ⟨go10,(x4_1 : Int).toNat * 5 + 2,none⟩ = false:=hfr10 2;have hf10_3 : w11.frozen? ⟨go10,(x4_1 : Int).toNat * 5 + 3,none⟩ = false:=hfr10 3;have hf10_4 : w11.frozen? ⟨go10,(x4_1 : Int).toNat * 5 + 4,none⟩ = false:=hfr10 4;clear hcl10 hcc10 hfr10 hM10;replace p10:=eq_true p10;replace q10:=eq_true q10;have HX12:=qn.mk (show Kd.R k36 36 w11 w.heap.size (fun _=>True) (.slice (some ⟨go10,0,none⟩) x3_1.length co10) x3_1 from (by (with_reducible repeat (first|apply Kd.R_alloc|apply Kd.R_drewN|apply Kd.R_drew));exact HO_3.out));obtain ⟨ce12,hcl12,hM12,hcc12,hfr12⟩:=Kd.R_elem HX12.out z36 (x4_1 : Int) (of_decide_eq_true (by first|(with_reducible assumption)|assumption)) (by have h_ : (x4_1 : Int) < ((x3_1.length : Int) : Int):=of_decide_eq_true (by first|(with_reducible assumption)|assumption);first|exact h_|(have e_:=(Kd.R_reads' HO_3.out).1;omega)|simpa using h_);obtain rfl:=k36_openM hM12;have HP12:=Kd.R_seg HX12.out (x4_1 : Int) (of_decide_eq_true (by first|(with_reducible assumption)|assumption)) (by have h_ : (x4_1 : Int) < ((x3_1.length : Int) : Int):=of_decide_eq_true (by first|(with_reducible assumption)|assumption);first|exact h_|(have e_:=(Kd.R_reads' HO_3.out).1;omega)|simpa using h_) (seg:=[.int .i64 t171,.int .i64 t172,.int .i64 t173,.int .i64 t174,.int .i64 t175]) (j:=0) hcl12 hcc12 (show 5 ≤ 5 from by decide) (x':=(⟨t171,t172,t173,t174,t175⟩ : S36)) (k36_mkM _ _ _ (⟨t171,t172,t173,t174,t175⟩ : S36) ) (fun _ hk=>hk);have hx12_0:=hcc12 0 _ rfl;(try simp only [show (k36).sz = 5 from rfl,Nat.mul_one,Nat.add_zero] at hx12_0);have hf12_0:=hfr12 0;(try simp only [show (k36).sz = 5 from rfl,Nat.mul_one,Nat.add_zero] at hf12_0);have hx12_1:=hcc12 1 _ rfl;(try simp only [show (k36).sz = 5 from rfl,Nat.mul_one,Nat.add_zero] at hx12_1);have hf12_1:=hfr12 1;(try simp only [show (k36).sz = 5 from rfl,Nat.mul_one,Nat.add_zero] at hf12_1);have hx12_2:=hcc12 2 _ rfl;(try simp only [show (k36).sz = 5 from rfl,Nat.mul_one,Nat.add_zero] at hx12_2);have hf12_2:=hfr12 2;(try simp only [show (k36).sz = 5 from rfl,Nat.mul_one,Nat.add_zero] at hf12_2);have hx12_3:=hcc12 3 _ rfl;(try simp only [show (k36).sz = 5 from rfl,Nat.mul_one,Nat.add_zero] at hx12_3);have hf12_3:=hfr12 3;(try simp only [show (k36).sz = 5 from rfl,Nat.mul_one,Nat.add_zero] at hf12_3);have hx12_4:=hcc12 4 _ rfl;(try simp only [show (k36).sz = 5 from rfl,Nat.mul_one,Nat.add_zero] at hx12_4);have hf12_4:=hfr12 4;(try simp only [show (k36).sz = 5 from rfl,Nat.mul_one,Nat.add_zero] at hf12_4);clear hcl12 hcc12 hfr12 hM12)|((with_reducible refine gate_store (t:=36) (p:=21) rfl ?_);refine store_event (t:=36) (p:=21) (v:=?vo_w13) (w1:=(((((w11.setCell ⟨go10,(x4_1 : Int).toNat * 5,none⟩ (.int .i64 t171)).setCell ⟨go10,(x4_1 : Int).toNat * 5 + 1,none⟩ (.int .i64 t172)).setCell ⟨go10,(x4_1 : Int).toNat * 5 + 2,none⟩ (.int .i64 t173)).setCell ⟨go10,(x4_1 : Int).toNat * 5 + 3,none⟩ (.int .i64 t174)).setCell ⟨go10,(x4_1 : Int).toNat * 5 + 4,none⟩ (.int .i64 t175))) ?hg ?ho ?hn ?hr ?_;(case ho=>rfl);(case hg=>rfl);(case hn=>rfl);(case hr=>first|(go_simp;done)|(go_simp;rfl));intro w13 hw;have hg : w11.grownBy w13 (some go10):=(by rw [hw];exact HP12.2);have hp_ : Kd.R k36 36 w13 w.heap.size (fun _=>True) (.slice (some ⟨go10,0,none⟩) x3_1.length co10) y176:=(by rw [hw,Ny176.out];exact HP12.1);clear HP12;have n0_:=qn.mk (hp_);have n1_:=qn.mk ((by rw [hw];exact qg (qg (qg (qg (qg (HB.out) GB10.out) GB10.out) GB10.out) GB10.out) GB10.out : Below w.heap.size w w13));clear HO_3;clear HB;have HO_3:=n0_;have HB:=n1_;clear n0_ n1_;clear hg hw hp_))
                go_roundg k1
                case measure=>have:=HK1.out;omega
                case rel=>exact ⟨(y176),(wrap64 (x4_1 + 1)),(by first|rfl|(simp;done)|(simp [*];done)),H',⟨by have:=HK1.out;omega⟩,⟨by (with_reducible repeat (first|apply Kd.R_alloc|apply Kd.R_drewN|apply Kd.R_drew));exact HO_3.out⟩,⟨by repeat (first|(with_reducible first|exact HB.out|apply qf|apply qa|apply qd)|exact HB.out)⟩⟩
              · rw [if_neg c9] at H
                exact absurd H (by simp)
            · rw [if_neg c7] at H
              exact absurd H (by simp)
          · rw [if_neg c6] at H
            have c6b0 : decide (x4_1 < (l0.length : Int)) = false:=decide_eq_false c6
            clear c6
            obtain rfl:=Option.some.inj H
            go_wp2
            go_ret
            exact ⟨_,by first|rfl|(simp [errW_none,errW_some] <;> rfl)|(simp [*,errW_none,errW_some] <;> rfl),by (with_reducible repeat (first|apply Kd.R_alloc|apply Kd.R_drewN|apply Kd.R_drew));exact HO_3.out,by repeat (first|(with_reducible first|exact HB.out|apply qf|apply qa|apply qd)|exact HB.out)⟩
    · rw [if_neg c3] at H
      exact absurd H (by simp)
  · rw [if_neg c2] at H
    exact absurd H (by simp)

/-! ### laws_toGraph: function 35 -/
def laws_toGraph.f (k : Nat) (a0_0 : Int) (l0_1 : List (S148)) : Option (Int × (List (S36))):=(laws_toEdgeS.f k l0_1).bind fun t180=>(some (a0_0,t180))
theorem laws_toGraph.mono : ∀ a0 a1 k,LeO (laws_toGraph.f k a0 a1) (laws_toGraph.f (k + 1) a0 a1):=by
  intro a0 a1 k
  unfold laws_toGraph.f
  repeat' first
      | (with_reducible exact laws_toEdgeS.mono _ _)
      | (with_reducible exact LeO.refl _)
      | (with_reducible exact LeO.none _)
      | (with_reducible refine LeO.ite ?_ ?_)
      | (with_reducible refine LeO.bind ?_ (fun _=>?_))
      | exact laws_toEdgeS.mono _ _
      | exact LeO.none _
      | refine LeO.ite ?_ ?_
      | refine LeO.bind ?_ (fun _=>?_)
set_option maxHeartbeats 8000000 in
set_option maxRecDepth 100000 in
theorem laws_toGraph.calls (k : Nat) (a0_0 : Int) (A0_1 : Option Addr) (c0_1 : Nat) (l0_1 : List (S148)) (r1 : Int) (r2 : List (S36)) (w : World) (hr0_1 : Kd.C k148 w A0_1 l0_1.length l0_1) (hc0_1 : l0_1.length ≤ c0_1) (h : laws_toGraph.f k a0_0 l0_1 = some (r1,r2)) :
    Calls Try.prog 35 #[.agg #[.int .i64 a0_0,.slice A0_1 l0_1.length c0_1]] w fun e w'=>∃ v1_ : Value,e = .returned (.agg #[.int .i64 r1,v1_]) ∧ Kd.R k36 36 w' w.heap.size (fun _=>True) v1_ r2 ∧ Below w.heap.size w w':=by
  have hu65:=Try.underlying65
  have hu26:=Try.underlying26
  have HR0_1:=qn.mk hr0_1
  have HC0_1:=qn.mk hc0_1
  clear hr0_1 hc0_1
  have HB:=qn.mk (Below.refl w.heap.size w)
  have H : ((laws_toEdgeS.f k l0_1).bind fun t180=>(some (a0_0,t180))) = some (r1,r2):=h
  clear h
  replace H:=Option.bind_eq_some_iff.mp H
  obtain ⟨t180,A20,H⟩:=H
  replace H : (some (a0_0,t180)) = some (r1,r2):=H
  have A2:=qn.mk A20
  clear A20
  simp only [Option.some.injEq,Prod.mk.injEq] at H
  obtain ⟨rfl,rfl⟩:=H
  go_enter Try.func35,Try.ntmps35
  go_wp2_with (first|((with_reducible refine gate_dst (N:=1) rfl ?_);refine box_event ?hg (N:=1) ?hd (cs:=#[.int .i64 a0_0,.slice A0_1 l0_1.length c0_1]) (t:=65) ?hr ?_;(case hd=>rfl);(case hg=>rfl);(case hr=>first|(go_simp;done)|(go_simp;rfl));intro gb177 hg w3 hbox hb;have n0_:=hs_ HB hb;have n1_:=qn.mk (hbox);have n2_:=qn.mk ((by rw [hg];exact (qj (by repeat (first|(with_reducible first|exact HB.out|apply qf|apply qa|apply qd)|exact HB.out))) : w.heap.size ≤ gb177));have n3_:=qn.mk ((by rw [hg];exact (qj (by repeat (first|(with_reducible first|exact HB.out|apply qf|apply qa|apply qd)|exact HB.out))) : w.heap.size ≤ gb177));clear HB;have HB:=n0_;have BK177:=n1_;have GW177:=n2_;have GE177:=n3_;clear n0_ n1_ n2_ n3_;clear hb hbox hg)|((with_reducible refine gate_dst (N:=2) rfl ?_);refine box_event ?hg (N:=2) ?hd (cs:=#[.int .i64 0,.slice none 0 0]) (t:=26) ?hr ?_;(case hd=>rfl);(case hg=>rfl);(case hr=>first|(go_simp;done)|(go_simp;rfl));intro gb178 hg w4 hbox hb;have n0_:=bb_ BK177 hb;have n1_:=hs_ HB hb;have n2_:=qn.mk (hbox);have n3_:=qn.mk ((by rw [hg];exact (qj (by repeat (first|(with_reducible first|exact HB.out|apply qf|apply qa|apply qd|refine qg ?_ GE177.out)|exact HB.out))) : w.heap.size ≤ gb178));have n4_:=qn.mk ((by rw [hg];exact (qj (by repeat (first|(with_reducible first|exact HB.out|apply qf|apply qa|apply qd|refine qg ?_ GE177.out)|exact HB.out))) : w.heap.size ≤ gb178));have n5_:=qn.mk ((by rw [hg];exact nl_ BK177 : gb177 ≠ gb178));have n6_:=qn.mk ((by rw [hg];exact ng_ BK177 : gb178 ≠ gb177));clear BK177;clear HB;have BK177:=n0_;have HB:=n1_;have BK178:=n2_;have GW178:=n3_;have GE178:=n4_;have NB177_178:=n5_;have NB178_177:=n6_;clear n0_ n1_ n2_ n3_ n4_ n5_ n6_;clear hb hbox hg)|((with_reducible refine gate_dst (N:=3) rfl ?_);refine box_event ?hg (N:=3) ?hd (cs:=#[.int .i64 0,.slice none 0 0]) (t:=26) ?hr ?_;(case hd=>rfl);(case hg=>rfl);(case hr=>first|(go_simp;done)|(go_simp;rfl));intro gb179 hg w5 hbox hb;have n0_:=bb_ BK177 hb;have n1_:=bb_ BK178 hb;have n2_:=hs_ HB hb;have n3_:=qn.mk (hbox);have n4_:=qn.mk ((by rw [hg];exact (qj (by repeat (first|(with_reducible first|exact HB.out|apply qf|apply qa|apply qd|refine qg ?_ GE177.out|refine qg ?_ GE178.out)|exact HB.out))) : w.heap.size ≤ gb179));have n5_:=qn.mk ((by rw [hg];exact (qj (by repeat (first|(with_reducible first|exact HB.out|apply qf|apply qa|apply qd|refine qg ?_ GE177.out|refine qg ?_ GE178.out)|exact HB.out))) : w.heap.size ≤ gb179));have n6_:=qn.mk ((by rw [hg];exact nl_ BK177 : gb177 ≠ gb179));have n7_:=qn.mk ((by rw [hg];exact ng_ BK177 : gb179 ≠ gb177));have n8_:=qn.mk ((by rw [hg];exact nl_ BK178 : gb178 ≠ gb179));have n9_:=qn.mk ((by rw [hg];exact ng_ BK178 : gb179 ≠ gb178));clear BK177;clear BK178;clear HB;have BK177:=n0_;have BK178:=n1_;have HB:=n2_;have BK179:=n3_;have GW179:=n4_;have GE179:=n5_;have NB177_179:=n6_;have NB179_177:=n7_;have NB178_179:=n8_;have NB179_178:=n9_;clear n0_ n1_ n2_ n3_ n4_ n5_ n6_ n7_ n8_ n9_;clear hb hbox hg;have hnb6:=NB177_178.out;have hnc6:=NB178_177.out;have hnb7:=NB177_179.out;have hnc7:=NB179_177.out;have hcz8_0 : w5.cell? ⟨gb177,0,none⟩ = some (.int .i64 a0_0):=(qh BK177.out 0).trans rfl;have hcz8_1 : w5.cell? ⟨gb177,1,none⟩ = some (.slice A0_1 l0_1.length c0_1):=(qh BK177.out 1).trans rfl;have hfz8_0:=qi BK177.out 0;have hfz8_1:=qi BK177.out 1;have hnb9:=NB179_178.out;have hnc9:=NB178_179.out;have hcz10_0 : w5.cell? ⟨gb179,0,none⟩ = some (.int .i64 0):=(qh BK179.out 0).trans rfl;have hcz10_1 : w5.cell? ⟨gb179,1,none⟩ = some (.slice none 0 0):=(qh BK179.out 1).trans rfl;have hfz10_0:=qi BK179.out 0;have hfz10_1:=qi BK179.out 1)|((with_reducible refine gate_callee (f:=84) rfl ?_);refine goesL_ (some 9) rfl rfl Try.func84 (by kernel_rfl) rfl #[.slice A0_1 l0_1.length c0_1] rfl (by (try simp only [List.map_toArray,List.map_cons,List.map_nil]);first|done|rfl|(simp only [List.length_drop,List.length_take];rfl)) ?_;(with_reducible refine (laws_toEdgeS.calls k _ _ l0_1 t180 _ ?side1 ?side2 A2.out).mono ?_);(case side1=>exact Kd.C_below HR0_1.out (by repeat (first|(with_reducible first|exact HB.out|apply qf|apply qa|apply qd|refine qg ?_ GE177.out|refine qg ?_ GE178.out|refine qg ?_ GE179.out)|exact HB.out)));(case side2=>exact HC0_1.out);rintro e w11 ⟨v181,rfl,ho0,hb⟩;refine ⟨_,rfl,?_⟩;have n0_:=qn.mk (Kd.R_lower ho0 (qj (by repeat (first|(with_reducible first|exact HB.out|apply qf|apply qa|apply qd|refine qg ?_ GE177.out|refine qg ?_ GE178.out|refine qg ?_ GE179.out)|exact HB.out))));have n1_:=qn.mk (ql (g:=gb177) (o:=.cells #[.int .i64 a0_0,.slice A0_1 l0_1.length c0_1] 65 (0,0)) (by (with_reducible repeat (first|refine qb ?_ _|refine qe ?_|refine qc ?_ _));refine blk_far ?_ NB177_179.out _;(with_reducible repeat (first|refine qb ?_ _|refine qe ?_|refine qc ?_ _));exact BK177.out) hb);have n2_:=qn.mk (ql (g:=gb178) (o:=.cells #[.int .i64 0,.slice none 0 0] 26 (0,0)) (by (with_reducible repeat (first|refine qb ?_ _|refine qe ?_|refine qc ?_ _));refine blk_far ?_ NB178_179.out _;(with_reducible repeat (first|refine qb ?_ _|refine qe ?_|refine qc ?_ _));exact BK178.out) hb);have n3_:=qn.mk (ql (g:=gb179) (o:=.cells #[.int .i64 a0_0,.slice none 0 0] 26 (0,0)) (by (with_reducible repeat (first|refine qb ?_ _|refine qe ?_|refine qc ?_ _));refine blk_put (cs:=#[.int .i64 0,.slice none 0 0]) ?_ 0 _ rfl;(with_reducible repeat (first|refine qb ?_ _|refine qe ?_|refine qc ?_ _));exact BK179.out) hb);have n4_:=hs_ HB hb;clear BK177;clear BK178;clear BK179;clear HB;have HO182:=n0_;have BK177:=n1_;have BK178:=n2_;have BK179:=n3_;have HB:=n4_;clear n0_ n1_ n2_ n3_ n4_;(try clear hb);(try clear hb2);(try clear hk);(try clear hi);(try clear ho0);obtain ⟨Ao12,co12,eo12⟩:=Kd.R_slice HO182.out;subst eo12;have hcz13_0 : w11.cell? ⟨gb179,0,none⟩ = some (.int .i64 a0_0):=(qh BK179.out 0).trans rfl;have hcz13_1 : w11.cell? ⟨gb179,1,none⟩ = some (.slice none 0 0):=(qh BK179.out 1).trans rfl;have hfz13_0:=qi BK179.out 0;have hfz13_1:=qi BK179.out 1;have hcz14_0 : w11.cell? ⟨gb178,0,none⟩ = some (.int .i64 0):=(qh BK178.out 0).trans rfl;have hcz14_1 : w11.cell? ⟨gb178,1,none⟩ = some (.slice none 0 0):=(qh BK178.out 1).trans rfl;have hfz14_0:=qi BK178.out 0;have hfz14_1:=qi BK178.out 1))
  refine bodyPost_ret (results_cell_row rfl _ _ gb178 26 #[.int .i64 a0_0,.slice Ao12 t180.length co12] (0,0) _ rfl (by (with_reducible repeat (first|refine qb ?_ _|refine qe ?_|refine qc ?_ _));refine blk_put (cs:=#[.int .i64 a0_0,.slice none 0 0]) ?_ 1 _ rfl;(with_reducible repeat (first|refine qb ?_ _|refine qe ?_|refine qc ?_ _));refine blk_put (cs:=#[.int .i64 0,.slice none 0 0]) ?_ 0 _ rfl;(with_reducible repeat (first|refine qb ?_ _|refine qe ?_|refine qc ?_ _));refine blk_far ?_ NB178_179.out _;(with_reducible repeat (first|refine qb ?_ _|refine qe ?_|refine qc ?_ _));exact BK178.out) Try.underlying26 rfl (by kernel_rfl)) rfl ?_
  exact ⟨_,by first|rfl|(simp [errW_none,errW_some] <;> rfl)|(simp [*,errW_none,errW_some] <;> rfl),by (with_reducible repeat (first|apply Kd.R_alloc|apply Kd.R_drewN|apply Kd.R_drew));exact Kd.R_mono (Kd.R_far (p:=⟨gb178,1,none⟩) (Kd.R_far (p:=⟨gb178,0,none⟩) (Kd.R_far (p:=⟨gb179,1,none⟩) (Kd.R_types (Kd.R_types HO182.out BK179.out (by decide)) BK178.out (by decide)) (fun _ hk=>hk.1.2) (.slice Ao12 t180.length co12)) (fun _ hk=>hk.2) (.int .i64 a0_0)) (fun _ hk=>hk.2) (.slice Ao12 t180.length co12)) (fun _ hk=>trivial),by repeat (first|(with_reducible first|exact HB.out|apply qf|apply qa|apply qd|refine qg ?_ GE177.out|refine qg ?_ GE178.out|refine qg ?_ GE179.out)|exact HB.out)⟩

/-! ### impl_in: function 59 -/
def impl_in.f (a0 : Int) (a1 : Int) (a2 : Int) : Option (Bool):=if a0 ≥ a1 then (some (decide (a0 ≤ a2))) else (some false)
set_option maxHeartbeats 8000000 in
set_option maxRecDepth 100000 in
theorem impl_in.calls (a0 : Int) (a1 : Int) (a2 : Int) (r : Bool) (w : World) (h : impl_in.f a0 a1 a2 = some r) :
    Calls Try.prog 59 #[.int .i64 a0,.int .i64 a1,.int .i64 a2] w fun e w'=>e = .returned (.bool r) ∧ Drawn0 w w':=by
  have H : (if a0 ≥ a1 then (some (decide (a0 ≤ a2))) else (some false)) = some r:=h
  clear h
  by_cases c4 : a0 ≥ a1
  · rw [if_pos c4] at H
    have c4b0 : decide (a1 ≤ a0) = true:=decide_eq_true c4
    clear c4
    obtain rfl:=Option.some.inj H
    go_enter Try.func59,Try.ntmps59
    go_wp2
    go_ret
    exact ⟨by first|rfl|(simp;done)|(simp [*];done),by repeat (first|exact Drawn0.refl _|apply Drawn0.step)⟩
  · rw [if_neg c4] at H
    have c4b0 : decide (a1 ≤ a0) = false:=decide_eq_false c4
    clear c4
    obtain rfl:=Option.some.inj H
    go_enter Try.func59,Try.ntmps59
    go_wp2
    go_ret
    exact ⟨by first|rfl|(simp;done)|(simp [*];done),by repeat (first|exact Drawn0.refl _|apply Drawn0.step)⟩

end Go.Proofs.Ytfmemcffbfahhaa.QFnExactCountMatches
