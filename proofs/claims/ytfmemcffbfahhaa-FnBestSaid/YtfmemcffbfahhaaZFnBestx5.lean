/- Lean functions for the Go functions that the law FnBest reaches, and that each Go function comes to just its Lean function's answer; by a program of this session. -/
import Derived.Test.YtfmemcffbfahhaaZFnBestx0
import Derived.Test.YtfmemcffbfahhaaZFnBestx2
import Derived.Test.YtfmemcffbfahhaaZFnBestx4
namespace Go.Proofs.Ytfmemcffbfahhaa.QFnBest
open Go.RowKit Go.Proofs.YtfmemcffbfahhaaW.PrintWords Go.Proofs.YtfmemcffbfahhaaW.PrintLast Go.Proofs.YtfmemcffbfahhaaW.PrintMore
attribute [local go_sem] max2_int min2_int max_two min_two max_three min_three max_four min_four   -- for this text's walks alone
set_option linter.unusedVariables false
set_option linter.unusedSimpArgs false

/-! ### spec_CountMatches: function 34 -/
def spec_CountMatches.f (k : Nat) (a0_0 : Int) (l0_1 : List (S36)) : Option (Int):=(spec_GraphOk.f k a0_0 l0_1).bind fun t153=>(if t153 = true then ((spec_l09Best.f k a0_0 l0_1 0 (([] : List Int))).bind fun bt157=>(some bt157.2.2.2)) else (some (-1)))
theorem spec_CountMatches.mono : ∀ a0 a1 k,LeO (spec_CountMatches.f k a0 a1) (spec_CountMatches.f (k + 1) a0 a1):=by
 intro a0 a1 k
 unfold spec_CountMatches.f
 repeat' first
   | (with_reducible exact spec_GraphOk.mono _ _ _)
   | (with_reducible exact spec_l09Best.mono _ _ _ _ _)
   | (with_reducible exact LeO.refl _)
   | (with_reducible exact LeO.none _)
   | (with_reducible refine LeO.ite ?_ ?_)
   | (with_reducible refine LeO.bind ?_ (fun _=>?_))
   | exact spec_GraphOk.mono _ _ _
   | exact spec_l09Best.mono _ _ _ _ _
   | exact LeO.none _
   | refine LeO.ite ?_ ?_
   | refine LeO.bind ?_ (fun _=>?_)
set_option maxHeartbeats 8000000 in
set_option maxRecDepth 100000 in
theorem spec_CountMatches.calls (k : Nat) (a0_0 : Int) (A0_1 : Option Addr) (c0_1 : Nat) (l0_1 : List (S36)) (r : Int) (w : World) (hr0_1 : Kd.C k36 w A0_1 l0_1.length l0_1) (hc0_1 : l0_1.length ≤ c0_1) (h : spec_CountMatches.f k a0_0 l0_1 = some r) :
  Calls Try.prog 34 #[.agg #[.int .i64 a0_0,.slice A0_1 l0_1.length c0_1]] w fun e w'=>e = .returned (.int .i64 r) ∧ Below w.heap.size w w':=by
 have hu26:=Try.underlying26
 have hu72:=Try.underlying72
 have HR0_1:=qn.mk hr0_1
 have HC0_1:=qn.mk hc0_1
 clear hr0_1 hc0_1
 have HB:=qn.mk (Below.refl w.heap.size w)
 have H : ((spec_GraphOk.f k a0_0 l0_1).bind fun t153=>(if t153 = true then ((spec_l09Best.f k a0_0 l0_1 0 (([] : List Int))).bind fun bt157=>(some bt157.2.2.2)) else (some (-1)))) = some r:=h
 clear h
 replace H:=Option.bind_eq_some_iff.mp H
 obtain ⟨t153,A20,H⟩:=H
 replace H : (if t153 = true then ((spec_l09Best.f k a0_0 l0_1 0 (([] : List Int))).bind fun bt157=>(some bt157.2.2.2)) else (some (-1))) = some r:=H
 have A2:=qn.mk A20
 clear A20
 by_cases c3 : t153 = true
 ·subst c3
  have H1 : ((spec_l09Best.f k a0_0 l0_1 0 (([] : List Int))).bind fun bt157=>(some bt157.2.2.2)) = some r:=by rw [if_pos rfl] at H;exact H
  clear H
  have H:=H1
  clear H1
  obtain ⟨y154,hy154⟩ : ∃ y_ : List Int,y_ = (([] : List Int)):=⟨_,rfl⟩
  replace H : ((spec_l09Best.f k a0_0 l0_1 0 y154).bind fun bt157=>(some bt157.2.2.2)) = some r:=by first|(rw [hy154];with_reducible exact H)|(have H2_:=(Option.bind_some _ _).symm.trans H;rw [hy154];with_reducible exact H2_)|(have H2_:=(Option.bind_some _ _).symm.trans H;with_reducible exact H2_)|with_reducible exact H|(rw [hy154];exact H)|exact H
  have Ny154:=qn.mk hy154
  clear hy154
  replace H:=Option.bind_eq_some_iff.mp H
  obtain ⟨⟨t157,t158,t159,t160⟩,A40,H⟩:=H
  replace H : (some t160) = some r:=H
  have A4:=qn.mk A40
  clear A40
  obtain rfl:=Option.some.inj H
  go_enter Try.func34,Try.ntmps34
  go_wp2_with (first|((with_reducible refine gate_dst (N:=1) rfl ?_);refine box_event ?hg (N:=1) ?hd (cs:=#[.int .i64 a0_0,.slice A0_1 l0_1.length c0_1]) (t:=26) ?hr ?_;(case hd=>rfl);(case hg=>rfl);(case hr=>first|(go_simp;done)|(go_simp;rfl));intro gb152 hg w5 hbox hb;have n0_:=hs_ HB hb;have n1_:=qn.mk (hbox);have n2_:=qn.mk ((by rw [hg];exact (qj (by repeat (first|(with_reducible first|exact HB.out|apply qf|apply qa|apply qd)|exact HB.out))) : w.heap.size ≤ gb152));have n3_:=qn.mk ((by rw [hg];exact (qj (by repeat (first|(with_reducible first|exact HB.out|apply qf|apply qa|apply qd)|exact HB.out))) : w.heap.size ≤ gb152));clear HB;have HB:=n0_;have BK152:=n1_;have GW152:=n2_;have GE152:=n3_;clear n0_ n1_ n2_ n3_;clear hb hbox hg;have hcz6_0 : w5.cell? ⟨gb152,0,none⟩ = some (.int .i64 a0_0):=(qh BK152.out 0).trans rfl;have hcz6_1 : w5.cell? ⟨gb152,1,none⟩ = some (.slice A0_1 l0_1.length c0_1):=(qh BK152.out 1).trans rfl;have hfz6_0:=qi BK152.out 0;have hfz6_1:=qi BK152.out 1)|((with_reducible refine gate_callee (f:=82) rfl ?_);refine goesL_ (some 6) rfl rfl Try.func82 (by kernel_rfl) rfl #[.agg #[.int .i64 a0_0,.slice A0_1 l0_1.length c0_1]] rfl (by (try simp only [List.map_toArray,List.map_cons,List.map_nil]);first|done|rfl|(simp only [List.length_drop,List.length_take];rfl)) ?_;(with_reducible refine (spec_GraphOk.calls k a0_0 _ _ l0_1 true _ ?side1 ?side2 A2.out).mono ?_);(case side1=>repeat (first|exact (Kd.C_below HR0_1.out HB.out)|(with_reducible refine Kd.C_alloc ?_ _)|(with_reducible refine Kd.C_drewN ?_ _)|(with_reducible refine Kd.C_drew ?_)));(case side2=>exact HC0_1.out);rintro e w7 ⟨rfl,hb⟩;refine ⟨_,rfl,?_⟩;have n0_:=bb_ BK152 hb;have n1_:=hs_ HB hb;clear BK152;clear HB;have BK152:=n0_;have HB:=n1_;clear n0_ n1_;(try clear hb);(try clear hb2);(try clear hk);(try clear hi);have hcz8_0 : w7.cell? ⟨gb152,0,none⟩ = some (.int .i64 a0_0):=(qh BK152.out 0).trans rfl;have hcz8_1 : w7.cell? ⟨gb152,1,none⟩ = some (.slice A0_1 l0_1.length c0_1):=(qh BK152.out 1).trans rfl;have hfz8_0:=qi BK152.out 0;have hfz8_1:=qi BK152.out 1)|((with_reducible refine gate_dst (N:=10) rfl ?_);refine Kd.R_lit (Kd.int .i64) _ 3 ?hg (N:=10) ?hd (xs:=([] : List Int)) (inner:=[]) (ok:=fun _=>True) (okp:=fun _=>True) ?hr ?hp (fun _ hk=>hk) trivial (Below.refl _ _) (Nat.le_refl _) (by simp) ?_;(case hd=>rfl);(case hg=>rfl);(case hr=>first|(go_simp;done)|(go_simp;rfl));(case hp=>exact (Reps.none _ _));intro v155 w9 ho10 hb hg_ hnew_;clear hg_ hnew_;(first|rw [← Ny154.out] at ho10|(simp only [Int.reduceToNat] at ho10;rw [← Ny154.out] at ho10));have n0_:=qn.mk (Kd.R_lower ho10 (qj (by repeat (first|(with_reducible first|exact HB.out|apply qf|apply qa|apply qd|refine qg ?_ GE152.out)|exact HB.out))));have n1_:=bb_ BK152 hb;have n2_:=hs_ HB hb;clear BK152;clear HB;have HO156:=n0_;have BK152:=n1_;have HB:=n2_;clear n0_ n1_ n2_;clear hb ho10;obtain ⟨Ao11,co11,eo11⟩:=Kd.R_slice HO156.out;subst eo11)|((with_reducible refine gate_callee (f:=83) rfl ?_);refine goesL_ (some 11) rfl rfl Try.func83 (by kernel_rfl) rfl #[.agg #[.int .i64 a0_0,.slice A0_1 l0_1.length c0_1],.int .i64 0,.slice Ao11 y154.length co11] rfl (by (try simp only [List.map_toArray,List.map_cons,List.map_nil]);first|done|rfl|(simp only [List.length_drop,List.length_take];rfl)) ?_;(with_reducible refine (spec_l09Best.calls k a0_0 _ _ l0_1 0 _ _ y154 t157 t158 t159 t160 _ ?side1 ?side2 ?side3 ?side4 A4.out).mono ?_);(case side1=>repeat (first|exact (Kd.C_below HR0_1.out HB.out)|(with_reducible refine Kd.C_alloc ?_ _)|(with_reducible refine Kd.C_drewN ?_ _)|(with_reducible refine Kd.C_drew ?_)));(case side2=>exact HC0_1.out);(case side3=>repeat (first|exact (Kd.R_reads' HO156.out).2.2|(with_reducible refine Kd.C_alloc ?_ _)|(with_reducible refine Kd.C_drewN ?_ _)|(with_reducible refine Kd.C_drew ?_)));(case side4=>exact (Kd.R_reads' HO156.out).2.1);rintro e w12 ⟨rfl,hb⟩;refine ⟨_,rfl,?_⟩;have n0_:=rb_ HO156 hb;have n1_:=bb_ BK152 hb;have n2_:=hs_ HB hb;clear HO156;clear BK152;clear HB;have HO156:=n0_;have BK152:=n1_;have HB:=n2_;clear n0_ n1_ n2_;(try clear hb);(try clear hb2);(try clear hk);(try clear hi))|((with_reducible refine gate_dst (N:=3) rfl ?_);refine box_event ?hg (N:=3) ?hd (cs:=#[.int .i64 0,.int .i64 0,.int .i64 0]) (t:=72) ?hr ?_;(case hd=>rfl);(case hg=>rfl);(case hr=>first|(go_simp;done)|(go_simp;rfl));intro gb161 hg w13 hbox hb;have n0_:=rb_ HO156 hb;have n1_:=bb_ BK152 hb;have n2_:=hs_ HB hb;have n3_:=qn.mk (hbox);have n4_:=qn.mk ((by rw [hg];exact (qj (by repeat (first|(with_reducible first|exact HB.out|apply qf|apply qa|apply qd|refine qg ?_ GE152.out)|exact HB.out))) : w.heap.size ≤ gb161));have n5_:=qn.mk ((by rw [hg];exact (qj (by repeat (first|(with_reducible first|exact HB.out|apply qf|apply qa|apply qd|refine qg ?_ GE152.out)|exact HB.out))) : w.heap.size ≤ gb161));have n6_:=qn.mk ((by rw [hg];exact nl_ BK152 : gb152 ≠ gb161));have n7_:=qn.mk ((by rw [hg];exact ng_ BK152 : gb161 ≠ gb152));clear HO156;clear BK152;clear HB;have HO156:=n0_;have BK152:=n1_;have HB:=n2_;have BK161:=n3_;have GW161:=n4_;have GE161:=n5_;have NB152_161:=n6_;have NB161_152:=n7_;clear n0_ n1_ n2_ n3_ n4_ n5_ n6_ n7_;clear hb hbox hg;have hnb14:=NB161_152.out;have hnc14:=NB152_161.out;have hcz15_0 : w13.cell? ⟨gb161,0,none⟩ = some (.int .i64 0):=(qh BK161.out 0).trans rfl;have hcz15_1 : w13.cell? ⟨gb161,1,none⟩ = some (.int .i64 0):=(qh BK161.out 1).trans rfl;have hcz15_2 : w13.cell? ⟨gb161,2,none⟩ = some (.int .i64 0):=(qh BK161.out 2).trans rfl;have hfz15_0:=qi BK161.out 0;have hfz15_1:=qi BK161.out 1;have hfz15_2:=qi BK161.out 2))
  go_ret
  exact ⟨by first|rfl|(simp [errW_none,errW_some] <;> rfl)|(simp [*,errW_none,errW_some] <;> rfl),by repeat (first|(with_reducible first|exact HB.out|apply qf|apply qa|apply qd|refine qg ?_ GE152.out|refine qg ?_ GE161.out)|exact HB.out)⟩
 ·replace c3:=Bool.eq_false_iff.mpr c3
  subst c3
  have H1 : (some (-1)) = some r:=by rw [if_neg (show ¬ (false = true) by decide)] at H;exact H
  clear H
  have H:=H1
  clear H1
  obtain rfl:=Option.some.inj H
  go_enter Try.func34,Try.ntmps34
  go_wp2_with (first|((with_reducible refine gate_dst (N:=1) rfl ?_);refine box_event ?hg (N:=1) ?hd (cs:=#[.int .i64 a0_0,.slice A0_1 l0_1.length c0_1]) (t:=26) ?hr ?_;(case hd=>rfl);(case hg=>rfl);(case hr=>first|(go_simp;done)|(go_simp;rfl));intro gb152 hg w16 hbox hb;have n0_:=hs_ HB hb;have n1_:=qn.mk (hbox);have n2_:=qn.mk ((by rw [hg];exact (qj (by repeat (first|(with_reducible first|exact HB.out|apply qf|apply qa|apply qd)|exact HB.out))) : w.heap.size ≤ gb152));have n3_:=qn.mk ((by rw [hg];exact (qj (by repeat (first|(with_reducible first|exact HB.out|apply qf|apply qa|apply qd)|exact HB.out))) : w.heap.size ≤ gb152));clear HB;have HB:=n0_;have BK152:=n1_;have GW152:=n2_;have GE152:=n3_;clear n0_ n1_ n2_ n3_;clear hb hbox hg;have hcz17_0 : w16.cell? ⟨gb152,0,none⟩ = some (.int .i64 a0_0):=(qh BK152.out 0).trans rfl;have hcz17_1 : w16.cell? ⟨gb152,1,none⟩ = some (.slice A0_1 l0_1.length c0_1):=(qh BK152.out 1).trans rfl;have hfz17_0:=qi BK152.out 0;have hfz17_1:=qi BK152.out 1)|((with_reducible refine gate_callee (f:=82) rfl ?_);refine goesL_ (some 6) rfl rfl Try.func82 (by kernel_rfl) rfl #[.agg #[.int .i64 a0_0,.slice A0_1 l0_1.length c0_1]] rfl (by (try simp only [List.map_toArray,List.map_cons,List.map_nil]);first|done|rfl|(simp only [List.length_drop,List.length_take];rfl)) ?_;(with_reducible refine (spec_GraphOk.calls k a0_0 _ _ l0_1 false _ ?side1 ?side2 A2.out).mono ?_);(case side1=>repeat (first|exact (Kd.C_below HR0_1.out HB.out)|(with_reducible refine Kd.C_alloc ?_ _)|(with_reducible refine Kd.C_drewN ?_ _)|(with_reducible refine Kd.C_drew ?_)));(case side2=>exact HC0_1.out);rintro e w18 ⟨rfl,hb⟩;refine ⟨_,rfl,?_⟩;have n0_:=bb_ BK152 hb;have n1_:=hs_ HB hb;clear BK152;clear HB;have BK152:=n0_;have HB:=n1_;clear n0_ n1_;(try clear hb);(try clear hb2);(try clear hk);(try clear hi)))
  go_ret
  exact ⟨by first|rfl|(simp [errW_none,errW_some] <;> rfl)|(simp [*,errW_none,errW_some] <;> rfl),by repeat (first|(with_reducible first|exact HB.out|apply qf|apply qa|apply qd|refine qg ?_ GE152.out)|exact HB.out)⟩

/-! ### impl_in: function 59 -/
def impl_in.f (a0 : Int) (a1 : Int) (a2 : Int) : Option (Bool):=if a0 ≥ a1 then (some (decide (a0 ≤ a2))) else (some false)
set_option maxHeartbeats 8000000 in
set_option maxRecDepth 100000 in
theorem impl_in.calls (a0 : Int) (a1 : Int) (a2 : Int) (r : Bool) (w : World) (h : impl_in.f a0 a1 a2 = some r) :
  Calls Try.prog 59 #[.int .i64 a0,.int .i64 a1,.int .i64 a2] w fun e w'=>e = .returned (.bool r) ∧ Drawn0 w w':=by
 have H : (if a0 ≥ a1 then (some (decide (a0 ≤ a2))) else (some false)) = some r:=h
 clear h
 by_cases c4 : a0 ≥ a1
 ·rw [if_pos c4] at H
  have c4b0 : decide (a1 ≤ a0) = true:=decide_eq_true c4
  clear c4
  obtain rfl:=Option.some.inj H
  go_enter Try.func59,Try.ntmps59
  go_wp2
  go_ret
  exact ⟨by first|rfl|(simp;done)|(simp [*];done),by repeat (first|exact Drawn0.refl _|apply Drawn0.step)⟩
 ·rw [if_neg c4] at H
  have c4b0 : decide (a1 ≤ a0) = false:=decide_eq_false c4
  clear c4
  obtain rfl:=Option.some.inj H
  go_enter Try.func59,Try.ntmps59
  go_wp2
  go_ret
  exact ⟨by first|rfl|(simp;done)|(simp [*];done),by repeat (first|exact Drawn0.refl _|apply Drawn0.step)⟩

/-! ### impl_GraphOk: function 16 -/
mutual
def impl_GraphOk.l0 : Nat → List (S36) → Int → Int → Int → List (S36) → Option (Bool)
 | 0,_,_,_,_,_=>none
 | k + 1,x11,x12,x13,x163000,x163001=>if x13 < x12 then (if 0 ≤ x13 then (if x13 < (x11.length : Int) then ((impl_in.f ((rd_T36 x11 x13).f0) 0 (wrap64 (x163000 - 1))).bind fun t166=>(if t166 = true then ((impl_in.f ((rd_T36 x11 x13).f1) 0 (wrap64 (x163000 - 1))).bind fun t167=>(if t167 = true then (if ((rd_T36 x11 x13).f0) ≥ ((rd_T36 x11 x13).f1) then (none) else ((impl_in.f ((rd_T36 x11 x13).f2) 0 50).bind fun t168=>(if t168 = true then ((impl_in.f ((rd_T36 x11 x13).f3) 0 50).bind fun t169=>(if t169 = true then ((impl_in.f ((rd_T36 x11 x13).f4) 0 50).bind fun t170=>(impl_GraphOk.j1 k x13 x11 x12 x13 (!t170) x163000 x163001 ((rd_T36 x11 x13).f0) ((rd_T36 x11 x13).f1) ((rd_T36 x11 x13).f2) ((rd_T36 x11 x13).f3) ((rd_T36 x11 x13).f4))) else (none))) else (none)))) else (none))) else (none))) else (none)) else (none)) else (some true)
def impl_GraphOk.j1 : Nat → Int → List (S36) → Int → Int → Bool → Int → List (S36) → Int → Int → Int → Int → Int → Option (Bool)
 | 0,_,_,_,_,_,_,_,_,_,_,_,_=>none
 | k + 1,x3,x11,x12,x13,x58,x163000,x163001,x166000,x166001,x166002,x166003,x166004=>if x58 = true then (none) else (if x3 > 0 then (if 0 ≤ (wrap64 (x3 - 1)) then (if (wrap64 (x3 - 1)) < (x163001.length : Int) then (if ((rd_T36 x163001 (wrap64 (x3 - 1))).f0) > x166000 then (none) else (if ((rd_T36 x163001 (wrap64 (x3 - 1))).f0) = x166000 then (if ((rd_T36 x163001 (wrap64 (x3 - 1))).f1) ≥ x166001 then (none) else (impl_GraphOk.l0 k x11 x12 (wrap64 (x13 + 1)) x163000 x163001)) else (impl_GraphOk.l0 k x11 x12 (wrap64 (x13 + 1)) x163000 x163001))) else (none)) else (none)) else (impl_GraphOk.l0 k x11 x12 (wrap64 (x13 + 1)) x163000 x163001))
end
def impl_GraphOk.f (k : Nat) (a0_0 : Int) (l0_1 : List (S36)) : Option (Bool):=(impl_in.f a0_0 0 9).bind fun t163=>(if t163 = true then (impl_GraphOk.l0 k l0_1 (l0_1.length : Int) 0 a0_0 l0_1) else (none))
theorem impl_GraphOk.mono_l : ∀ k,(∀ y0 y1 y2 y3 y4,LeO (impl_GraphOk.l0 k y0 y1 y2 y3 y4) (impl_GraphOk.l0 (k + 1) y0 y1 y2 y3 y4)) ∧ (∀ y0 y1 y2 y3 y4 y5 y6 y7 y8 y9 y10 y11,LeO (impl_GraphOk.j1 k y0 y1 y2 y3 y4 y5 y6 y7 y8 y9 y10 y11) (impl_GraphOk.j1 (k + 1) y0 y1 y2 y3 y4 y5 y6 y7 y8 y9 y10 y11))
 | 0=>⟨fun _ _ _ _ _ r h=>by simp [impl_GraphOk.l0] at h,fun _ _ _ _ _ _ _ _ _ _ _ _ r h=>by simp [impl_GraphOk.j1] at h⟩
 | k + 1=>by
  obtain ⟨ih0,ih1⟩:=impl_GraphOk.mono_l k
  refine ⟨?_,?_⟩
  ·intro y0 y1 y2 y3 y4
   unfold impl_GraphOk.l0
   repeat' first
   | (with_reducible exact ih0 _ _ _ _ _)
   | (with_reducible exact ih1 _ _ _ _ _ _ _ _ _ _ _ _)
   | (with_reducible exact LeO.refl _)
   | (with_reducible exact LeO.none _)
   | (with_reducible refine LeO.ite ?_ ?_)
   | (with_reducible refine LeO.bind ?_ (fun _=>?_))
   | exact ih0 _ _ _ _ _
   | exact ih1 _ _ _ _ _ _ _ _ _ _ _ _
   | exact LeO.none _
   | refine LeO.ite ?_ ?_
   | refine LeO.bind ?_ (fun _=>?_)
  ·intro y0 y1 y2 y3 y4 y5 y6 y7 y8 y9 y10 y11
   unfold impl_GraphOk.j1
   repeat' first
   | (with_reducible exact ih0 _ _ _ _ _)
   | (with_reducible exact ih1 _ _ _ _ _ _ _ _ _ _ _ _)
   | (with_reducible exact LeO.refl _)
   | (with_reducible exact LeO.none _)
   | (with_reducible refine LeO.ite ?_ ?_)
   | (with_reducible refine LeO.bind ?_ (fun _=>?_))
   | exact ih0 _ _ _ _ _
   | exact ih1 _ _ _ _ _ _ _ _ _ _ _ _
   | exact LeO.none _
   | refine LeO.ite ?_ ?_
   | refine LeO.bind ?_ (fun _=>?_)
theorem impl_GraphOk.mono : ∀ a0 a1 k,LeO (impl_GraphOk.f k a0 a1) (impl_GraphOk.f (k + 1) a0 a1):=by
 intro a0 a1 k
 obtain ⟨ih0,ih1⟩:=impl_GraphOk.mono_l k
 unfold impl_GraphOk.f
 repeat' first
   | (with_reducible exact ih0 _ _ _ _ _)
   | (with_reducible exact ih1 _ _ _ _ _ _ _ _ _ _ _ _)
   | (with_reducible exact LeO.refl _)
   | (with_reducible exact LeO.none _)
   | (with_reducible refine LeO.ite ?_ ?_)
   | (with_reducible refine LeO.bind ?_ (fun _=>?_))
   | exact ih0 _ _ _ _ _
   | exact ih1 _ _ _ _ _ _ _ _ _ _ _ _
   | exact LeO.none _
   | refine LeO.ite ?_ ?_
   | refine LeO.bind ?_ (fun _=>?_)
set_option maxHeartbeats 8000000 in
set_option maxRecDepth 100000 in
theorem impl_GraphOk.calls (k : Nat) (a0_0 : Int) (A0_1 : Option Addr) (c0_1 : Nat) (l0_1 : List (S36)) (r : Bool) (w : World) (hr0_1 : Kd.C k36 w A0_1 l0_1.length l0_1) (hc0_1 : l0_1.length ≤ c0_1) (h : impl_GraphOk.f k a0_0 l0_1 = some r) :
  Calls Try.prog 16 #[.agg #[.int .i64 a0_0,.slice A0_1 l0_1.length c0_1]] w fun e w'=>e = .returned (.bool r) ∧ Below w.heap.size w w':=by
 have hu26:=Try.underlying26
 have hu36:=Try.underlying36
 have HR0_1:=qn.mk hr0_1
 have HC0_1:=qn.mk hc0_1
 clear hr0_1 hc0_1
 have HB:=qn.mk (Below.refl w.heap.size w)
 have H : ((impl_in.f a0_0 0 9).bind fun t163=>(if t163 = true then (impl_GraphOk.l0 k l0_1 (l0_1.length : Int) 0 a0_0 l0_1) else (none))) = some r:=h
 clear h
 replace H:=Option.bind_eq_some_iff.mp H
 obtain ⟨t163,A20,H⟩:=H
 replace H : (if t163 = true then (impl_GraphOk.l0 k l0_1 (l0_1.length : Int) 0 a0_0 l0_1) else (none)) = some r:=H
 have A2:=qn.mk A20
 clear A20
 by_cases c3 : t163 = true
 ·subst c3
  have H1 : (impl_GraphOk.l0 k l0_1 (l0_1.length : Int) 0 a0_0 l0_1) = some r:=by rw [if_pos rfl] at H;exact H
  clear H
  have H:=H1
  clear H1
  have H':=qn.mk H
  clear H
  go_enter Try.func16,Try.ntmps16
  go_wp2_with (first|((with_reducible refine gate_dst (N:=1) rfl ?_);refine box_event ?hg (N:=1) ?hd (cs:=#[.int .i64 a0_0,.slice A0_1 l0_1.length c0_1]) (t:=26) ?hr ?_;(case hd=>rfl);(case hg=>rfl);(case hr=>first|(go_simp;done)|(go_simp;rfl));intro gb162 hg w4 hbox hb;have n0_:=hs_ HB hb;have n1_:=qn.mk (hbox);have n2_:=qn.mk ((by rw [hg];exact (qj (by repeat (first|(with_reducible first|exact HB.out|apply qf|apply qa|apply qd)|exact HB.out))) : w.heap.size ≤ gb162));have n3_:=qn.mk ((by rw [hg];exact (qj (by repeat (first|(with_reducible first|exact HB.out|apply qf|apply qa|apply qd)|exact HB.out))) : w.heap.size ≤ gb162));clear HB;have HB:=n0_;have BK162:=n1_;have GW162:=n2_;have GE162:=n3_;clear n0_ n1_ n2_ n3_;clear hb hbox hg;have hcz5_0 : w4.cell? ⟨gb162,0,none⟩ = some (.int .i64 a0_0):=(qh BK162.out 0).trans rfl;have hcz5_1 : w4.cell? ⟨gb162,1,none⟩ = some (.slice A0_1 l0_1.length c0_1):=(qh BK162.out 1).trans rfl;have hfz5_0:=qi BK162.out 0;have hfz5_1:=qi BK162.out 1)|(go_at_call 59;(with_reducible refine (impl_in.calls a0_0 0 9 true _ A2.out).mono ?_);rintro e w' ⟨rfl,⟨nd,rfl⟩⟩;(try first|exact ⟨rfl,_,World.drewN_drewN _ _ _⟩|exact ⟨rfl,_,Eq.trans (World.drewN_drewN _ _ _) (congrArg (World.drewN _) (Nat.add_assoc _ _ _))⟩)))
  repeat (go_quiet (first|((with_reducible refine gate_dst (N:=1) rfl ?_);refine box_event ?hg (N:=1) ?hd (cs:=#[.int .i64 a0_0,.slice A0_1 l0_1.length c0_1]) (t:=26) ?hr ?_;(case hd=>rfl);(case hg=>rfl);(case hr=>first|(go_simp;done)|(go_simp;rfl));intro gb162 hg w4 hbox hb;have n0_:=hs_ HB hb;have n1_:=qn.mk (hbox);have n2_:=qn.mk ((by rw [hg];exact (qj (by repeat (first|(with_reducible first|exact HB.out|apply qf|apply qa|apply qd)|exact HB.out))) : w.heap.size ≤ gb162));have n3_:=qn.mk ((by rw [hg];exact (qj (by repeat (first|(with_reducible first|exact HB.out|apply qf|apply qa|apply qd)|exact HB.out))) : w.heap.size ≤ gb162));clear HB;have HB:=n0_;have BK162:=n1_;have GW162:=n2_;have GE162:=n3_;clear n0_ n1_ n2_ n3_;clear hb hbox hg;have hcz5_0 : w4.cell? ⟨gb162,0,none⟩ = some (.int .i64 a0_0):=(qh BK162.out 0).trans rfl;have hcz5_1 : w4.cell? ⟨gb162,1,none⟩ = some (.slice A0_1 l0_1.length c0_1):=(qh BK162.out 1).trans rfl;have hfz5_0:=qi BK162.out 0;have hfz5_1:=qi BK162.out 1)|(go_at_call 59;(with_reducible refine (impl_in.calls a0_0 0 9 true _ A2.out).mono ?_);rintro e w' ⟨rfl,⟨nd,rfl⟩⟩;(try first|exact ⟨rfl,_,World.drewN_drewN _ _ _⟩|exact ⟨rfl,_,Eq.trans (World.drewN_drewN _ _ _) (congrArg (World.drewN _) (Nat.add_assoc _ _ _))⟩)));try go_wp2_with (first|((with_reducible refine gate_dst (N:=1) rfl ?_);refine box_event ?hg (N:=1) ?hd (cs:=#[.int .i64 a0_0,.slice A0_1 l0_1.length c0_1]) (t:=26) ?hr ?_;(case hd=>rfl);(case hg=>rfl);(case hr=>first|(go_simp;done)|(go_simp;rfl));intro gb162 hg w4 hbox hb;have n0_:=hs_ HB hb;have n1_:=qn.mk (hbox);have n2_:=qn.mk ((by rw [hg];exact (qj (by repeat (first|(with_reducible first|exact HB.out|apply qf|apply qa|apply qd)|exact HB.out))) : w.heap.size ≤ gb162));have n3_:=qn.mk ((by rw [hg];exact (qj (by repeat (first|(with_reducible first|exact HB.out|apply qf|apply qa|apply qd)|exact HB.out))) : w.heap.size ≤ gb162));clear HB;have HB:=n0_;have BK162:=n1_;have GW162:=n2_;have GE162:=n3_;clear n0_ n1_ n2_ n3_;clear hb hbox hg;have hcz5_0 : w4.cell? ⟨gb162,0,none⟩ = some (.int .i64 a0_0):=(qh BK162.out 0).trans rfl;have hcz5_1 : w4.cell? ⟨gb162,1,none⟩ = some (.slice A0_1 l0_1.length c0_1):=(qh BK162.out 1).trans rfl;have hfz5_0:=qi BK162.out 0;have hfz5_1:=qi BK162.out 1)|(go_at_call 59;(with_reducible refine (impl_in.calls a0_0 0 9 true _ A2.out).mono ?_);rintro e w' ⟨rfl,⟨nd,rfl⟩⟩;(try first|exact ⟨rfl,_,World.drewN_drewN _ _ _⟩|exact ⟨rfl,_,Eq.trans (World.drewN_drewN _ _ _) (congrArg (World.drewN _) (Nat.add_assoc _ _ _))⟩))))
  go_loopg [13] k (fun kq v13 w'=>∃ (x13_1 : Int),v13 = .int .i64 x13_1 ∧ qn (impl_GraphOk.l0 kq l0_1 (l0_1.length : Int) x13_1 a0_0 l0_1 = some r) ∧ qn (kq ≤ k) ∧ qn (w'.heap[gb162]? = some (.cells #[.int .i64 a0_0,(.slice A0_1 l0_1.length c0_1)] 26 (0,0))) ∧ qn (Below w.heap.size w w'))
  case atStart=>exact ⟨(0),(by first|rfl|(simp;done)|(simp [*];done)),H',⟨Nat.le_refl _⟩,⟨by (with_reducible repeat (first|refine qb ?_ _|refine qe ?_|refine qc ?_ _));exact BK162.out⟩,⟨by repeat (first|(with_reducible first|exact HB.out|apply qf|apply qa|apply qd|refine qg ?_ GE162.out)|exact HB.out)⟩⟩
  case round =>
   clear H'
   try clear c1
   try clear p2
   try clear c3
   try clear hcz5_0
   try clear hcz5_1
   try clear hfz5_0
   try clear hfz5_1
   obtain ⟨x13_1,rfl,HA,HK1,BK162,HB⟩:=hrel
   cases gk with
   | zero=>exact absurd HA.out (by simp [impl_GraphOk.l0])
   | succ k1 =>
    have H:=HA.out
    clear HA
    simp only [impl_GraphOk.l0] at H
    by_cases c6 : x13_1 < (l0_1.length : Int)
    ·rw [if_pos c6] at H
     have c6b0 : decide (x13_1 < (l0_1.length : Int)) = true:=decide_eq_true c6
     clear c6
     by_cases c7 : 0 ≤ x13_1
     ·rw [if_pos c7] at H
      have c7b0 : decide (0 ≤ x13_1) = true:=decide_eq_true c7
      clear c7
      by_cases c8 : x13_1 < (l0_1.length : Int)
      ·rw [if_pos c8] at H
       have c8b0 : decide (x13_1 < (l0_1.length : Int)) = true:=decide_eq_true c8
       clear c8
       have HC9:=qn.mk H
       clear H
       have p164 : 0 ≤ (x13_1 : Int):=of_decide_eq_true (by first|(with_reducible assumption)|assumption)
       have q164 : x13_1 < (l0_1.length : Int):=of_decide_eq_true (by first|(with_reducible assumption)|assumption)
       obtain ⟨ad164,e164,hx164_0,hx164_1,hx164_2,hx164_3,hx164_4⟩:=at_T36 HR0_1.out x13_1 p164 q164
       cases e164
       replace hx164_0:=cb_ HB hx164_0
       replace hx164_1:=cb_ HB hx164_1
       replace hx164_2:=cb_ HB hx164_2
       replace hx164_3:=cb_ HB hx164_3
       replace hx164_4:=cb_ HB hx164_4
       replace p164:=eq_true p164
       replace q164:=eq_true q164
       go_upto_region 6 with (first|((with_reducible refine gate_dst (N:=4) rfl ?_);refine box_event ?hg (N:=4) ?hd (cs:=#[.int .i64 0,.int .i64 0,.int .i64 0,.int .i64 0,.int .i64 0]) (t:=36) ?hr ?_;(case hd=>rfl);(case hg=>rfl);(case hr=>first|(go_simp;done)|(go_simp;rfl));intro gb165 hg w10 hbox hb;have n0_:=bb_ BK162 hb;have n1_:=hs_ HB hb;have n2_:=qn.mk (hbox);have n3_:=qn.mk ((by rw [hg];exact (qj (by repeat (first|(with_reducible first|exact HB.out|apply qf|apply qa|apply qd|refine qg ?_ GE162.out)|exact HB.out))) : w.heap.size ≤ gb165));have n4_:=qn.mk ((by rw [hg];exact (qj (by repeat (first|(with_reducible first|exact HB.out|apply qf|apply qa|apply qd|refine qg ?_ GE162.out)|exact HB.out))) : w.heap.size ≤ gb165));have n5_:=qn.mk ((by rw [hg];exact nl_ BK162 : gb162 ≠ gb165));have n6_:=qn.mk ((by rw [hg];exact ng_ BK162 : gb165 ≠ gb162));clear BK162;clear HB;have BK162:=n0_;have HB:=n1_;have BK165:=n2_;have GW165:=n3_;have GE165:=n4_;have NB162_165:=n5_;have NB165_162:=n6_;clear n0_ n1_ n2_ n3_ n4_ n5_ n6_;clear hb hbox hg;have hnb11:=NB165_162.out;have hnc11:=NB162_165.out;have hcz12_0 : w10.cell? ⟨gb165,0,none⟩ = some (.int .i64 0):=(qh BK165.out 0).trans rfl;have hcz12_1 : w10.cell? ⟨gb165,1,none⟩ = some (.int .i64 0):=(qh BK165.out 1).trans rfl;have hcz12_2 : w10.cell? ⟨gb165,2,none⟩ = some (.int .i64 0):=(qh BK165.out 2).trans rfl;have hcz12_3 : w10.cell? ⟨gb165,3,none⟩ = some (.int .i64 0):=(qh BK165.out 3).trans rfl;have hcz12_4 : w10.cell? ⟨gb165,4,none⟩ = some (.int .i64 0):=(qh BK165.out 4).trans rfl;have hfz12_0:=qi BK165.out 0;have hfz12_1:=qi BK165.out 1;have hfz12_2:=qi BK165.out 2;have hfz12_3:=qi BK165.out 3;have hfz12_4:=qi BK165.out 4))
       repeat (go_quiet (first|((with_reducible refine gate_dst (N:=4) rfl ?_);refine box_event ?hg (N:=4) ?hd (cs:=#[.int .i64 0,.int .i64 0,.int .i64 0,.int .i64 0,.int .i64 0]) (t:=36) ?hr ?_;(case hd=>rfl);(case hg=>rfl);(case hr=>first|(go_simp;done)|(go_simp;rfl));intro gb165 hg w10 hbox hb;have n0_:=bb_ BK162 hb;have n1_:=hs_ HB hb;have n2_:=qn.mk (hbox);have n3_:=qn.mk ((by rw [hg];exact (qj (by repeat (first|(with_reducible first|exact HB.out|apply qf|apply qa|apply qd|refine qg ?_ GE162.out)|exact HB.out))) : w.heap.size ≤ gb165));have n4_:=qn.mk ((by rw [hg];exact (qj (by repeat (first|(with_reducible first|exact HB.out|apply qf|apply qa|apply qd|refine qg ?_ GE162.out)|exact HB.out))) : w.heap.size ≤ gb165));have n5_:=qn.mk ((by rw [hg];exact nl_ BK162 : gb162 ≠ gb165));have n6_:=qn.mk ((by rw [hg];exact ng_ BK162 : gb165 ≠ gb162));clear BK162;clear HB;have BK162:=n0_;have HB:=n1_;have BK165:=n2_;have GW165:=n3_;have GE165:=n4_;have NB162_165:=n5_;have NB165_162:=n6_;clear n0_ n1_ n2_ n3_ n4_ n5_ n6_;clear hb hbox hg;have hnb11:=NB165_162.out;have hnc11:=NB162_165.out;have hcz12_0 : w10.cell? ⟨gb165,0,none⟩ = some (.int .i64 0):=(qh BK165.out 0).trans rfl;have hcz12_1 : w10.cell? ⟨gb165,1,none⟩ = some (.int .i64 0):=(qh BK165.out 1).trans rfl;have hcz12_2 : w10.cell? ⟨gb165,2,none⟩ = some (.int .i64 0):=(qh BK165.out 2).trans rfl;have hcz12_3 : w10.cell? ⟨gb165,3,none⟩ = some (.int .i64 0):=(qh BK165.out 3).trans rfl;have hcz12_4 : w10.cell? ⟨gb165,4,none⟩ = some (.int .i64 0):=(qh BK165.out 4).trans rfl;have hfz12_0:=qi BK165.out 0;have hfz12_1:=qi BK165.out 1;have hfz12_2:=qi BK165.out 2;have hfz12_3:=qi BK165.out 3;have hfz12_4:=qi BK165.out 4));go_upto_region 6 with (first|((with_reducible refine gate_dst (N:=4) rfl ?_);refine box_event ?hg (N:=4) ?hd (cs:=#[.int .i64 0,.int .i64 0,.int .i64 0,.int .i64 0,.int .i64 0]) (t:=36) ?hr ?_;(case hd=>rfl);(case hg=>rfl);(case hr=>first|(go_simp;done)|(go_simp;rfl));intro gb165 hg w10 hbox hb;have n0_:=bb_ BK162 hb;have n1_:=hs_ HB hb;have n2_:=qn.mk (hbox);have n3_:=qn.mk ((by rw [hg];exact (qj (by repeat (first|(with_reducible first|exact HB.out|apply qf|apply qa|apply qd|refine qg ?_ GE162.out)|exact HB.out))) : w.heap.size ≤ gb165));have n4_:=qn.mk ((by rw [hg];exact (qj (by repeat (first|(with_reducible first|exact HB.out|apply qf|apply qa|apply qd|refine qg ?_ GE162.out)|exact HB.out))) : w.heap.size ≤ gb165));have n5_:=qn.mk ((by rw [hg];exact nl_ BK162 : gb162 ≠ gb165));have n6_:=qn.mk ((by rw [hg];exact ng_ BK162 : gb165 ≠ gb162));clear BK162;clear HB;have BK162:=n0_;have HB:=n1_;have BK165:=n2_;have GW165:=n3_;have GE165:=n4_;have NB162_165:=n5_;have NB165_162:=n6_;clear n0_ n1_ n2_ n3_ n4_ n5_ n6_;clear hb hbox hg;have hnb11:=NB165_162.out;have hnc11:=NB162_165.out;have hcz12_0 : w10.cell? ⟨gb165,0,none⟩ = some (.int .i64 0):=(qh BK165.out 0).trans rfl;have hcz12_1 : w10.cell? ⟨gb165,1,none⟩ = some (.int .i64 0):=(qh BK165.out 1).trans rfl;have hcz12_2 : w10.cell? ⟨gb165,2,none⟩ = some (.int .i64 0):=(qh BK165.out 2).trans rfl;have hcz12_3 : w10.cell? ⟨gb165,3,none⟩ = some (.int .i64 0):=(qh BK165.out 3).trans rfl;have hcz12_4 : w10.cell? ⟨gb165,4,none⟩ = some (.int .i64 0):=(qh BK165.out 4).trans rfl;have hfz12_0:=qi BK165.out 0;have hfz12_1:=qi BK165.out 1;have hfz12_2:=qi BK165.out 2;have hfz12_3:=qi BK165.out 3;have hfz12_4:=qi BK165.out 4)))
       (try simp only [Act.put,List.setIfInBounds_toArray,List.set_cons_zero,List.set_cons_succ])
       go_cut [58] (fun v58 wc=>∃ (kq : Nat) (x58_8 : Bool),v58 = .bool x58_8 ∧ qn (impl_GraphOk.j1 kq x13_1 l0_1 (l0_1.length : Int) x13_1 x58_8 a0_0 l0_1 ((rd_T36 l0_1 x13_1).f0) ((rd_T36 l0_1 x13_1).f1) ((rd_T36 l0_1 x13_1).f2) ((rd_T36 l0_1 x13_1).f3) ((rd_T36 l0_1 x13_1).f4) = some r) ∧ qn (kq ≤ k1) ∧ qn (wc.heap[gb162]? = some (.cells #[.int .i64 a0_0,(.slice (some ad164) l0_1.length c0_1)] 26 (0,0))) ∧ qn (wc.heap[gb165]? = some (.cells #[.int .i64 ((rd_T36 l0_1 x13_1).f0),.int .i64 ((rd_T36 l0_1 x13_1).f1),.int .i64 ((rd_T36 l0_1 x13_1).f2),.int .i64 ((rd_T36 l0_1 x13_1).f3),.int .i64 ((rd_T36 l0_1 x13_1).f4)] 36 (0,0))) ∧ qn (Below w.heap.size w wc))
       case first =>
        have H:=HC9.out
        clear HC9
        replace H:=Option.bind_eq_some_iff.mp H
        obtain ⟨t166,A130,H⟩:=H
        replace H : (if t166 = true then ((impl_in.f ((rd_T36 l0_1 x13_1).f1) 0 (wrap64 (a0_0 - 1))).bind fun t167=>(if t167 = true then (if ((rd_T36 l0_1 x13_1).f0) ≥ ((rd_T36 l0_1 x13_1).f1) then (none) else ((impl_in.f ((rd_T36 l0_1 x13_1).f2) 0 50).bind fun t168=>(if t168 = true then ((impl_in.f ((rd_T36 l0_1 x13_1).f3) 0 50).bind fun t169=>(if t169 = true then ((impl_in.f ((rd_T36 l0_1 x13_1).f4) 0 50).bind fun t170=>(impl_GraphOk.j1 k1 x13_1 l0_1 (l0_1.length : Int) x13_1 (!t170) a0_0 l0_1 ((rd_T36 l0_1 x13_1).f0) ((rd_T36 l0_1 x13_1).f1) ((rd_T36 l0_1 x13_1).f2) ((rd_T36 l0_1 x13_1).f3) ((rd_T36 l0_1 x13_1).f4))) else (none))) else (none)))) else (none))) else (none)) = some r:=H
        have A13:=qn.mk A130
        clear A130
        by_cases c14 : t166 = true
        ·subst c14
         have H1 : ((impl_in.f ((rd_T36 l0_1 x13_1).f1) 0 (wrap64 (a0_0 - 1))).bind fun t167=>(if t167 = true then (if ((rd_T36 l0_1 x13_1).f0) ≥ ((rd_T36 l0_1 x13_1).f1) then (none) else ((impl_in.f ((rd_T36 l0_1 x13_1).f2) 0 50).bind fun t168=>(if t168 = true then ((impl_in.f ((rd_T36 l0_1 x13_1).f3) 0 50).bind fun t169=>(if t169 = true then ((impl_in.f ((rd_T36 l0_1 x13_1).f4) 0 50).bind fun t170=>(impl_GraphOk.j1 k1 x13_1 l0_1 (l0_1.length : Int) x13_1 (!t170) a0_0 l0_1 ((rd_T36 l0_1 x13_1).f0) ((rd_T36 l0_1 x13_1).f1) ((rd_T36 l0_1 x13_1).f2) ((rd_T36 l0_1 x13_1).f3) ((rd_T36 l0_1 x13_1).f4))) else (none))) else (none)))) else (none))) = some r:=by rw [if_pos rfl] at H;exact H
         clear H
         have H:=H1
         clear H1
         replace H:=Option.bind_eq_some_iff.mp H
         obtain ⟨t167,A150,H⟩:=H
         replace H : (if t167 = true then (if ((rd_T36 l0_1 x13_1).f0) ≥ ((rd_T36 l0_1 x13_1).f1) then (none) else ((impl_in.f ((rd_T36 l0_1 x13_1).f2) 0 50).bind fun t168=>(if t168 = true then ((impl_in.f ((rd_T36 l0_1 x13_1).f3) 0 50).bind fun t169=>(if t169 = true then ((impl_in.f ((rd_T36 l0_1 x13_1).f4) 0 50).bind fun t170=>(impl_GraphOk.j1 k1 x13_1 l0_1 (l0_1.length : Int) x13_1 (!t170) a0_0 l0_1 ((rd_T36 l0_1 x13_1).f0) ((rd_T36 l0_1 x13_1).f1) ((rd_T36 l0_1 x13_1).f2) ((rd_T36 l0_1 x13_1).f3) ((rd_T36 l0_1 x13_1).f4))) else (none))) else (none)))) else (none)) = some r:=H
         have A15:=qn.mk A150
         clear A150
         by_cases c16 : t167 = true
         ·subst c16
          have H1 : (if ((rd_T36 l0_1 x13_1).f0) ≥ ((rd_T36 l0_1 x13_1).f1) then (none) else ((impl_in.f ((rd_T36 l0_1 x13_1).f2) 0 50).bind fun t168=>(if t168 = true then ((impl_in.f ((rd_T36 l0_1 x13_1).f3) 0 50).bind fun t169=>(if t169 = true then ((impl_in.f ((rd_T36 l0_1 x13_1).f4) 0 50).bind fun t170=>(impl_GraphOk.j1 k1 x13_1 l0_1 (l0_1.length : Int) x13_1 (!t170) a0_0 l0_1 ((rd_T36 l0_1 x13_1).f0) ((rd_T36 l0_1 x13_1).f1) ((rd_T36 l0_1 x13_1).f2) ((rd_T36 l0_1 x13_1).f3) ((rd_T36 l0_1 x13_1).f4))) else (none))) else (none)))) = some r:=by rw [if_pos rfl] at H;exact H
          clear H
          have H:=H1
          clear H1
          by_cases c17 : ((rd_T36 l0_1 x13_1).f0) ≥ ((rd_T36 l0_1 x13_1).f1)
          ·rw [if_pos c17] at H
           exact absurd H (by simp)
          ·rw [if_neg c17] at H
           have c17b0 : decide (((rd_T36 l0_1 x13_1).f1) ≤ ((rd_T36 l0_1 x13_1).f0)) = false:=decide_eq_false c17
           clear c17
           (first|rw [c17b0]|(simp only [i64_w,i32_w];rw [c17b0])|skip)
           replace H:=Option.bind_eq_some_iff.mp H
           obtain ⟨t168,A210,H⟩:=H
           replace H : (if t168 = true then ((impl_in.f ((rd_T36 l0_1 x13_1).f3) 0 50).bind fun t169=>(if t169 = true then ((impl_in.f ((rd_T36 l0_1 x13_1).f4) 0 50).bind fun t170=>(impl_GraphOk.j1 k1 x13_1 l0_1 (l0_1.length : Int) x13_1 (!t170) a0_0 l0_1 ((rd_T36 l0_1 x13_1).f0) ((rd_T36 l0_1 x13_1).f1) ((rd_T36 l0_1 x13_1).f2) ((rd_T36 l0_1 x13_1).f3) ((rd_T36 l0_1 x13_1).f4))) else (none))) else (none)) = some r:=H
           have A21:=qn.mk A210
           clear A210
           by_cases c22 : t168 = true
           ·subst c22
            have H1 : ((impl_in.f ((rd_T36 l0_1 x13_1).f3) 0 50).bind fun t169=>(if t169 = true then ((impl_in.f ((rd_T36 l0_1 x13_1).f4) 0 50).bind fun t170=>(impl_GraphOk.j1 k1 x13_1 l0_1 (l0_1.length : Int) x13_1 (!t170) a0_0 l0_1 ((rd_T36 l0_1 x13_1).f0) ((rd_T36 l0_1 x13_1).f1) ((rd_T36 l0_1 x13_1).f2) ((rd_T36 l0_1 x13_1).f3) ((rd_T36 l0_1 x13_1).f4))) else (none))) = some r:=by rw [if_pos rfl] at H;exact H
            clear H
            have H:=H1
            clear H1
            replace H:=Option.bind_eq_some_iff.mp H
            obtain ⟨t169,A230,H⟩:=H
            replace H : (if t169 = true then ((impl_in.f ((rd_T36 l0_1 x13_1).f4) 0 50).bind fun t170=>(impl_GraphOk.j1 k1 x13_1 l0_1 (l0_1.length : Int) x13_1 (!t170) a0_0 l0_1 ((rd_T36 l0_1 x13_1).f0) ((rd_T36 l0_1 x13_1).f1) ((rd_T36 l0_1 x13_1).f2) ((rd_T36 l0_1 x13_1).f3) ((rd_T36 l0_1 x13_1).f4))) else (none)) = some r:=H
            have A23:=qn.mk A230
            clear A230
            by_cases c24 : t169 = true
            ·subst c24
             have H1 : ((impl_in.f ((rd_T36 l0_1 x13_1).f4) 0 50).bind fun t170=>(impl_GraphOk.j1 k1 x13_1 l0_1 (l0_1.length : Int) x13_1 (!t170) a0_0 l0_1 ((rd_T36 l0_1 x13_1).f0) ((rd_T36 l0_1 x13_1).f1) ((rd_T36 l0_1 x13_1).f2) ((rd_T36 l0_1 x13_1).f3) ((rd_T36 l0_1 x13_1).f4))) = some r:=by rw [if_pos rfl] at H;exact H
             clear H
             have H:=H1
             clear H1
             replace H:=Option.bind_eq_some_iff.mp H
             obtain ⟨t170,A250,H⟩:=H
             replace H : (impl_GraphOk.j1 k1 x13_1 l0_1 (l0_1.length : Int) x13_1 (!t170) a0_0 l0_1 ((rd_T36 l0_1 x13_1).f0) ((rd_T36 l0_1 x13_1).f1) ((rd_T36 l0_1 x13_1).f2) ((rd_T36 l0_1 x13_1).f3) ((rd_T36 l0_1 x13_1).f4)) = some r:=H
             have A25:=qn.mk A250
             clear A250
             have H':=qn.mk H
             clear H
             have hnb26:=NB165_162.out
             have hnc26:=NB162_165.out
             have hcz27_0 : w10.cell? ⟨gb165,0,none⟩ = some (.int .i64 0):=(qh BK165.out 0).trans rfl
             have hcz27_1 : w10.cell? ⟨gb165,1,none⟩ = some (.int .i64 0):=(qh BK165.out 1).trans rfl
             have hcz27_2 : w10.cell? ⟨gb165,2,none⟩ = some (.int .i64 0):=(qh BK165.out 2).trans rfl
             have hcz27_3 : w10.cell? ⟨gb165,3,none⟩ = some (.int .i64 0):=(qh BK165.out 3).trans rfl
             have hcz27_4 : w10.cell? ⟨gb165,4,none⟩ = some (.int .i64 0):=(qh BK165.out 4).trans rfl
             have hfz27_0:=qi BK165.out 0
             have hfz27_1:=qi BK165.out 1
             have hfz27_2:=qi BK165.out 2
             have hfz27_3:=qi BK165.out 3
             have hfz27_4:=qi BK165.out 4
             have hcz28_0 : w10.cell? ⟨gb162,0,none⟩ = some (.int .i64 a0_0):=(qh BK162.out 0).trans rfl
             have hcz28_1 : w10.cell? ⟨gb162,1,none⟩ = some (.slice (some ad164) l0_1.length c0_1):=(qh BK162.out 1).trans rfl
             have hfz28_0:=qi BK162.out 0
             have hfz28_1:=qi BK162.out 1
             go_wp2_with (first|(go_at_call 59;(with_reducible refine (impl_in.calls ((rd_T36 l0_1 x13_1).f0) 0 (wrap64 (a0_0 - 1)) true _ A13.out).mono ?_);rintro e w' ⟨rfl,⟨nd,rfl⟩⟩;(try first|exact ⟨rfl,_,World.drewN_drewN _ _ _⟩|exact ⟨rfl,_,Eq.trans (World.drewN_drewN _ _ _) (congrArg (World.drewN _) (Nat.add_assoc _ _ _))⟩))|(go_at_call 59;(with_reducible refine (impl_in.calls ((rd_T36 l0_1 x13_1).f1) 0 (wrap64 (a0_0 - 1)) true _ A15.out).mono ?_);rintro e w' ⟨rfl,⟨nd,rfl⟩⟩;(try first|exact ⟨rfl,_,World.drewN_drewN _ _ _⟩|exact ⟨rfl,_,Eq.trans (World.drewN_drewN _ _ _) (congrArg (World.drewN _) (Nat.add_assoc _ _ _))⟩))|(go_at_call 59;(with_reducible refine (impl_in.calls ((rd_T36 l0_1 x13_1).f2) 0 50 true _ A21.out).mono ?_);rintro e w' ⟨rfl,⟨nd,rfl⟩⟩;(try first|exact ⟨rfl,_,World.drewN_drewN _ _ _⟩|exact ⟨rfl,_,Eq.trans (World.drewN_drewN _ _ _) (congrArg (World.drewN _) (Nat.add_assoc _ _ _))⟩))|(go_at_call 59;(with_reducible refine (impl_in.calls ((rd_T36 l0_1 x13_1).f3) 0 50 true _ A23.out).mono ?_);rintro e w' ⟨rfl,⟨nd,rfl⟩⟩;(try first|exact ⟨rfl,_,World.drewN_drewN _ _ _⟩|exact ⟨rfl,_,Eq.trans (World.drewN_drewN _ _ _) (congrArg (World.drewN _) (Nat.add_assoc _ _ _))⟩))|(go_at_call 59;(with_reducible refine (impl_in.calls ((rd_T36 l0_1 x13_1).f4) 0 50 t170 _ A25.out).mono ?_);rintro e w' ⟨rfl,⟨nd,rfl⟩⟩;(try first|exact ⟨rfl,_,World.drewN_drewN _ _ _⟩|exact ⟨rfl,_,Eq.trans (World.drewN_drewN _ _ _) (congrArg (World.drewN _) (Nat.add_assoc _ _ _))⟩)))
             repeat (go_quiet (first|(go_at_call 59;(with_reducible refine (impl_in.calls ((rd_T36 l0_1 x13_1).f0) 0 (wrap64 (a0_0 - 1)) true _ A13.out).mono ?_);rintro e w' ⟨rfl,⟨nd,rfl⟩⟩;(try first|exact ⟨rfl,_,World.drewN_drewN _ _ _⟩|exact ⟨rfl,_,Eq.trans (World.drewN_drewN _ _ _) (congrArg (World.drewN _) (Nat.add_assoc _ _ _))⟩))|(go_at_call 59;(with_reducible refine (impl_in.calls ((rd_T36 l0_1 x13_1).f1) 0 (wrap64 (a0_0 - 1)) true _ A15.out).mono ?_);rintro e w' ⟨rfl,⟨nd,rfl⟩⟩;(try first|exact ⟨rfl,_,World.drewN_drewN _ _ _⟩|exact ⟨rfl,_,Eq.trans (World.drewN_drewN _ _ _) (congrArg (World.drewN _) (Nat.add_assoc _ _ _))⟩))|(go_at_call 59;(with_reducible refine (impl_in.calls ((rd_T36 l0_1 x13_1).f2) 0 50 true _ A21.out).mono ?_);rintro e w' ⟨rfl,⟨nd,rfl⟩⟩;(try first|exact ⟨rfl,_,World.drewN_drewN _ _ _⟩|exact ⟨rfl,_,Eq.trans (World.drewN_drewN _ _ _) (congrArg (World.drewN _) (Nat.add_assoc _ _ _))⟩))|(go_at_call 59;(with_reducible refine (impl_in.calls ((rd_T36 l0_1 x13_1).f3) 0 50 true _ A23.out).mono ?_);rintro e w' ⟨rfl,⟨nd,rfl⟩⟩;(try first|exact ⟨rfl,_,World.drewN_drewN _ _ _⟩|exact ⟨rfl,_,Eq.trans (World.drewN_drewN _ _ _) (congrArg (World.drewN _) (Nat.add_assoc _ _ _))⟩))|(go_at_call 59;(with_reducible refine (impl_in.calls ((rd_T36 l0_1 x13_1).f4) 0 50 t170 _ A25.out).mono ?_);rintro e w' ⟨rfl,⟨nd,rfl⟩⟩;(try first|exact ⟨rfl,_,World.drewN_drewN _ _ _⟩|exact ⟨rfl,_,Eq.trans (World.drewN_drewN _ _ _) (congrArg (World.drewN _) (Nat.add_assoc _ _ _))⟩)));try go_wp2_with (first|(go_at_call 59;(with_reducible refine (impl_in.calls ((rd_T36 l0_1 x13_1).f0) 0 (wrap64 (a0_0 - 1)) true _ A13.out).mono ?_);rintro e w' ⟨rfl,⟨nd,rfl⟩⟩;(try first|exact ⟨rfl,_,World.drewN_drewN _ _ _⟩|exact ⟨rfl,_,Eq.trans (World.drewN_drewN _ _ _) (congrArg (World.drewN _) (Nat.add_assoc _ _ _))⟩))|(go_at_call 59;(with_reducible refine (impl_in.calls ((rd_T36 l0_1 x13_1).f1) 0 (wrap64 (a0_0 - 1)) true _ A15.out).mono ?_);rintro e w' ⟨rfl,⟨nd,rfl⟩⟩;(try first|exact ⟨rfl,_,World.drewN_drewN _ _ _⟩|exact ⟨rfl,_,Eq.trans (World.drewN_drewN _ _ _) (congrArg (World.drewN _) (Nat.add_assoc _ _ _))⟩))|(go_at_call 59;(with_reducible refine (impl_in.calls ((rd_T36 l0_1 x13_1).f2) 0 50 true _ A21.out).mono ?_);rintro e w' ⟨rfl,⟨nd,rfl⟩⟩;(try first|exact ⟨rfl,_,World.drewN_drewN _ _ _⟩|exact ⟨rfl,_,Eq.trans (World.drewN_drewN _ _ _) (congrArg (World.drewN _) (Nat.add_assoc _ _ _))⟩))|(go_at_call 59;(with_reducible refine (impl_in.calls ((rd_T36 l0_1 x13_1).f3) 0 50 true _ A23.out).mono ?_);rintro e w' ⟨rfl,⟨nd,rfl⟩⟩;(try first|exact ⟨rfl,_,World.drewN_drewN _ _ _⟩|exact ⟨rfl,_,Eq.trans (World.drewN_drewN _ _ _) (congrArg (World.drewN _) (Nat.add_assoc _ _ _))⟩))|(go_at_call 59;(with_reducible refine (impl_in.calls ((rd_T36 l0_1 x13_1).f4) 0 50 t170 _ A25.out).mono ?_);rintro e w' ⟨rfl,⟨nd,rfl⟩⟩;(try first|exact ⟨rfl,_,World.drewN_drewN _ _ _⟩|exact ⟨rfl,_,Eq.trans (World.drewN_drewN _ _ _) (congrArg (World.drewN _) (Nat.add_assoc _ _ _))⟩))))
             go_meet
             case rel=>exact ⟨_,(!t170),(by first|rfl|(simp;done)|(simp [*];done)),H',⟨by have:=HK1.out;first|omega|exact Nat.le_refl _⟩,⟨by (with_reducible repeat (first|refine qb ?_ _|refine qe ?_|refine qc ?_ _));refine blk_far ?_ NB162_165.out _;(with_reducible repeat (first|refine qb ?_ _|refine qe ?_|refine qc ?_ _));refine blk_far ?_ NB162_165.out _;(with_reducible repeat (first|refine qb ?_ _|refine qe ?_|refine qc ?_ _));refine blk_far ?_ NB162_165.out _;(with_reducible repeat (first|refine qb ?_ _|refine qe ?_|refine qc ?_ _));refine blk_far ?_ NB162_165.out _;(with_reducible repeat (first|refine qb ?_ _|refine qe ?_|refine qc ?_ _));refine blk_far ?_ NB162_165.out _;(with_reducible repeat (first|refine qb ?_ _|refine qe ?_|refine qc ?_ _));exact BK162.out⟩,⟨by (with_reducible repeat (first|refine qb ?_ _|refine qe ?_|refine qc ?_ _));refine blk_put (cs:=#[.int .i64 ((rd_T36 l0_1 x13_1).f0),.int .i64 ((rd_T36 l0_1 x13_1).f1),.int .i64 ((rd_T36 l0_1 x13_1).f2),.int .i64 ((rd_T36 l0_1 x13_1).f3),.int .i64 0]) ?_ 4 _ rfl;(with_reducible repeat (first|refine qb ?_ _|refine qe ?_|refine qc ?_ _));refine blk_put (cs:=#[.int .i64 ((rd_T36 l0_1 x13_1).f0),.int .i64 ((rd_T36 l0_1 x13_1).f1),.int .i64 ((rd_T36 l0_1 x13_1).f2),.int .i64 0,.int .i64 0]) ?_ 3 _ rfl;(with_reducible repeat (first|refine qb ?_ _|refine qe ?_|refine qc ?_ _));refine blk_put (cs:=#[.int .i64 ((rd_T36 l0_1 x13_1).f0),.int .i64 ((rd_T36 l0_1 x13_1).f1),.int .i64 0,.int .i64 0,.int .i64 0]) ?_ 2 _ rfl;(with_reducible repeat (first|refine qb ?_ _|refine qe ?_|refine qc ?_ _));refine blk_put (cs:=#[.int .i64 ((rd_T36 l0_1 x13_1).f0),.int .i64 0,.int .i64 0,.int .i64 0,.int .i64 0]) ?_ 1 _ rfl;(with_reducible repeat (first|refine qb ?_ _|refine qe ?_|refine qc ?_ _));refine blk_put (cs:=#[.int .i64 0,.int .i64 0,.int .i64 0,.int .i64 0,.int .i64 0]) ?_ 0 _ rfl;(with_reducible repeat (first|refine qb ?_ _|refine qe ?_|refine qc ?_ _));exact BK165.out⟩,⟨by repeat (first|(with_reducible first|exact HB.out|apply qf|apply qa|apply qd|refine qg ?_ GE162.out|refine qg ?_ GE165.out)|exact HB.out)⟩⟩
            ·replace c24:=Bool.eq_false_iff.mpr c24
             subst c24
             have H1 : (none) = some r:=by rw [if_neg (show ¬ (false = true) by decide)] at H;exact H
             exact absurd H1 (by simp)
           ·replace c22:=Bool.eq_false_iff.mpr c22
            subst c22
            have H1 : (none) = some r:=by rw [if_neg (show ¬ (false = true) by decide)] at H;exact H
            exact absurd H1 (by simp)
         ·replace c16:=Bool.eq_false_iff.mpr c16
          subst c16
          have H1 : (none) = some r:=by rw [if_neg (show ¬ (false = true) by decide)] at H;exact H
          exact absurd H1 (by simp)
        ·replace c14:=Bool.eq_false_iff.mpr c14
         subst c14
         have H1 : (none) = some r:=by rw [if_neg (show ¬ (false = true) by decide)] at H;exact H
         exact absurd H1 (by simp)
       case rest =>
        clear HC9
        try clear c1
        try clear p1
        try clear q1
        try clear hx1
        try clear c2
        try clear p2
        try clear c3
        try clear c6
        try clear c6b0
        try clear p6
        try clear c7
        try clear c7b0
        try clear c8
        try clear c8b0
        try clear c11
        try clear c14
        try clear c16
        try clear p16
        try clear q16
        try clear hx16
        try clear c17
        try clear c17b0
        try clear c18
        try clear c22
        try clear c24
        try clear c26
        try clear c29
        try clear c32
        try clear c35
        try clear c38
        try clear hcz12_0
        try clear hcz12_1
        try clear hcz12_2
        try clear hcz12_3
        try clear hcz12_4
        try clear hcz19_0
        try clear hcz19_1
        try clear hcz19_2
        try clear hcz19_3
        try clear hcz19_4
        try clear hcz20_0
        try clear hcz20_1
        try clear hcz27_0
        try clear hcz27_1
        try clear hcz27_2
        try clear hcz27_3
        try clear hcz27_4
        try clear hcz28_0
        try clear hcz28_1
        try clear hcz30_0
        try clear hcz30_1
        try clear hcz30_2
        try clear hcz30_3
        try clear hcz30_4
        try clear hcz31_0
        try clear hcz31_1
        try clear hcz33_0
        try clear hcz33_1
        try clear hcz33_2
        try clear hcz33_3
        try clear hcz33_4
        try clear hcz34_0
        try clear hcz34_1
        try clear hcz36_0
        try clear hcz36_1
        try clear hcz36_2
        try clear hcz36_3
        try clear hcz36_4
        try clear hcz37_0
        try clear hcz37_1
        try clear hcz39_0
        try clear hcz39_1
        try clear hcz39_2
        try clear hcz39_3
        try clear hcz39_4
        try clear hcz40_0
        try clear hcz40_1
        try clear hcz5_0
        try clear hcz5_1
        try clear hfz12_0
        try clear hfz12_1
        try clear hfz12_2
        try clear hfz12_3
        try clear hfz12_4
        try clear hfz19_0
        try clear hfz19_1
        try clear hfz19_2
        try clear hfz19_3
        try clear hfz19_4
        try clear hfz20_0
        try clear hfz20_1
        try clear hfz27_0
        try clear hfz27_1
        try clear hfz27_2
        try clear hfz27_3
        try clear hfz27_4
        try clear hfz28_0
        try clear hfz28_1
        try clear hfz30_0
        try clear hfz30_1
        try clear hfz30_2
        try clear hfz30_3
        try clear hfz30_4
        try clear hfz31_0
        try clear hfz31_1
        try clear hfz33_0
        try clear hfz33_1
        try clear hfz33_2
        try clear hfz33_3
        try clear hfz33_4
        try clear hfz34_0
        try clear hfz34_1
        try clear hfz36_0
        try clear hfz36_1
        try clear hfz36_2
        try clear hfz36_3
        try clear hfz36_4
        try clear hfz37_0
        try clear hfz37_1
        try clear hfz39_0
        try clear hfz39_1
        try clear hfz39_2
        try clear hfz39_3
        try clear hfz39_4
        try clear hfz40_0
        try clear hfz40_1
        try clear hfz5_0
        try clear hfz5_1
        try clear hx164_0
        try clear hx164_1
        try clear hx164_2
        try clear hx164_3
        try clear hx164_4
        try clear p164
        try clear p2
        try clear q164
        obtain ⟨kq,x58_8,rfl,HA,HJ8,BK162,BK165,HB⟩:=hcut
        cases kq with
        | zero=>exact absurd HA.out (by simp [impl_GraphOk.j1])
        | succ kj8 =>
         have H:=HA.out
         clear HA
         simp only [impl_GraphOk.j1] at H
         by_cases c41 : x58_8 = true
         ·subst c41
          have H1 : (none) = some r:=by rw [if_pos rfl] at H;exact H
          exact absurd H1 (by simp)
         ·replace c41:=Bool.eq_false_iff.mpr c41
          subst c41
          have H1 : (if x13_1 > 0 then (if 0 ≤ (wrap64 (x13_1 - 1)) then (if (wrap64 (x13_1 - 1)) < (l0_1.length : Int) then (if ((rd_T36 l0_1 (wrap64 (x13_1 - 1))).f0) > ((rd_T36 l0_1 x13_1).f0) then (none) else (if ((rd_T36 l0_1 (wrap64 (x13_1 - 1))).f0) = ((rd_T36 l0_1 x13_1).f0) then (if ((rd_T36 l0_1 (wrap64 (x13_1 - 1))).f1) ≥ ((rd_T36 l0_1 x13_1).f1) then (none) else (impl_GraphOk.l0 kj8 l0_1 (l0_1.length : Int) (wrap64 (x13_1 + 1)) a0_0 l0_1)) else (impl_GraphOk.l0 kj8 l0_1 (l0_1.length : Int) (wrap64 (x13_1 + 1)) a0_0 l0_1))) else (none)) else (none)) else (impl_GraphOk.l0 kj8 l0_1 (l0_1.length : Int) (wrap64 (x13_1 + 1)) a0_0 l0_1)) = some r:=by rw [if_neg (show ¬ (false = true) by decide)] at H;exact H
          clear H
          have H:=H1
          clear H1
          by_cases c42 : x13_1 > 0
          ·rw [if_pos c42] at H
           have c42b0 : decide (0 < x13_1) = true:=decide_eq_true c42
           clear c42
           obtain ⟨ji43,hji43⟩ : ∃ j_ : Int,(wrap64 (x13_1 - 1)) = j_:=⟨_,rfl⟩
           replace H : (if 0 ≤ (ji43) then (if (ji43) < (l0_1.length : Int) then (if ((rd_T36 l0_1 (ji43)).f0) > ((rd_T36 l0_1 x13_1).f0) then (none) else (if ((rd_T36 l0_1 (ji43)).f0) = ((rd_T36 l0_1 x13_1).f0) then (if ((rd_T36 l0_1 (ji43)).f1) ≥ ((rd_T36 l0_1 x13_1).f1) then (none) else (impl_GraphOk.l0 kj8 l0_1 (l0_1.length : Int) (wrap64 (x13_1 + 1)) a0_0 l0_1)) else (impl_GraphOk.l0 kj8 l0_1 (l0_1.length : Int) (wrap64 (x13_1 + 1)) a0_0 l0_1))) else (none)) else (none)) = some r:=by first|(rw [hji43] at H;exact H)|(simp only [hji43] at H ⊢;exact H)
           have hji43w : (IntKind.i64.wrap (x13_1 - 1)) = ji43:=(i64_w _).trans hji43
           by_cases c44 : 0 ≤ (ji43)
           ·rw [if_pos c44] at H
            have c44b0 : decide (0 ≤ (ji43)) = true:=decide_eq_true c44
            clear c44
            by_cases c45 : (ji43) < (l0_1.length : Int)
            ·rw [if_pos c45] at H
             have c45b0 : decide ((ji43) < (l0_1.length : Int)) = true:=decide_eq_true c45
             clear c45
             by_cases c46 : ((rd_T36 l0_1 (ji43)).f0) > ((rd_T36 l0_1 x13_1).f0)
             ·rw [if_pos c46] at H
              exact absurd H (by simp)
             ·rw [if_neg c46] at H
              have c46b0 : decide (((rd_T36 l0_1 x13_1).f0) < ((rd_T36 l0_1 (ji43)).f0)) = false:=decide_eq_false c46
              clear c46
              by_cases c50 : ((rd_T36 l0_1 (ji43)).f0) = ((rd_T36 l0_1 x13_1).f0)
              ·rw [if_pos c50] at H
               have c50b0 : (((rd_T36 l0_1 (ji43)).f0) == ((rd_T36 l0_1 x13_1).f0)) = true:=beq_iff_eq.mpr c50
               have c50b1 : (((rd_T36 l0_1 (ji43)).f0) != ((rd_T36 l0_1 x13_1).f0)) = false:=bne_eq_false_iff_eq.mpr c50
               clear c50
               by_cases c51 : ((rd_T36 l0_1 (ji43)).f1) ≥ ((rd_T36 l0_1 x13_1).f1)
               ·rw [if_pos c51] at H
                exact absurd H (by simp)
               ·rw [if_neg c51] at H
                have c51b0 : decide (((rd_T36 l0_1 x13_1).f1) ≤ ((rd_T36 l0_1 (ji43)).f1)) = false:=decide_eq_false c51
                clear c51
                have H':=qn.mk H
                clear H
                have hnb55:=NB162_165.out
                have hnc55:=NB165_162.out
                have hcz56_0 : wc.cell? ⟨gb162,0,none⟩ = some (.int .i64 a0_0):=(qh BK162.out 0).trans rfl
                have hcz56_1 : wc.cell? ⟨gb162,1,none⟩ = some (.slice (some ad164) l0_1.length c0_1):=(qh BK162.out 1).trans rfl
                have hfz56_0:=qi BK162.out 0
                have hfz56_1:=qi BK162.out 1
                have p171 : 0 ≤ ((ji43) : Int):=of_decide_eq_true (by first|(with_reducible assumption)|assumption)
                have q171 : (ji43) < (l0_1.length : Int):=of_decide_eq_true (by first|(with_reducible assumption)|assumption)
                obtain ⟨ad171,e171,hx171_0,hx171_1,hx171_2,hx171_3,hx171_4⟩:=at_T36 HR0_1.out (ji43) p171 q171
                obtain rfl : ad164 = ad171:=(by injection e171)
                replace hx171_0:=cb_ HB hx171_0
                replace hx171_1:=cb_ HB hx171_1
                replace hx171_2:=cb_ HB hx171_2
                replace hx171_3:=cb_ HB hx171_3
                replace hx171_4:=cb_ HB hx171_4
                replace p171:=eq_true p171
                replace q171:=eq_true q171
                have hcz57_0 : wc.cell? ⟨gb165,0,none⟩ = some (.int .i64 ((rd_T36 l0_1 x13_1).f0)):=(qh BK165.out 0).trans rfl
                have hcz57_1 : wc.cell? ⟨gb165,1,none⟩ = some (.int .i64 ((rd_T36 l0_1 x13_1).f1)):=(qh BK165.out 1).trans rfl
                have hcz57_2 : wc.cell? ⟨gb165,2,none⟩ = some (.int .i64 ((rd_T36 l0_1 x13_1).f2)):=(qh BK165.out 2).trans rfl
                have hcz57_3 : wc.cell? ⟨gb165,3,none⟩ = some (.int .i64 ((rd_T36 l0_1 x13_1).f3)):=(qh BK165.out 3).trans rfl
                have hcz57_4 : wc.cell? ⟨gb165,4,none⟩ = some (.int .i64 ((rd_T36 l0_1 x13_1).f4)):=(qh BK165.out 4).trans rfl
                have hfz57_0:=qi BK165.out 0
                have hfz57_1:=qi BK165.out 1
                have hfz57_2:=qi BK165.out 2
                have hfz57_3:=qi BK165.out 3
                have hfz57_4:=qi BK165.out 4
                have p172 : 0 ≤ ((ji43) : Int):=of_decide_eq_true (by first|(with_reducible assumption)|assumption)
                have q172 : (ji43) < (l0_1.length : Int):=of_decide_eq_true (by first|(with_reducible assumption)|assumption)
                obtain ⟨ad172,e172,hx172_0,hx172_1,hx172_2,hx172_3,hx172_4⟩:=at_T36 HR0_1.out (ji43) p172 q172
                obtain rfl : ad164 = ad172:=(by injection e172)
                replace hx172_0:=cb_ HB hx172_0
                replace hx172_1:=cb_ HB hx172_1
                replace hx172_2:=cb_ HB hx172_2
                replace hx172_3:=cb_ HB hx172_3
                replace hx172_4:=cb_ HB hx172_4
                replace p172:=eq_true p172
                replace q172:=eq_true q172
                have p173 : 0 ≤ ((ji43) : Int):=of_decide_eq_true (by first|(with_reducible assumption)|assumption)
                have q173 : (ji43) < (l0_1.length : Int):=of_decide_eq_true (by first|(with_reducible assumption)|assumption)
                obtain ⟨ad173,e173,hx173_0,hx173_1,hx173_2,hx173_3,hx173_4⟩:=at_T36 HR0_1.out (ji43) p173 q173
                obtain rfl : ad164 = ad173:=(by injection e173)
                replace hx173_0:=cb_ HB hx173_0
                replace hx173_1:=cb_ HB hx173_1
                replace hx173_2:=cb_ HB hx173_2
                replace hx173_3:=cb_ HB hx173_3
                replace hx173_4:=cb_ HB hx173_4
                replace p173:=eq_true p173
                replace q173:=eq_true q173
                go_wp2
                repeat (go_quiet (fail);try go_wp2)
                go_roundg kj8
                case measure=>have:=HK1.out;have:=HJ8.out;omega
                case rel=>exact ⟨(wrap64 (x13_1 + 1)),(by first|rfl|(simp;done)|(simp [*];done)),H',⟨by have:=HK1.out;have:=HJ8.out;omega⟩,⟨by (with_reducible repeat (first|refine qb ?_ _|refine qe ?_|refine qc ?_ _));exact BK162.out⟩,⟨by repeat (first|(with_reducible first|exact HB.out|apply qf|apply qa|apply qd|refine qg ?_ GE162.out|refine qg ?_ GE165.out)|exact HB.out)⟩⟩
              ·rw [if_neg c50] at H
               have c50b0 : (((rd_T36 l0_1 (ji43)).f0) == ((rd_T36 l0_1 x13_1).f0)) = false:=beq_eq_false_iff_ne.mpr c50
               have c50b1 : (((rd_T36 l0_1 (ji43)).f0) != ((rd_T36 l0_1 x13_1).f0)) = true:=bne_iff_ne.mpr c50
               have H':=qn.mk H
               clear H
               have hnb58:=NB162_165.out
               have hnc58:=NB165_162.out
               have hcz59_0 : wc.cell? ⟨gb162,0,none⟩ = some (.int .i64 a0_0):=(qh BK162.out 0).trans rfl
               have hcz59_1 : wc.cell? ⟨gb162,1,none⟩ = some (.slice (some ad164) l0_1.length c0_1):=(qh BK162.out 1).trans rfl
               have hfz59_0:=qi BK162.out 0
               have hfz59_1:=qi BK162.out 1
               have p171 : 0 ≤ ((ji43) : Int):=of_decide_eq_true (by first|(with_reducible assumption)|assumption)
               have q171 : (ji43) < (l0_1.length : Int):=of_decide_eq_true (by first|(with_reducible assumption)|assumption)
               obtain ⟨ad171,e171,hx171_0,hx171_1,hx171_2,hx171_3,hx171_4⟩:=at_T36 HR0_1.out (ji43) p171 q171
               obtain rfl : ad164 = ad171:=(by injection e171)
               replace hx171_0:=cb_ HB hx171_0
               replace hx171_1:=cb_ HB hx171_1
               replace hx171_2:=cb_ HB hx171_2
               replace hx171_3:=cb_ HB hx171_3
               replace hx171_4:=cb_ HB hx171_4
               replace p171:=eq_true p171
               replace q171:=eq_true q171
               have hcz60_0 : wc.cell? ⟨gb165,0,none⟩ = some (.int .i64 ((rd_T36 l0_1 x13_1).f0)):=(qh BK165.out 0).trans rfl
               have hcz60_1 : wc.cell? ⟨gb165,1,none⟩ = some (.int .i64 ((rd_T36 l0_1 x13_1).f1)):=(qh BK165.out 1).trans rfl
               have hcz60_2 : wc.cell? ⟨gb165,2,none⟩ = some (.int .i64 ((rd_T36 l0_1 x13_1).f2)):=(qh BK165.out 2).trans rfl
               have hcz60_3 : wc.cell? ⟨gb165,3,none⟩ = some (.int .i64 ((rd_T36 l0_1 x13_1).f3)):=(qh BK165.out 3).trans rfl
               have hcz60_4 : wc.cell? ⟨gb165,4,none⟩ = some (.int .i64 ((rd_T36 l0_1 x13_1).f4)):=(qh BK165.out 4).trans rfl
               have hfz60_0:=qi BK165.out 0
               have hfz60_1:=qi BK165.out 1
               have hfz60_2:=qi BK165.out 2
               have hfz60_3:=qi BK165.out 3
               have hfz60_4:=qi BK165.out 4
               have p172 : 0 ≤ ((ji43) : Int):=of_decide_eq_true (by first|(with_reducible assumption)|assumption)
               have q172 : (ji43) < (l0_1.length : Int):=of_decide_eq_true (by first|(with_reducible assumption)|assumption)
               obtain ⟨ad172,e172,hx172_0,hx172_1,hx172_2,hx172_3,hx172_4⟩:=at_T36 HR0_1.out (ji43) p172 q172
               obtain rfl : ad164 = ad172:=(by injection e172)
               replace hx172_0:=cb_ HB hx172_0
               replace hx172_1:=cb_ HB hx172_1
               replace hx172_2:=cb_ HB hx172_2
               replace hx172_3:=cb_ HB hx172_3
               replace hx172_4:=cb_ HB hx172_4
               replace p172:=eq_true p172
               replace q172:=eq_true q172
               go_wp2
               repeat (go_quiet (fail);try go_wp2)
               go_roundg kj8
               case measure=>have:=HK1.out;have:=HJ8.out;omega
               case rel=>exact ⟨(wrap64 (x13_1 + 1)),(by first|rfl|(simp;done)|(simp [*];done)),H',⟨by have:=HK1.out;have:=HJ8.out;omega⟩,⟨by (with_reducible repeat (first|refine qb ?_ _|refine qe ?_|refine qc ?_ _));exact BK162.out⟩,⟨by repeat (first|(with_reducible first|exact HB.out|apply qf|apply qa|apply qd|refine qg ?_ GE162.out|refine qg ?_ GE165.out)|exact HB.out)⟩⟩
            ·rw [if_neg c45] at H
             exact absurd H (by simp)
           ·rw [if_neg c44] at H
            exact absurd H (by simp)
          ·rw [if_neg c42] at H
           have c42b0 : decide (0 < x13_1) = false:=decide_eq_false c42
           clear c42
           have H':=qn.mk H
           clear H
           go_wp2
           repeat (go_quiet (fail);try go_wp2)
           go_roundg kj8
           case measure=>have:=HK1.out;have:=HJ8.out;omega
           case rel=>exact ⟨(wrap64 (x13_1 + 1)),(by first|rfl|(simp;done)|(simp [*];done)),H',⟨by have:=HK1.out;have:=HJ8.out;omega⟩,⟨by (with_reducible repeat (first|refine qb ?_ _|refine qe ?_|refine qc ?_ _));exact BK162.out⟩,⟨by repeat (first|(with_reducible first|exact HB.out|apply qf|apply qa|apply qd|refine qg ?_ GE162.out|refine qg ?_ GE165.out)|exact HB.out)⟩⟩
      ·rw [if_neg c8] at H
       exact absurd H (by simp)
     ·rw [if_neg c7] at H
      exact absurd H (by simp)
    ·rw [if_neg c6] at H
     have c6b0 : decide (x13_1 < (l0_1.length : Int)) = false:=decide_eq_false c6
     clear c6
     obtain rfl:=Option.some.inj H
     go_wp2
     repeat (go_quiet (fail);try go_wp2)
     go_ret
     exact ⟨by first|rfl|(simp [errW_none,errW_some] <;> rfl)|(simp [*,errW_none,errW_some] <;> rfl),by repeat (first|(with_reducible first|exact HB.out|apply qf|apply qa|apply qd|refine qg ?_ GE162.out)|exact HB.out)⟩
 ·replace c3:=Bool.eq_false_iff.mpr c3
  subst c3
  have H1 : (none) = some r:=by rw [if_neg (show ¬ (false = true) by decide)] at H;exact H
  exact absurd H1 (by simp)

/-! ### impl_Sums_plus: function 91 -/
def impl_Sums_plus.f (a0_0 : Int) (a0_1 : Int) (a0_2 : Int) (a1_0 : Int) (a1_1 : Int) (a1_2 : Int) (a1_3 : Int) (a1_4 : Int) : Option (Int × Int × Int):=some (wrap64 (a0_0 + a1_2),wrap64 (a0_1 + a1_3),wrap64 (a0_2 + a1_4))
set_option maxHeartbeats 8000000 in
set_option maxRecDepth 100000 in
theorem impl_Sums_plus.calls (a0_0 : Int) (a0_1 : Int) (a0_2 : Int) (a1_0 : Int) (a1_1 : Int) (a1_2 : Int) (a1_3 : Int) (a1_4 : Int) (r1 : Int) (r2 : Int) (r3 : Int) (w : World) (h : impl_Sums_plus.f a0_0 a0_1 a0_2 a1_0 a1_1 a1_2 a1_3 a1_4 = some (r1,r2,r3)) :
  Calls Try.prog 91 #[.agg #[.int .i64 a0_0,.int .i64 a0_1,.int .i64 a0_2],.agg #[.int .i64 a1_0,.int .i64 a1_1,.int .i64 a1_2,.int .i64 a1_3,.int .i64 a1_4]] w fun e w'=>e = .returned (.agg #[.int .i64 r1,.int .i64 r2,.int .i64 r3]) ∧ Below w.heap.size w w':=by
 have hu72:=Try.underlying72
 have hu36:=Try.underlying36
 have HB:=qn.mk (Below.refl w.heap.size w)
 have H : (some (wrap64 (a0_0 + a1_2),wrap64 (a0_1 + a1_3),wrap64 (a0_2 + a1_4))) = some (r1,r2,r3):=h
 clear h
 simp only [Option.some.injEq,Prod.mk.injEq] at H
 obtain ⟨rfl,rfl,rfl⟩:=H
 go_enter Try.func91,Try.ntmps91
 go_wp2_with (first|((with_reducible refine gate_dst (N:=2) rfl ?_);refine box_event ?hg (N:=2) ?hd (cs:=#[.int .i64 a0_0,.int .i64 a0_1,.int .i64 a0_2]) (t:=72) ?hr ?_;(case hd=>rfl);(case hg=>rfl);(case hr=>first|(go_simp;done)|(go_simp;rfl));intro gb174 hg w3 hbox hb;have n0_:=hs_ HB hb;have n1_:=qn.mk (hbox);have n2_:=qn.mk ((by rw [hg];exact (qj (by repeat (first|(with_reducible first|exact HB.out|apply qf|apply qa|apply qd)|exact HB.out))) : w.heap.size ≤ gb174));have n3_:=qn.mk ((by rw [hg];exact (qj (by repeat (first|(with_reducible first|exact HB.out|apply qf|apply qa|apply qd)|exact HB.out))) : w.heap.size ≤ gb174));clear HB;have HB:=n0_;have BK174:=n1_;have GW174:=n2_;have GE174:=n3_;clear n0_ n1_ n2_ n3_;clear hb hbox hg)|((with_reducible refine gate_dst (N:=3) rfl ?_);refine box_event ?hg (N:=3) ?hd (cs:=#[.int .i64 a1_0,.int .i64 a1_1,.int .i64 a1_2,.int .i64 a1_3,.int .i64 a1_4]) (t:=36) ?hr ?_;(case hd=>rfl);(case hg=>rfl);(case hr=>first|(go_simp;done)|(go_simp;rfl));intro gb175 hg w4 hbox hb;have n0_:=bb_ BK174 hb;have n1_:=hs_ HB hb;have n2_:=qn.mk (hbox);have n3_:=qn.mk ((by rw [hg];exact (qj (by repeat (first|(with_reducible first|exact HB.out|apply qf|apply qa|apply qd|refine qg ?_ GE174.out)|exact HB.out))) : w.heap.size ≤ gb175));have n4_:=qn.mk ((by rw [hg];exact (qj (by repeat (first|(with_reducible first|exact HB.out|apply qf|apply qa|apply qd|refine qg ?_ GE174.out)|exact HB.out))) : w.heap.size ≤ gb175));have n5_:=qn.mk ((by rw [hg];exact nl_ BK174 : gb174 ≠ gb175));have n6_:=qn.mk ((by rw [hg];exact ng_ BK174 : gb175 ≠ gb174));clear BK174;clear HB;have BK174:=n0_;have HB:=n1_;have BK175:=n2_;have GW175:=n3_;have GE175:=n4_;have NB174_175:=n5_;have NB175_174:=n6_;clear n0_ n1_ n2_ n3_ n4_ n5_ n6_;clear hb hbox hg)|((with_reducible refine gate_dst (N:=4) rfl ?_);refine box_event ?hg (N:=4) ?hd (cs:=#[.int .i64 0,.int .i64 0,.int .i64 0]) (t:=72) ?hr ?_;(case hd=>rfl);(case hg=>rfl);(case hr=>first|(go_simp;done)|(go_simp;rfl));intro gb176 hg w5 hbox hb;have n0_:=bb_ BK174 hb;have n1_:=bb_ BK175 hb;have n2_:=hs_ HB hb;have n3_:=qn.mk (hbox);have n4_:=qn.mk ((by rw [hg];exact (qj (by repeat (first|(with_reducible first|exact HB.out|apply qf|apply qa|apply qd|refine qg ?_ GE174.out|refine qg ?_ GE175.out)|exact HB.out))) : w.heap.size ≤ gb176));have n5_:=qn.mk ((by rw [hg];exact (qj (by repeat (first|(with_reducible first|exact HB.out|apply qf|apply qa|apply qd|refine qg ?_ GE174.out|refine qg ?_ GE175.out)|exact HB.out))) : w.heap.size ≤ gb176));have n6_:=qn.mk ((by rw [hg];exact nl_ BK174 : gb174 ≠ gb176));have n7_:=qn.mk ((by rw [hg];exact ng_ BK174 : gb176 ≠ gb174));have n8_:=qn.mk ((by rw [hg];exact nl_ BK175 : gb175 ≠ gb176));have n9_:=qn.mk ((by rw [hg];exact ng_ BK175 : gb176 ≠ gb175));clear BK174;clear BK175;clear HB;have BK174:=n0_;have BK175:=n1_;have HB:=n2_;have BK176:=n3_;have GW176:=n4_;have GE176:=n5_;have NB174_176:=n6_;have NB176_174:=n7_;have NB175_176:=n8_;have NB176_175:=n9_;clear n0_ n1_ n2_ n3_ n4_ n5_ n6_ n7_ n8_ n9_;clear hb hbox hg;have hnb6:=NB174_175.out;have hnc6:=NB175_174.out;have hnb7:=NB174_176.out;have hnc7:=NB176_174.out;have hcz8_0 : w5.cell? ⟨gb174,0,none⟩ = some (.int .i64 a0_0):=(qh BK174.out 0).trans rfl;have hcz8_1 : w5.cell? ⟨gb174,1,none⟩ = some (.int .i64 a0_1):=(qh BK174.out 1).trans rfl;have hcz8_2 : w5.cell? ⟨gb174,2,none⟩ = some (.int .i64 a0_2):=(qh BK174.out 2).trans rfl;have hfz8_0:=qi BK174.out 0;have hfz8_1:=qi BK174.out 1;have hfz8_2:=qi BK174.out 2;have hnb9:=NB175_176.out;have hnc9:=NB176_175.out;have hcz10_0 : w5.cell? ⟨gb175,0,none⟩ = some (.int .i64 a1_0):=(qh BK175.out 0).trans rfl;have hcz10_1 : w5.cell? ⟨gb175,1,none⟩ = some (.int .i64 a1_1):=(qh BK175.out 1).trans rfl;have hcz10_2 : w5.cell? ⟨gb175,2,none⟩ = some (.int .i64 a1_2):=(qh BK175.out 2).trans rfl;have hcz10_3 : w5.cell? ⟨gb175,3,none⟩ = some (.int .i64 a1_3):=(qh BK175.out 3).trans rfl;have hcz10_4 : w5.cell? ⟨gb175,4,none⟩ = some (.int .i64 a1_4):=(qh BK175.out 4).trans rfl;have hfz10_0:=qi BK175.out 0;have hfz10_1:=qi BK175.out 1;have hfz10_2:=qi BK175.out 2;have hfz10_3:=qi BK175.out 3;have hfz10_4:=qi BK175.out 4;have hcz11_0 : w5.cell? ⟨gb176,0,none⟩ = some (.int .i64 0):=(qh BK176.out 0).trans rfl;have hcz11_1 : w5.cell? ⟨gb176,1,none⟩ = some (.int .i64 0):=(qh BK176.out 1).trans rfl;have hcz11_2 : w5.cell? ⟨gb176,2,none⟩ = some (.int .i64 0):=(qh BK176.out 2).trans rfl;have hfz11_0:=qi BK176.out 0;have hfz11_1:=qi BK176.out 1;have hfz11_2:=qi BK176.out 2))
 refine bodyPost_ret (results_cell_row rfl _ _ gb176 72 #[.int .i64 (wrap64 (a0_0 + a1_2)),.int .i64 (wrap64 (a0_1 + a1_3)),.int .i64 (wrap64 (a0_2 + a1_4))] (0,0) _ rfl (by (with_reducible repeat (first|refine qb ?_ _|refine qe ?_|refine qc ?_ _));refine blk_put (cs:=#[.int .i64 (wrap64 (a0_0 + a1_2)),.int .i64 (wrap64 (a0_1 + a1_3)),.int .i64 0]) ?_ 2 _ rfl;(with_reducible repeat (first|refine qb ?_ _|refine qe ?_|refine qc ?_ _));refine blk_put (cs:=#[.int .i64 (wrap64 (a0_0 + a1_2)),.int .i64 0,.int .i64 0]) ?_ 1 _ rfl;(with_reducible repeat (first|refine qb ?_ _|refine qe ?_|refine qc ?_ _));refine blk_put (cs:=#[.int .i64 0,.int .i64 0,.int .i64 0]) ?_ 0 _ rfl;(with_reducible repeat (first|refine qb ?_ _|refine qe ?_|refine qc ?_ _));exact BK176.out) Try.underlying72 rfl (by kernel_rfl)) rfl ?_
 exact ⟨by first|rfl|(simp [errW_none,errW_some] <;> rfl)|(simp [*,errW_none,errW_some] <;> rfl),by repeat (first|(with_reducible first|exact HB.out|apply qf|apply qa|apply qd|refine qg ?_ GE174.out|refine qg ?_ GE175.out|refine qg ?_ GE176.out)|exact HB.out)⟩

-- NOT PRINTED: function 85 (impl_every)

end Go.Proofs.Ytfmemcffbfahhaa.QFnBest
