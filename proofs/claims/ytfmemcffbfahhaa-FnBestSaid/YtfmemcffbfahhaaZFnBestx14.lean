/- Lean functions for the Go functions that the law FnBest reaches, and that each Go function comes to just its Lean function's answer; by a program of this session. -/
import Derived.Test.YtfmemcffbfahhaaZFnBestx0
import Derived.Test.YtfmemcffbfahhaaZFnBestx1
import Derived.Test.YtfmemcffbfahhaaZFnBestx2
import Derived.Test.YtfmemcffbfahhaaZFnBestx5
import Derived.Test.YtfmemcffbfahhaaZFnBestx6
import Derived.Test.YtfmemcffbfahhaaZFnBestx10
import Derived.Test.YtfmemcffbfahhaaZFnBestx11
import Derived.Test.YtfmemcffbfahhaaZFnBestx12
import Derived.Test.YtfmemcffbfahhaaZFnBestx20
import Derived.Test.YtfmemcffbfahhaaZFnBestx13
namespace Go.Proofs.Ytfmemcffbfahhaa.QFnBest
open Go.RowKit Go.Proofs.YtfmemcffbfahhaaW.PrintWords Go.Proofs.YtfmemcffbfahhaaW.PrintLast Go.Proofs.YtfmemcffbfahhaaW.PrintMore
attribute [local go_sem] max2_int min2_int max_two min_two max_three min_three max_four min_four   -- for this text's walks alone
set_option linter.unusedVariables false
set_option linter.unusedSimpArgs false

attribute [local go_sem high] eqA72
/-! ### laws_FnBest: function 9 -/
def laws_FnBest.j0 : Nat → List (S130) → Bool → Int → List (S36) → Int → Int → Int → Int → Int → Int → Option (Bool)
 | 0,_,_,_,_,_,_,_,_,_,_=>none
 | k + 1,x4,x55,x403000,x403001,x408000,x408001,x408002,x413000,x413001,x413002=>if x55 = true then (none) else ((laws_worth.f k x403000 x403001 x4).bind fun t420=>(if (wrap64 ((wrap64 ((wrap64 (90000 * x408000)) + (wrap64 (300 * x408001)))) + x408002)) = t420 then ((impl_Better.f x413000 x413001 x413002 x408000 x408001 x408002).bind fun t421=>(if (t421 == (!(x413000 == x408000) || (!(x413001 == x408001) || (!(x413002 == x408002))))) = true then ((impl_CountMatches.f k x403000 x403001).bind fun t422=>((spec_CountMatches.f k x403000 x403001).bind fun t423=>(if t422 = t423 then ((impl_CountMatches.f k x403000 x403001).bind fun t424=>(some (decide (t424 > (x4.length : Int))))) else (none)))) else (none))) else (none)))
def laws_FnBest.f (k : Nat) (l0 : List Int) : Option (Bool):=(laws_big.f l0).bind fun t394=>(if t394 = true then (some true) else ((spec_DrawRightMatch.f k l0).bind fun bt395=>((impl_SumsOf.f k bt395.1 bt395.2.1 bt395.2.2).bind fun bt403=>((impl_BestSums.f k bt395.1 bt395.2.1).bind fun bt408=>((spec_BestSums.f k bt395.1 bt395.2.1).bind fun bt413=>(if bt403.2.2.2 = true then (if bt408.2.2.2 = true then (if (!(bt408.1 == bt413.1) || (!(bt408.2.1 == bt413.2.1) || (!(bt408.2.2.1 == bt413.2.2.1)))) = true then (none) else ((impl_Better.f bt403.1 bt403.2.1 bt403.2.2.1 bt408.1 bt408.2.1 bt408.2.2.1).bind fun t418=>(if t418 = true then (none) else ((impl_MatchOk.f k bt395.1 bt395.2.1 bt395.2.2).bind fun t419=>(laws_FnBest.j0 k bt395.2.2 (!t419) bt395.1 bt395.2.1 bt403.1 bt403.2.1 bt403.2.2.1 bt408.1 bt408.2.1 bt408.2.2.1))))) else (none)) else (none)))))))
theorem laws_FnBest.mono_l : ∀ k,(∀ y0 y1 y2 y3 y4 y5 y6 y7 y8 y9,LeO (laws_FnBest.j0 k y0 y1 y2 y3 y4 y5 y6 y7 y8 y9) (laws_FnBest.j0 (k + 1) y0 y1 y2 y3 y4 y5 y6 y7 y8 y9))
 | 0=>fun _ _ _ _ _ _ _ _ _ _ r h=>by simp [laws_FnBest.j0] at h
 | k + 1=>by
  have ih0:=laws_FnBest.mono_l k
  ·intro y0 y1 y2 y3 y4 y5 y6 y7 y8 y9
   unfold laws_FnBest.j0
   repeat' first
   | (with_reducible exact ih0 _ _ _ _ _ _ _ _ _ _)
   | (with_reducible exact impl_BestSums.mono _ _ _)
   | (with_reducible exact impl_CountMatches.mono _ _ _)
   | (with_reducible exact impl_MatchOk.mono _ _ _ _)
   | (with_reducible exact impl_SumsOf.mono _ _ _ _)
   | (with_reducible exact laws_worth.mono _ _ _ _)
   | (with_reducible exact spec_BestSums.mono _ _ _)
   | (with_reducible exact spec_CountMatches.mono _ _ _)
   | (with_reducible exact spec_DrawRightMatch.mono _ _)
   | (with_reducible exact LeO.refl _)
   | (with_reducible exact LeO.none _)
   | (with_reducible refine LeO.ite ?_ ?_)
   | (with_reducible refine LeO.bind ?_ (fun _=>?_))
   | exact ih0 _ _ _ _ _ _ _ _ _ _
   | exact impl_BestSums.mono _ _ _
   | exact impl_CountMatches.mono _ _ _
   | exact impl_MatchOk.mono _ _ _ _
   | exact impl_SumsOf.mono _ _ _ _
   | exact laws_worth.mono _ _ _ _
   | exact spec_BestSums.mono _ _ _
   | exact spec_CountMatches.mono _ _ _
   | exact spec_DrawRightMatch.mono _ _
   | exact LeO.none _
   | refine LeO.ite ?_ ?_
   | refine LeO.bind ?_ (fun _=>?_)
theorem laws_FnBest.mono : ∀ a0 k,LeO (laws_FnBest.f k a0) (laws_FnBest.f (k + 1) a0):=by
 intro a0 k
 have ih0:=laws_FnBest.mono_l k
 unfold laws_FnBest.f
 repeat' first
   | (with_reducible exact ih0 _ _ _ _ _ _ _ _ _ _)
   | (with_reducible exact impl_BestSums.mono _ _ _)
   | (with_reducible exact impl_CountMatches.mono _ _ _)
   | (with_reducible exact impl_MatchOk.mono _ _ _ _)
   | (with_reducible exact impl_SumsOf.mono _ _ _ _)
   | (with_reducible exact laws_worth.mono _ _ _ _)
   | (with_reducible exact spec_BestSums.mono _ _ _)
   | (with_reducible exact spec_CountMatches.mono _ _ _)
   | (with_reducible exact spec_DrawRightMatch.mono _ _)
   | (with_reducible exact LeO.refl _)
   | (with_reducible exact LeO.none _)
   | (with_reducible refine LeO.ite ?_ ?_)
   | (with_reducible refine LeO.bind ?_ (fun _=>?_))
   | exact ih0 _ _ _ _ _ _ _ _ _ _
   | exact impl_BestSums.mono _ _ _
   | exact impl_CountMatches.mono _ _ _
   | exact impl_MatchOk.mono _ _ _ _
   | exact impl_SumsOf.mono _ _ _ _
   | exact laws_worth.mono _ _ _ _
   | exact spec_BestSums.mono _ _ _
   | exact spec_CountMatches.mono _ _ _
   | exact spec_DrawRightMatch.mono _ _
   | exact LeO.none _
   | refine LeO.ite ?_ ?_
   | refine LeO.bind ?_ (fun _=>?_)
def laws_FnBest.T9 : Bool × List (List Nat × List Nat):=(true,[([],[]),([0],[0]),([1],[1]),([],[]),([3],[3]),([4],[4]),([2,5],[2,5]),([],[]),([7],[7]),([6,8],[6,8]),([],[]),([],[]),([10,11],[10,11]),([9,12],[9,12]),([13,12],[13]),([14],[14]),([14],[14]),([15,16,14,14],[14,15,16]),([14],[14]),([14],[14]),([18,19,14],[14,18,19]),([17,20,14],[14,17,20]),([14,21],[14,21]),([22,17],[22]),([23],[23]),([24,23,23],[23,24]),([23],[23]),([26,25,23],[23,26]),([25,27,23],[23,25,27]),([23,28],[23,28]),([29,27],[29]),([30],[30]),([31,30,30],[30,31]),([30],[30]),([33,30],[30,33]),([32,34,30],[30,32,34]),([30,35],[30,35]),([36,32,0,1,2,3,4,5,6,7,8,9,10,11,12,13,14,15,16,17,18,19,20,21,22,23,24,25,26,27,28,29,30,31,32,33,34,35,36],[36])])
def laws_FnBest.B9 : List Nat:=[0,1,3,0,8,24,63,0,128,511,0,0,3072,8191,16383,32767,32767,131071,32767,32767,819199,2097151,4194303,8388607,16777215,33554431,16777215,134217727,268435455,536870911,1073741823,2147483647,4294967295,2147483647,10737418239,34359738367,68719476735,137438953471]
theorem laws_FnBest.tab9 : rtab .any (opsOf Try.f9 9) = laws_FnBest.T9:=by kernel_rfl
theorem laws_FnBest.bits9 : waitsOk laws_FnBest.T9.2 laws_FnBest.B9 = true:=by kernel_rfl
set_option maxHeartbeats 8000000 in
set_option maxRecDepth 100000 in
theorem laws_FnBest.calls (k : Nat) (A0 : Option Addr) (c0 : Nat) (l0 : List Int) (r : Bool) (w : World) (hr0 : Kd.C (Kd.int .u8) w A0 l0.length l0) (hc0 : l0.length ≤ c0) (h : laws_FnBest.f k l0 = some r) :
  Calls Try.prog 9 #[.slice A0 l0.length c0] w fun e w'=>e = .returned (.bool r) ∧ Below w.heap.size w w':=by
 have hu26:=Try.underlying26
 have hu72:=Try.underlying72
 have HR0:=qn.mk hr0
 have HC0:=qn.mk hc0
 clear hr0 hc0
 have HB:=qn.mk (Below.refl w.heap.size w)
 have H : ((laws_big.f l0).bind fun t394=>(if t394 = true then (some true) else ((spec_DrawRightMatch.f k l0).bind fun bt395=>((impl_SumsOf.f k bt395.1 bt395.2.1 bt395.2.2).bind fun bt403=>((impl_BestSums.f k bt395.1 bt395.2.1).bind fun bt408=>((spec_BestSums.f k bt395.1 bt395.2.1).bind fun bt413=>(if bt403.2.2.2 = true then (if bt408.2.2.2 = true then (if (!(bt408.1 == bt413.1) || (!(bt408.2.1 == bt413.2.1) || (!(bt408.2.2.1 == bt413.2.2.1)))) = true then (none) else ((impl_Better.f bt403.1 bt403.2.1 bt403.2.2.1 bt408.1 bt408.2.1 bt408.2.2.1).bind fun t418=>(if t418 = true then (none) else ((impl_MatchOk.f k bt395.1 bt395.2.1 bt395.2.2).bind fun t419=>(laws_FnBest.j0 k bt395.2.2 (!t419) bt395.1 bt395.2.1 bt403.1 bt403.2.1 bt403.2.2.1 bt408.1 bt408.2.1 bt408.2.2.1))))) else (none)) else (none)))))))) = some r:=h
 clear h
 replace H:=Option.bind_eq_some_iff.mp H
 obtain ⟨t394,A20,H⟩:=H
 replace H : (if t394 = true then (some true) else ((spec_DrawRightMatch.f k l0).bind fun bt395=>((impl_SumsOf.f k bt395.1 bt395.2.1 bt395.2.2).bind fun bt403=>((impl_BestSums.f k bt395.1 bt395.2.1).bind fun bt408=>((spec_BestSums.f k bt395.1 bt395.2.1).bind fun bt413=>(if bt403.2.2.2 = true then (if bt408.2.2.2 = true then (if (!(bt408.1 == bt413.1) || (!(bt408.2.1 == bt413.2.1) || (!(bt408.2.2.1 == bt413.2.2.1)))) = true then (none) else ((impl_Better.f bt403.1 bt403.2.1 bt403.2.2.1 bt408.1 bt408.2.1 bt408.2.2.1).bind fun t418=>(if t418 = true then (none) else ((impl_MatchOk.f k bt395.1 bt395.2.1 bt395.2.2).bind fun t419=>(laws_FnBest.j0 k bt395.2.2 (!t419) bt395.1 bt395.2.1 bt403.1 bt403.2.1 bt403.2.2.1 bt408.1 bt408.2.1 bt408.2.2.1))))) else (none)) else (none))))))) = some r:=H
 have A2:=qn.mk A20
 clear A20
 by_cases c3 : t394 = true
 ·subst c3
  have H1 : (some true) = some r:=by rw [if_pos rfl] at H;exact H
  clear H
  have H:=H1
  clear H1
  obtain rfl:=Option.some.inj H
  go_enter Try.func9,Try.ntmps9
  go_wp2_with (first|((with_reducible refine gate_callee (f:=12) rfl ?_);refine goesL_ (some 12) rfl rfl Try.func12 (by kernel_rfl) rfl #[.slice A0 l0.length c0] rfl (by (try simp only [List.map_toArray,List.map_cons,List.map_nil]);first|done|rfl|(simp only [List.length_drop,List.length_take];rfl)) ?_;(with_reducible refine (laws_big.calls _ _ l0 true _ ?side1 ?side2 A2.out).mono ?_);(case side1=>repeat (first|exact HR0.out|(with_reducible refine Kd.C_alloc ?_ _)|(with_reducible refine Kd.C_drewN ?_ _)|(with_reducible refine Kd.C_drew ?_)));(case side2=>exact HC0.out);rintro e w' ⟨rfl,⟨nd,rfl⟩⟩;refine ⟨_,rfl,?_⟩))
  go_ret
  exact ⟨by first|rfl|(simp [errW_none,errW_some] <;> rfl)|(simp [*,errW_none,errW_some] <;> rfl),by repeat (first|(with_reducible first|exact HB.out|apply qf|apply qa|apply qd)|exact HB.out)⟩
 ·replace c3:=Bool.eq_false_iff.mpr c3
  subst c3
  have H1 : ((spec_DrawRightMatch.f k l0).bind fun bt395=>((impl_SumsOf.f k bt395.1 bt395.2.1 bt395.2.2).bind fun bt403=>((impl_BestSums.f k bt395.1 bt395.2.1).bind fun bt408=>((spec_BestSums.f k bt395.1 bt395.2.1).bind fun bt413=>(if bt403.2.2.2 = true then (if bt408.2.2.2 = true then (if (!(bt408.1 == bt413.1) || (!(bt408.2.1 == bt413.2.1) || (!(bt408.2.2.1 == bt413.2.2.1)))) = true then (none) else ((impl_Better.f bt403.1 bt403.2.1 bt403.2.2.1 bt408.1 bt408.2.1 bt408.2.2.1).bind fun t418=>(if t418 = true then (none) else ((impl_MatchOk.f k bt395.1 bt395.2.1 bt395.2.2).bind fun t419=>(laws_FnBest.j0 k bt395.2.2 (!t419) bt395.1 bt395.2.1 bt403.1 bt403.2.1 bt403.2.2.1 bt408.1 bt408.2.1 bt408.2.2.1))))) else (none)) else (none)))))) = some r:=by rw [if_neg (show ¬ (false = true) by decide)] at H;exact H
  clear H
  have H:=H1
  clear H1
  replace H:=Option.bind_eq_some_iff.mp H
  obtain ⟨⟨t395,t396,t399⟩,A40,H⟩:=H
  replace H : ((impl_SumsOf.f k t395 t396 t399).bind fun bt403=>((impl_BestSums.f k t395 t396).bind fun bt408=>((spec_BestSums.f k t395 t396).bind fun bt413=>(if bt403.2.2.2 = true then (if bt408.2.2.2 = true then (if (!(bt408.1 == bt413.1) || (!(bt408.2.1 == bt413.2.1) || (!(bt408.2.2.1 == bt413.2.2.1)))) = true then (none) else ((impl_Better.f bt403.1 bt403.2.1 bt403.2.2.1 bt408.1 bt408.2.1 bt408.2.2.1).bind fun t418=>(if t418 = true then (none) else ((impl_MatchOk.f k t395 t396 t399).bind fun t419=>(laws_FnBest.j0 k t399 (!t419) t395 t396 bt403.1 bt403.2.1 bt403.2.2.1 bt408.1 bt408.2.1 bt408.2.2.1))))) else (none)) else (none))))) = some r:=H
  have A4:=qn.mk A40
  clear A40
  replace H:=Option.bind_eq_some_iff.mp H
  obtain ⟨⟨t403,t404,t405,t406⟩,A50,H⟩:=H
  replace H : ((impl_BestSums.f k t395 t396).bind fun bt408=>((spec_BestSums.f k t395 t396).bind fun bt413=>(if t406 = true then (if bt408.2.2.2 = true then (if (!(bt408.1 == bt413.1) || (!(bt408.2.1 == bt413.2.1) || (!(bt408.2.2.1 == bt413.2.2.1)))) = true then (none) else ((impl_Better.f t403 t404 t405 bt408.1 bt408.2.1 bt408.2.2.1).bind fun t418=>(if t418 = true then (none) else ((impl_MatchOk.f k t395 t396 t399).bind fun t419=>(laws_FnBest.j0 k t399 (!t419) t395 t396 t403 t404 t405 bt408.1 bt408.2.1 bt408.2.2.1))))) else (none)) else (none)))) = some r:=H
  have A5:=qn.mk A50
  clear A50
  replace H:=Option.bind_eq_some_iff.mp H
  obtain ⟨⟨t408,t409,t410,t411⟩,A60,H⟩:=H
  replace H : ((spec_BestSums.f k t395 t396).bind fun bt413=>(if t406 = true then (if t411 = true then (if (!(t408 == bt413.1) || (!(t409 == bt413.2.1) || (!(t410 == bt413.2.2.1)))) = true then (none) else ((impl_Better.f t403 t404 t405 t408 t409 t410).bind fun t418=>(if t418 = true then (none) else ((impl_MatchOk.f k t395 t396 t399).bind fun t419=>(laws_FnBest.j0 k t399 (!t419) t395 t396 t403 t404 t405 t408 t409 t410))))) else (none)) else (none))) = some r:=H
  have A6:=qn.mk A60
  clear A60
  replace H:=Option.bind_eq_some_iff.mp H
  obtain ⟨⟨t413,t414,t415,t416⟩,A70,H⟩:=H
  replace H : (if t406 = true then (if t411 = true then (if (!(t408 == t413) || (!(t409 == t414) || (!(t410 == t415)))) = true then (none) else ((impl_Better.f t403 t404 t405 t408 t409 t410).bind fun t418=>(if t418 = true then (none) else ((impl_MatchOk.f k t395 t396 t399).bind fun t419=>(laws_FnBest.j0 k t399 (!t419) t395 t396 t403 t404 t405 t408 t409 t410))))) else (none)) else (none)) = some r:=H
  have A7:=qn.mk A70
  clear A70
  have HC8:=qn.mk H
  clear H
  go_enter Try.func9,Try.ntmps9
  go_upto_region 7 with (first|((with_reducible refine gate_callee (f:=12) rfl ?_);refine goesL_ (some 12) rfl rfl Try.func12 (by kernel_rfl) rfl #[.slice A0 l0.length c0] rfl (by (try simp only [List.map_toArray,List.map_cons,List.map_nil]);first|done|rfl|(simp only [List.length_drop,List.length_take];rfl)) ?_;(with_reducible refine (laws_big.calls _ _ l0 false _ ?side1 ?side2 A2.out).mono ?_);(case side1=>repeat (first|exact HR0.out|(with_reducible refine Kd.C_alloc ?_ _)|(with_reducible refine Kd.C_drewN ?_ _)|(with_reducible refine Kd.C_drew ?_)));(case side2=>exact HC0.out);rintro e w' ⟨rfl,⟨nd,rfl⟩⟩;refine ⟨_,rfl,?_⟩)|((with_reducible refine gate_callee (f:=41) rfl ?_);refine goesL_ (some 15) rfl rfl Try.func41 (by kernel_rfl) rfl #[.slice A0 l0.length c0] rfl (by (try simp only [List.map_toArray,List.map_cons,List.map_nil]);first|done|rfl|(simp only [List.length_drop,List.length_take];rfl)) ?_;(with_reducible refine (spec_DrawRightMatch.calls k _ _ l0 t395 t396 t399 _ ?side1 ?side2 A4.out).mono ?_);(case side1=>repeat (first|exact HR0.out|(with_reducible refine Kd.C_alloc ?_ _)|(with_reducible refine Kd.C_drewN ?_ _)|(with_reducible refine Kd.C_drew ?_)));(case side2=>exact HC0.out);rintro e w9 ⟨v397,v400,rfl,ho0,ho1,hb⟩;refine ⟨_,rfl,?_⟩;have n0_:=qn.mk (Kd.R_lower ho0 (qj (by repeat (first|(with_reducible first|exact HB.out|apply qf|apply qa|apply qd)|exact HB.out))));have n1_:=qn.mk (Kd.R_lower ho1 (qj (by repeat (first|(with_reducible first|exact HB.out|apply qf|apply qa|apply qd)|exact HB.out))));have n2_:=hs_ HB hb;clear HB;have HO398:=n0_;have HO401:=n1_;have HB:=n2_;clear n0_ n1_ n2_;(try clear hb);(try clear hb2);(try clear hk);(try clear hi);(try clear ho0);(try clear ho1))|((with_reducible refine gate_dst (N:=3) rfl ?_);(try (refine gate_guard (by rfl) ?_;dsimp only));refine box_event ?hg (N:=3) ?hd (cs:=#[.int .i64 0,.slice none 0 0]) (t:=26) ?hr ?_;(case hd=>rfl);(case hg=>rfl);(case hr=>first|(go_simp;done)|(go_simp;rfl));intro gb402 hg w10 hbox hb;have n0_:=rb_ HO398 hb;have n1_:=rb_ HO401 hb;have n2_:=hs_ HB hb;have n3_:=qn.mk (hbox);have n4_:=qn.mk ((by rw [hg];exact (qj (by repeat (first|(with_reducible first|exact HB.out|apply qf|apply qa|apply qd)|exact HB.out))) : w.heap.size ≤ gb402));have n5_:=qn.mk ((by rw [hg];exact (qj (by repeat (first|(with_reducible first|exact HB.out|apply qf|apply qa|apply qd)|exact HB.out))) : w.heap.size ≤ gb402));clear HO398;clear HO401;clear HB;have HO398:=n0_;have HO401:=n1_;have HB:=n2_;have BK402:=n3_;have GW402:=n4_;have GE402:=n5_;clear n0_ n1_ n2_ n3_ n4_ n5_;clear hb hbox hg;have hcz11_0 : w10.cell? ⟨gb402,0,none⟩ = some (.int .i64 0):=(qh BK402.out 0).trans rfl;have hcz11_1 : w10.cell? ⟨gb402,1,none⟩ = some (.slice none 0 0):=(qh BK402.out 1).trans rfl;have hfz11_0:=qi BK402.out 0;have hfz11_1:=qi BK402.out 1;obtain ⟨Ao12,co12,eo12⟩:=Kd.R_slice HO398.out;subst eo12;obtain ⟨Ao13,co13,eo13⟩:=Kd.R_slice HO401.out;subst eo13)|((with_reducible refine gate_callee (f:=42) rfl ?_);refine goesL_ (some 21) rfl rfl Try.func42 (by kernel_rfl) rfl #[.agg #[.int .i64 t395,.slice Ao12 t396.length co12],.slice Ao13 t399.length co13] rfl (by (try simp only [List.map_toArray,List.map_cons,List.map_nil]);first|done|rfl|(simp only [List.length_drop,List.length_take];rfl)) ?_;(with_reducible refine (impl_SumsOf.calls k t395 _ _ t396 _ _ t399 t403 t404 t405 t406 _ ?side1 ?side2 ?side3 ?side4 A5.out).mono ?_);(case side1=>refine (Kd.R_reads' (e:=36) (base:=w.heap.size) (ok:=fun k_=>True) (n:=t396.length) (c:=co12) ?_).2.2;exact (by (with_reducible repeat (first|apply Kd.R_alloc|apply Kd.R_drewN|apply Kd.R_drew));exact (Kd.R_mono (Kd.R_far (p:=⟨gb402,1,none⟩) (Kd.R_far (p:=⟨gb402,0,none⟩) (Kd.R_types HO398.out BK402.out (by decide)) (fun _ hk=>hk.2) (.int .i64 t395)) (fun _ hk=>hk.2) (.slice Ao12 t396.length co12)) (fun _ h_=>h_.1))));(case side2=>exact (Kd.R_reads' HO398.out).2.1);(case side3=>refine (Kd.R_reads' (e:=130) (base:=w.heap.size) (ok:=fun k_=>True) (n:=t399.length) (c:=co13) ?_).2.2;exact (by (with_reducible repeat (first|apply Kd.R_alloc|apply Kd.R_drewN|apply Kd.R_drew));exact (Kd.R_mono (Kd.R_far (p:=⟨gb402,1,none⟩) (Kd.R_far (p:=⟨gb402,0,none⟩) (Kd.R_types HO401.out BK402.out (by decide)) (fun _ hk=>hk.2) (.int .i64 t395)) (fun _ hk=>hk.2) (.slice Ao12 t396.length co12)) (fun _ h_=>h_.1))));(case side4=>exact (Kd.R_reads' HO401.out).2.1);rintro e w14 ⟨rfl,hb⟩;refine ⟨_,rfl,?_⟩;have n0_:=qn.mk (Kd.R_below (by (with_reducible repeat (first|apply Kd.R_alloc|apply Kd.R_drewN|apply Kd.R_drew));exact (Kd.R_mono (Kd.R_far (p:=⟨gb402,1,none⟩) (Kd.R_far (p:=⟨gb402,0,none⟩) (Kd.R_types HO398.out BK402.out (by decide)) (fun _ hk=>hk.2) (.int .i64 t395)) (fun _ hk=>hk.2) (.slice Ao12 t396.length co12)) (fun _ h_=>h_.1))) hb);have n1_:=qn.mk (Kd.R_below (by (with_reducible repeat (first|apply Kd.R_alloc|apply Kd.R_drewN|apply Kd.R_drew));exact (Kd.R_mono (Kd.R_far (p:=⟨gb402,1,none⟩) (Kd.R_far (p:=⟨gb402,0,none⟩) (Kd.R_types HO401.out BK402.out (by decide)) (fun _ hk=>hk.2) (.int .i64 t395)) (fun _ hk=>hk.2) (.slice Ao12 t396.length co12)) (fun _ h_=>h_.1))) hb);have n2_:=qn.mk (ql (g:=gb402) (o:=.cells #[.int .i64 t395,.slice Ao12 t396.length co12] 26 (0,0)) (by (with_reducible repeat (first|refine qb ?_ _|refine qe ?_|refine qc ?_ _));refine blk_put (cs:=#[.int .i64 t395,.slice none 0 0]) ?_ 1 _ rfl;(with_reducible repeat (first|refine qb ?_ _|refine qe ?_|refine qc ?_ _));refine blk_put (cs:=#[.int .i64 0,.slice none 0 0]) ?_ 0 _ rfl;(with_reducible repeat (first|refine qb ?_ _|refine qe ?_|refine qc ?_ _));exact BK402.out) hb);have n3_:=hs_ HB hb;clear HO398;clear HO401;clear BK402;clear HB;have HO398:=n0_;have HO401:=n1_;have BK402:=n2_;have HB:=n3_;clear n0_ n1_ n2_ n3_;(try clear hb);(try clear hb2);(try clear hk);(try clear hi))|((with_reducible refine gate_dst (N:=5) rfl ?_);(try (refine gate_guard (by rfl) ?_;dsimp only));refine box_event ?hg (N:=5) ?hd (cs:=#[.int .i64 0,.int .i64 0,.int .i64 0]) (t:=72) ?hr ?_;(case hd=>rfl);(case hg=>rfl);(case hr=>first|(go_simp;done)|(go_simp;rfl));intro gb407 hg w15 hbox hb;have n0_:=rb_ HO398 hb;have n1_:=rb_ HO401 hb;have n2_:=bb_ BK402 hb;have n3_:=hs_ HB hb;have n4_:=qn.mk (hbox);have n5_:=qn.mk ((by rw [hg];exact (qj (by repeat (first|(with_reducible first|exact HB.out|apply qf|apply qa|apply qd|refine qg ?_ GE402.out)|exact HB.out))) : w.heap.size ≤ gb407));have n6_:=qn.mk ((by rw [hg];exact (qj (by repeat (first|(with_reducible first|exact HB.out|apply qf|apply qa|apply qd|refine qg ?_ GE402.out)|exact HB.out))) : w.heap.size ≤ gb407));have n7_:=qn.mk ((by rw [hg];exact nl_ BK402 : gb402 ≠ gb407));have n8_:=qn.mk ((by rw [hg];exact ng_ BK402 : gb407 ≠ gb402));clear HO398;clear HO401;clear BK402;clear HB;have HO398:=n0_;have HO401:=n1_;have BK402:=n2_;have HB:=n3_;have BK407:=n4_;have GW407:=n5_;have GE407:=n6_;have NB402_407:=n7_;have NB407_402:=n8_;clear n0_ n1_ n2_ n3_ n4_ n5_ n6_ n7_ n8_;clear hb hbox hg;have hnb16:=NB407_402.out;have hnc16:=NB402_407.out;have hcz17_0 : w15.cell? ⟨gb407,0,none⟩ = some (.int .i64 0):=(qh BK407.out 0).trans rfl;have hcz17_1 : w15.cell? ⟨gb407,1,none⟩ = some (.int .i64 0):=(qh BK407.out 1).trans rfl;have hcz17_2 : w15.cell? ⟨gb407,2,none⟩ = some (.int .i64 0):=(qh BK407.out 2).trans rfl;have hfz17_0:=qi BK407.out 0;have hfz17_1:=qi BK407.out 1;have hfz17_2:=qi BK407.out 2;have hcz18_0 : w15.cell? ⟨gb402,0,none⟩ = some (.int .i64 t395):=(qh BK402.out 0).trans rfl;have hcz18_1 : w15.cell? ⟨gb402,1,none⟩ = some (.slice Ao12 t396.length co12):=(qh BK402.out 1).trans rfl;have hfz18_0:=qi BK402.out 0;have hfz18_1:=qi BK402.out 1)|((with_reducible refine gate_callee (f:=39) rfl ?_);refine goesL_ (some 26) rfl rfl Try.func39 (by kernel_rfl) rfl #[.agg #[.int .i64 t395,.slice Ao12 t396.length co12]] rfl (by (try simp only [List.map_toArray,List.map_cons,List.map_nil]);first|done|rfl|(simp only [List.length_drop,List.length_take];rfl)) ?_;(with_reducible refine (impl_BestSums.calls k t395 _ _ t396 t408 t409 t410 t411 _ ?side1 ?side2 A6.out).mono ?_);(case side1=>refine (Kd.R_reads' (e:=36) (base:=w.heap.size) (ok:=fun k_=>True) (n:=t396.length) (c:=co12) ?_).2.2;exact (by (with_reducible repeat (first|apply Kd.R_alloc|apply Kd.R_drewN|apply Kd.R_drew));exact (Kd.R_mono (Kd.R_far (p:=⟨gb407,2,none⟩) (Kd.R_far (p:=⟨gb407,1,none⟩) (Kd.R_far (p:=⟨gb407,0,none⟩) (Kd.R_types HO398.out BK407.out (by decide)) (fun _ hk=>hk.2) (.int .i64 t403)) (fun _ hk=>hk.2) (.int .i64 t404)) (fun _ hk=>hk.2) (.int .i64 t405)) (fun _ h_=>h_.1))));(case side2=>exact (Kd.R_reads' HO398.out).2.1);rintro e w19 ⟨rfl,hb⟩;refine ⟨_,rfl,?_⟩;have n0_:=qn.mk (Kd.R_below (by (with_reducible repeat (first|apply Kd.R_alloc|apply Kd.R_drewN|apply Kd.R_drew));exact (Kd.R_mono (Kd.R_far (p:=⟨gb407,2,none⟩) (Kd.R_far (p:=⟨gb407,1,none⟩) (Kd.R_far (p:=⟨gb407,0,none⟩) (Kd.R_types HO398.out BK407.out (by decide)) (fun _ hk=>hk.2) (.int .i64 t403)) (fun _ hk=>hk.2) (.int .i64 t404)) (fun _ hk=>hk.2) (.int .i64 t405)) (fun _ h_=>h_.1))) hb);have n1_:=qn.mk (Kd.R_below (by (with_reducible repeat (first|apply Kd.R_alloc|apply Kd.R_drewN|apply Kd.R_drew));exact (Kd.R_mono (Kd.R_far (p:=⟨gb407,2,none⟩) (Kd.R_far (p:=⟨gb407,1,none⟩) (Kd.R_far (p:=⟨gb407,0,none⟩) (Kd.R_types HO401.out BK407.out (by decide)) (fun _ hk=>hk.2) (.int .i64 t403)) (fun _ hk=>hk.2) (.int .i64 t404)) (fun _ hk=>hk.2) (.int .i64 t405)) (fun _ h_=>h_.1))) hb);have n2_:=qn.mk (ql (g:=gb402) (o:=.cells #[.int .i64 t395,.slice Ao12 t396.length co12] 26 (0,0)) (by (with_reducible repeat (first|refine qb ?_ _|refine qe ?_|refine qc ?_ _));refine blk_far ?_ NB402_407.out _;(with_reducible repeat (first|refine qb ?_ _|refine qe ?_|refine qc ?_ _));refine blk_far ?_ NB402_407.out _;(with_reducible repeat (first|refine qb ?_ _|refine qe ?_|refine qc ?_ _));refine blk_far ?_ NB402_407.out _;(with_reducible repeat (first|refine qb ?_ _|refine qe ?_|refine qc ?_ _));exact BK402.out) hb);have n3_:=qn.mk (ql (g:=gb407) (o:=.cells #[.int .i64 t403,.int .i64 t404,.int .i64 t405] 72 (0,0)) (by (with_reducible repeat (first|refine qb ?_ _|refine qe ?_|refine qc ?_ _));refine blk_put (cs:=#[.int .i64 t403,.int .i64 t404,.int .i64 0]) ?_ 2 _ rfl;(with_reducible repeat (first|refine qb ?_ _|refine qe ?_|refine qc ?_ _));refine blk_put (cs:=#[.int .i64 t403,.int .i64 0,.int .i64 0]) ?_ 1 _ rfl;(with_reducible repeat (first|refine qb ?_ _|refine qe ?_|refine qc ?_ _));refine blk_put (cs:=#[.int .i64 0,.int .i64 0,.int .i64 0]) ?_ 0 _ rfl;(with_reducible repeat (first|refine qb ?_ _|refine qe ?_|refine qc ?_ _));exact BK407.out) hb);have n4_:=hs_ HB hb;clear HO398;clear HO401;clear BK402;clear BK407;clear HB;have HO398:=n0_;have HO401:=n1_;have BK402:=n2_;have BK407:=n3_;have HB:=n4_;clear n0_ n1_ n2_ n3_ n4_;(try clear hb);(try clear hb2);(try clear hk);(try clear hi))|((with_reducible refine gate_dst (N:=7) rfl ?_);(try (refine gate_guard (by rfl) ?_;dsimp only));refine box_event ?hg (N:=7) ?hd (cs:=#[.int .i64 0,.int .i64 0,.int .i64 0]) (t:=72) ?hr ?_;(case hd=>rfl);(case hg=>rfl);(case hr=>first|(go_simp;done)|(go_simp;rfl));intro gb412 hg w20 hbox hb;have n0_:=rb_ HO398 hb;have n1_:=rb_ HO401 hb;have n2_:=bb_ BK402 hb;have n3_:=bb_ BK407 hb;have n4_:=hs_ HB hb;have n5_:=qn.mk (hbox);have n6_:=qn.mk ((by rw [hg];exact (qj (by repeat (first|(with_reducible first|exact HB.out|apply qf|apply qa|apply qd|refine qg ?_ GE402.out|refine qg ?_ GE407.out)|exact HB.out))) : w.heap.size ≤ gb412));have n7_:=qn.mk ((by rw [hg];exact (qj (by repeat (first|(with_reducible first|exact HB.out|apply qf|apply qa|apply qd|refine qg ?_ GE402.out|refine qg ?_ GE407.out)|exact HB.out))) : w.heap.size ≤ gb412));have n8_:=qn.mk ((by rw [hg];exact nl_ BK402 : gb402 ≠ gb412));have n9_:=qn.mk ((by rw [hg];exact ng_ BK402 : gb412 ≠ gb402));have n10_:=qn.mk ((by rw [hg];exact nl_ BK407 : gb407 ≠ gb412));have n11_:=qn.mk ((by rw [hg];exact ng_ BK407 : gb412 ≠ gb407));clear HO398;clear HO401;clear BK402;clear BK407;clear HB;have HO398:=n0_;have HO401:=n1_;have BK402:=n2_;have BK407:=n3_;have HB:=n4_;have BK412:=n5_;have GW412:=n6_;have GE412:=n7_;have NB402_412:=n8_;have NB412_402:=n9_;have NB407_412:=n10_;have NB412_407:=n11_;clear n0_ n1_ n2_ n3_ n4_ n5_ n6_ n7_ n8_ n9_ n10_ n11_;clear hb hbox hg;have hnb21:=NB412_402.out;have hnc21:=NB402_412.out;have hnb22:=NB412_407.out;have hnc22:=NB407_412.out;have hcz23_0 : w20.cell? ⟨gb412,0,none⟩ = some (.int .i64 0):=(qh BK412.out 0).trans rfl;have hcz23_1 : w20.cell? ⟨gb412,1,none⟩ = some (.int .i64 0):=(qh BK412.out 1).trans rfl;have hcz23_2 : w20.cell? ⟨gb412,2,none⟩ = some (.int .i64 0):=(qh BK412.out 2).trans rfl;have hfz23_0:=qi BK412.out 0;have hfz23_1:=qi BK412.out 1;have hfz23_2:=qi BK412.out 2;have hcz24_0 : w20.cell? ⟨gb402,0,none⟩ = some (.int .i64 t395):=(qh BK402.out 0).trans rfl;have hcz24_1 : w20.cell? ⟨gb402,1,none⟩ = some (.slice Ao12 t396.length co12):=(qh BK402.out 1).trans rfl;have hfz24_0:=qi BK402.out 0;have hfz24_1:=qi BK402.out 1)|((with_reducible refine gate_callee (f:=38) rfl ?_);refine goesL_ (some 31) rfl rfl Try.func38 (by kernel_rfl) rfl #[.agg #[.int .i64 t395,.slice Ao12 t396.length co12]] rfl (by (try simp only [List.map_toArray,List.map_cons,List.map_nil]);first|done|rfl|(simp only [List.length_drop,List.length_take];rfl)) ?_;(with_reducible refine (spec_BestSums.calls k t395 _ _ t396 t413 t414 t415 t416 _ ?side1 ?side2 A7.out).mono ?_);(case side1=>refine (Kd.R_reads' (e:=36) (base:=w.heap.size) (ok:=fun k_=>True) (n:=t396.length) (c:=co12) ?_).2.2;exact (by (with_reducible repeat (first|apply Kd.R_alloc|apply Kd.R_drewN|apply Kd.R_drew));exact (Kd.R_mono (Kd.R_far (p:=⟨gb412,2,none⟩) (Kd.R_far (p:=⟨gb412,1,none⟩) (Kd.R_far (p:=⟨gb412,0,none⟩) (Kd.R_types HO398.out BK412.out (by decide)) (fun _ hk=>hk.2) (.int .i64 t408)) (fun _ hk=>hk.2) (.int .i64 t409)) (fun _ hk=>hk.2) (.int .i64 t410)) (fun _ h_=>h_.1))));(case side2=>exact (Kd.R_reads' HO398.out).2.1);rintro e w25 ⟨rfl,hb⟩;refine ⟨_,rfl,?_⟩;have n0_:=qn.mk (Kd.R_below (by (with_reducible repeat (first|apply Kd.R_alloc|apply Kd.R_drewN|apply Kd.R_drew));exact (Kd.R_mono (Kd.R_far (p:=⟨gb412,2,none⟩) (Kd.R_far (p:=⟨gb412,1,none⟩) (Kd.R_far (p:=⟨gb412,0,none⟩) (Kd.R_types HO398.out BK412.out (by decide)) (fun _ hk=>hk.2) (.int .i64 t408)) (fun _ hk=>hk.2) (.int .i64 t409)) (fun _ hk=>hk.2) (.int .i64 t410)) (fun _ h_=>h_.1))) hb);have n1_:=qn.mk (Kd.R_below (by (with_reducible repeat (first|apply Kd.R_alloc|apply Kd.R_drewN|apply Kd.R_drew));exact (Kd.R_mono (Kd.R_far (p:=⟨gb412,2,none⟩) (Kd.R_far (p:=⟨gb412,1,none⟩) (Kd.R_far (p:=⟨gb412,0,none⟩) (Kd.R_types HO401.out BK412.out (by decide)) (fun _ hk=>hk.2) (.int .i64 t408)) (fun _ hk=>hk.2) (.int .i64 t409)) (fun _ hk=>hk.2) (.int .i64 t410)) (fun _ h_=>h_.1))) hb);have n2_:=qn.mk (ql (g:=gb402) (o:=.cells #[.int .i64 t395,.slice Ao12 t396.length co12] 26 (0,0)) (by (with_reducible repeat (first|refine qb ?_ _|refine qe ?_|refine qc ?_ _));refine blk_far ?_ NB402_412.out _;(with_reducible repeat (first|refine qb ?_ _|refine qe ?_|refine qc ?_ _));refine blk_far ?_ NB402_412.out _;(with_reducible repeat (first|refine qb ?_ _|refine qe ?_|refine qc ?_ _));refine blk_far ?_ NB402_412.out _;(with_reducible repeat (first|refine qb ?_ _|refine qe ?_|refine qc ?_ _));exact BK402.out) hb);have n3_:=qn.mk (ql (g:=gb407) (o:=.cells #[.int .i64 t403,.int .i64 t404,.int .i64 t405] 72 (0,0)) (by (with_reducible repeat (first|refine qb ?_ _|refine qe ?_|refine qc ?_ _));refine blk_far ?_ NB407_412.out _;(with_reducible repeat (first|refine qb ?_ _|refine qe ?_|refine qc ?_ _));refine blk_far ?_ NB407_412.out _;(with_reducible repeat (first|refine qb ?_ _|refine qe ?_|refine qc ?_ _));refine blk_far ?_ NB407_412.out _;(with_reducible repeat (first|refine qb ?_ _|refine qe ?_|refine qc ?_ _));exact BK407.out) hb);have n4_:=qn.mk (ql (g:=gb412) (o:=.cells #[.int .i64 t408,.int .i64 t409,.int .i64 t410] 72 (0,0)) (by (with_reducible repeat (first|refine qb ?_ _|refine qe ?_|refine qc ?_ _));refine blk_put (cs:=#[.int .i64 t408,.int .i64 t409,.int .i64 0]) ?_ 2 _ rfl;(with_reducible repeat (first|refine qb ?_ _|refine qe ?_|refine qc ?_ _));refine blk_put (cs:=#[.int .i64 t408,.int .i64 0,.int .i64 0]) ?_ 1 _ rfl;(with_reducible repeat (first|refine qb ?_ _|refine qe ?_|refine qc ?_ _));refine blk_put (cs:=#[.int .i64 0,.int .i64 0,.int .i64 0]) ?_ 0 _ rfl;(with_reducible repeat (first|refine qb ?_ _|refine qe ?_|refine qc ?_ _));exact BK412.out) hb);have n5_:=hs_ HB hb;clear HO398;clear HO401;clear BK402;clear BK407;clear BK412;clear HB;have HO398:=n0_;have HO401:=n1_;have BK402:=n2_;have BK407:=n3_;have BK412:=n4_;have HB:=n5_;clear n0_ n1_ n2_ n3_ n4_ n5_;(try clear hb);(try clear hb2);(try clear hk);(try clear hi))|((with_reducible refine gate_dst (N:=9) rfl ?_);(try (refine gate_guard (by rfl) ?_;dsimp only));refine box_event ?hg (N:=9) ?hd (cs:=#[.int .i64 0,.int .i64 0,.int .i64 0]) (t:=72) ?hr ?_;(case hd=>rfl);(case hg=>rfl);(case hr=>first|(go_simp;done)|(go_simp;rfl));intro gb417 hg w26 hbox hb;have n0_:=rb_ HO398 hb;have n1_:=rb_ HO401 hb;have n2_:=bb_ BK402 hb;have n3_:=bb_ BK407 hb;have n4_:=bb_ BK412 hb;have n5_:=hs_ HB hb;have n6_:=qn.mk (hbox);have n7_:=qn.mk ((by rw [hg];exact (qj (by repeat (first|(with_reducible first|exact HB.out|apply qf|apply qa|apply qd|refine qg ?_ GE402.out|refine qg ?_ GE407.out|refine qg ?_ GE412.out)|exact HB.out))) : w.heap.size ≤ gb417));have n8_:=qn.mk ((by rw [hg];exact (qj (by repeat (first|(with_reducible first|exact HB.out|apply qf|apply qa|apply qd|refine qg ?_ GE402.out|refine qg ?_ GE407.out|refine qg ?_ GE412.out)|exact HB.out))) : w.heap.size ≤ gb417));have n9_:=qn.mk ((by rw [hg];exact nl_ BK402 : gb402 ≠ gb417));have n10_:=qn.mk ((by rw [hg];exact ng_ BK402 : gb417 ≠ gb402));have n11_:=qn.mk ((by rw [hg];exact nl_ BK407 : gb407 ≠ gb417));have n12_:=qn.mk ((by rw [hg];exact ng_ BK407 : gb417 ≠ gb407));have n13_:=qn.mk ((by rw [hg];exact nl_ BK412 : gb412 ≠ gb417));have n14_:=qn.mk ((by rw [hg];exact ng_ BK412 : gb417 ≠ gb412));clear HO398;clear HO401;clear BK402;clear BK407;clear BK412;clear HB;have HO398:=n0_;have HO401:=n1_;have BK402:=n2_;have BK407:=n3_;have BK412:=n4_;have HB:=n5_;have BK417:=n6_;have GW417:=n7_;have GE417:=n8_;have NB402_417:=n9_;have NB417_402:=n10_;have NB407_417:=n11_;have NB417_407:=n12_;have NB412_417:=n13_;have NB417_412:=n14_;clear n0_ n1_ n2_ n3_ n4_ n5_ n6_ n7_ n8_ n9_ n10_ n11_ n12_ n13_ n14_;clear hb hbox hg;have hnb27:=NB417_402.out;have hnc27:=NB402_417.out;have hnb28:=NB417_407.out;have hnc28:=NB407_417.out;have hnb29:=NB417_412.out;have hnc29:=NB412_417.out;have hcz30_0 : w26.cell? ⟨gb417,0,none⟩ = some (.int .i64 0):=(qh BK417.out 0).trans rfl;have hcz30_1 : w26.cell? ⟨gb417,1,none⟩ = some (.int .i64 0):=(qh BK417.out 1).trans rfl;have hcz30_2 : w26.cell? ⟨gb417,2,none⟩ = some (.int .i64 0):=(qh BK417.out 2).trans rfl;have hfz30_0:=qi BK417.out 0;have hfz30_1:=qi BK417.out 1;have hfz30_2:=qi BK417.out 2))
  (try simp only [Act.put,List.setIfInBounds_toArray,List.set_cons_zero,List.set_cons_succ])
  go_cut [55] (fun v55 wc=>∃ (kq : Nat) (x55_7 : Bool),v55 = .bool x55_7 ∧ qn (laws_FnBest.j0 kq t399 x55_7 t395 t396 t403 t404 t405 t408 t409 t410 = some r) ∧ qn (kq ≤ k) ∧ qn (Kd.R k130 130 wc w.heap.size (fun _=>True) (.slice Ao13 t399.length co13) t399) ∧ qn (Kd.R k36 36 wc w.heap.size (fun _=>True) (.slice Ao12 t396.length co12) t396) ∧ qn (wc.heap[gb402]? = some (.cells #[.int .i64 t395,(.slice Ao12 t396.length co12)] 26 (0,0))) ∧ qn (wc.heap[gb407]? = some (.cells #[.int .i64 t403,.int .i64 t404,.int .i64 t405] 72 (0,0))) ∧ qn (wc.heap[gb412]? = some (.cells #[.int .i64 t408,.int .i64 t409,.int .i64 t410] 72 (0,0))) ∧ qn (wc.heap[gb417]? = some (.cells #[.int .i64 t413,.int .i64 t414,.int .i64 t415] 72 (0,0))) ∧ qn (Below w.heap.size w wc))
  case first =>
   have H:=HC8.out
   clear HC8
   by_cases c31 : t406 = true
   ·subst c31
    have H1 : (if t411 = true then (if (!(t408 == t413) || (!(t409 == t414) || (!(t410 == t415)))) = true then (none) else ((impl_Better.f t403 t404 t405 t408 t409 t410).bind fun t418=>(if t418 = true then (none) else ((impl_MatchOk.f k t395 t396 t399).bind fun t419=>(laws_FnBest.j0 k t399 (!t419) t395 t396 t403 t404 t405 t408 t409 t410))))) else (none)) = some r:=by rw [if_pos rfl] at H;exact H
    clear H
    have H:=H1
    clear H1
    by_cases c32 : t411 = true
    ·subst c32
     have H1 : (if (!(t408 == t413) || (!(t409 == t414) || (!(t410 == t415)))) = true then (none) else ((impl_Better.f t403 t404 t405 t408 t409 t410).bind fun t418=>(if t418 = true then (none) else ((impl_MatchOk.f k t395 t396 t399).bind fun t419=>(laws_FnBest.j0 k t399 (!t419) t395 t396 t403 t404 t405 t408 t409 t410))))) = some r:=by rw [if_pos rfl] at H;exact H
     clear H
     have H:=H1
     clear H1
     by_cases c33 : (!(t408 == t413) || (!(t409 == t414) || (!(t410 == t415)))) = true
     ·rw [if_pos c33] at H
      exact absurd H (by simp)
     ·rw [if_neg c33] at H
      have c33b0 : (!(t408 == t413) || (!(t409 == t414) || (!(t410 == t415)))) = false:=by simpa using c33
      clear c33
      (first|rw [c33b0]|(simp only [i64_w,i32_w];rw [c33b0])|skip)
      replace H:=Option.bind_eq_some_iff.mp H
      obtain ⟨t418,A410,H⟩:=H
      replace H : (if t418 = true then (none) else ((impl_MatchOk.f k t395 t396 t399).bind fun t419=>(laws_FnBest.j0 k t399 (!t419) t395 t396 t403 t404 t405 t408 t409 t410))) = some r:=H
      have A41:=qn.mk A410
      clear A410
      by_cases c42 : t418 = true
      ·subst c42
       have H1 : (none) = some r:=by rw [if_pos rfl] at H;exact H
       exact absurd H1 (by simp)
      ·replace c42:=Bool.eq_false_iff.mpr c42
       subst c42
       have H1 : ((impl_MatchOk.f k t395 t396 t399).bind fun t419=>(laws_FnBest.j0 k t399 (!t419) t395 t396 t403 t404 t405 t408 t409 t410)) = some r:=by rw [if_neg (show ¬ (false = true) by decide)] at H;exact H
       clear H
       have H:=H1
       clear H1
       replace H:=Option.bind_eq_some_iff.mp H
       obtain ⟨t419,A530,H⟩:=H
       replace H : (laws_FnBest.j0 k t399 (!t419) t395 t396 t403 t404 t405 t408 t409 t410) = some r:=H
       have A53:=qn.mk A530
       clear A530
       have H':=qn.mk H
       clear H
       have hnb54:=NB412_402.out
       have hnc54:=NB402_412.out
       have hnb55:=NB412_407.out
       have hnc55:=NB407_412.out
       have hnb56:=NB412_417.out
       have hnc56:=NB417_412.out
       have hcz57_0 : w26.cell? ⟨gb412,0,none⟩ = some (.int .i64 t408):=(qh BK412.out 0).trans rfl
       have hcz57_1 : w26.cell? ⟨gb412,1,none⟩ = some (.int .i64 t409):=(qh BK412.out 1).trans rfl
       have hcz57_2 : w26.cell? ⟨gb412,2,none⟩ = some (.int .i64 t410):=(qh BK412.out 2).trans rfl
       have hfz57_0:=qi BK412.out 0
       have hfz57_1:=qi BK412.out 1
       have hfz57_2:=qi BK412.out 2
       have hnb58:=NB417_402.out
       have hnc58:=NB402_417.out
       have hnb59:=NB417_407.out
       have hnc59:=NB407_417.out
       have hcz60_0 : w26.cell? ⟨gb417,0,none⟩ = some (.int .i64 0):=(qh BK417.out 0).trans rfl
       have hcz60_1 : w26.cell? ⟨gb417,1,none⟩ = some (.int .i64 0):=(qh BK417.out 1).trans rfl
       have hcz60_2 : w26.cell? ⟨gb417,2,none⟩ = some (.int .i64 0):=(qh BK417.out 2).trans rfl
       have hfz60_0:=qi BK417.out 0
       have hfz60_1:=qi BK417.out 1
       have hfz60_2:=qi BK417.out 2
       have hnb61:=NB407_402.out
       have hnc61:=NB402_407.out
       have hcz62_0 : w26.cell? ⟨gb407,0,none⟩ = some (.int .i64 t403):=(qh BK407.out 0).trans rfl
       have hcz62_1 : w26.cell? ⟨gb407,1,none⟩ = some (.int .i64 t404):=(qh BK407.out 1).trans rfl
       have hcz62_2 : w26.cell? ⟨gb407,2,none⟩ = some (.int .i64 t405):=(qh BK407.out 2).trans rfl
       have hfz62_0:=qi BK407.out 0
       have hfz62_1:=qi BK407.out 1
       have hfz62_2:=qi BK407.out 2
       go_wp2_with (first|(go_at_call 43;(with_reducible refine (impl_Better.calls t403 t404 t405 t408 t409 t410 false _ A41.out).mono ?_);rintro e w63 ⟨rfl,hb⟩;have n0_:=qn.mk (Kd.R_below (by (with_reducible repeat (first|apply Kd.R_alloc|apply Kd.R_drewN|apply Kd.R_drew));exact (Kd.R_mono (Kd.R_far (p:=⟨gb417,2,none⟩) (Kd.R_far (p:=⟨gb417,1,none⟩) (Kd.R_far (p:=⟨gb417,0,none⟩) (Kd.R_types HO398.out BK417.out (by decide)) (fun _ hk=>hk.2) (.int .i64 t413)) (fun _ hk=>hk.2) (.int .i64 t414)) (fun _ hk=>hk.2) (.int .i64 t415)) (fun _ h_=>h_.1))) hb);have n1_:=qn.mk (Kd.R_below (by (with_reducible repeat (first|apply Kd.R_alloc|apply Kd.R_drewN|apply Kd.R_drew));exact (Kd.R_mono (Kd.R_far (p:=⟨gb417,2,none⟩) (Kd.R_far (p:=⟨gb417,1,none⟩) (Kd.R_far (p:=⟨gb417,0,none⟩) (Kd.R_types HO401.out BK417.out (by decide)) (fun _ hk=>hk.2) (.int .i64 t413)) (fun _ hk=>hk.2) (.int .i64 t414)) (fun _ hk=>hk.2) (.int .i64 t415)) (fun _ h_=>h_.1))) hb);have n2_:=qn.mk (ql (g:=gb402) (o:=.cells #[.int .i64 t395,.slice Ao12 t396.length co12] 26 (0,0)) (by (with_reducible repeat (first|refine qb ?_ _|refine qe ?_|refine qc ?_ _));refine blk_far ?_ NB402_417.out _;(with_reducible repeat (first|refine qb ?_ _|refine qe ?_|refine qc ?_ _));refine blk_far ?_ NB402_417.out _;(with_reducible repeat (first|refine qb ?_ _|refine qe ?_|refine qc ?_ _));refine blk_far ?_ NB402_417.out _;(with_reducible repeat (first|refine qb ?_ _|refine qe ?_|refine qc ?_ _));exact BK402.out) hb);have n3_:=qn.mk (ql (g:=gb407) (o:=.cells #[.int .i64 t403,.int .i64 t404,.int .i64 t405] 72 (0,0)) (by (with_reducible repeat (first|refine qb ?_ _|refine qe ?_|refine qc ?_ _));refine blk_far ?_ NB407_417.out _;(with_reducible repeat (first|refine qb ?_ _|refine qe ?_|refine qc ?_ _));refine blk_far ?_ NB407_417.out _;(with_reducible repeat (first|refine qb ?_ _|refine qe ?_|refine qc ?_ _));refine blk_far ?_ NB407_417.out _;(with_reducible repeat (first|refine qb ?_ _|refine qe ?_|refine qc ?_ _));exact BK407.out) hb);have n4_:=qn.mk (ql (g:=gb412) (o:=.cells #[.int .i64 t408,.int .i64 t409,.int .i64 t410] 72 (0,0)) (by (with_reducible repeat (first|refine qb ?_ _|refine qe ?_|refine qc ?_ _));refine blk_far ?_ NB412_417.out _;(with_reducible repeat (first|refine qb ?_ _|refine qe ?_|refine qc ?_ _));refine blk_far ?_ NB412_417.out _;(with_reducible repeat (first|refine qb ?_ _|refine qe ?_|refine qc ?_ _));refine blk_far ?_ NB412_417.out _;(with_reducible repeat (first|refine qb ?_ _|refine qe ?_|refine qc ?_ _));exact BK412.out) hb);have n5_:=qn.mk (ql (g:=gb417) (o:=.cells #[.int .i64 t413,.int .i64 t414,.int .i64 t415] 72 (0,0)) (by (with_reducible repeat (first|refine qb ?_ _|refine qe ?_|refine qc ?_ _));refine blk_put (cs:=#[.int .i64 t413,.int .i64 t414,.int .i64 0]) ?_ 2 _ rfl;(with_reducible repeat (first|refine qb ?_ _|refine qe ?_|refine qc ?_ _));refine blk_put (cs:=#[.int .i64 t413,.int .i64 0,.int .i64 0]) ?_ 1 _ rfl;(with_reducible repeat (first|refine qb ?_ _|refine qe ?_|refine qc ?_ _));refine blk_put (cs:=#[.int .i64 0,.int .i64 0,.int .i64 0]) ?_ 0 _ rfl;(with_reducible repeat (first|refine qb ?_ _|refine qe ?_|refine qc ?_ _));exact BK417.out) hb);have n6_:=hs_ HB hb;clear HO398;clear HO401;clear BK402;clear BK407;clear BK412;clear BK417;clear HB;have HO398:=n0_;have HO401:=n1_;have BK402:=n2_;have BK407:=n3_;have BK412:=n4_;have BK417:=n5_;have HB:=n6_;clear n0_ n1_ n2_ n3_ n4_ n5_ n6_;(try clear hb);(try clear hb2);(try clear hk);(try clear hi);have hcz64_0 : w63.cell? ⟨gb402,0,none⟩ = some (.int .i64 t395):=(qh BK402.out 0).trans rfl;have hcz64_1 : w63.cell? ⟨gb402,1,none⟩ = some (.slice Ao12 t396.length co12):=(qh BK402.out 1).trans rfl;have hfz64_0:=qi BK402.out 0;have hfz64_1:=qi BK402.out 1)|(go_at_call 44;(with_reducible refine (impl_MatchOk.calls k t395 _ _ t396 _ _ t399 t419 _ ?side1 ?side2 ?side3 ?side4 A53.out).mono ?_);(case side1=>repeat (first|exact (Kd.R_reads' HO398.out).2.2|(with_reducible refine Kd.C_alloc ?_ _)|(with_reducible refine Kd.C_drewN ?_ _)|(with_reducible refine Kd.C_drew ?_)));(case side2=>exact (Kd.R_reads' HO398.out).2.1);(case side3=>repeat (first|exact (Kd.R_reads' HO401.out).2.2|(with_reducible refine Kd.C_alloc ?_ _)|(with_reducible refine Kd.C_drewN ?_ _)|(with_reducible refine Kd.C_drew ?_)));(case side4=>exact (Kd.R_reads' HO401.out).2.1);rintro e w65 ⟨rfl,hb⟩;have n0_:=rb_ HO398 hb;have n1_:=rb_ HO401 hb;have n2_:=bb_ BK402 hb;have n3_:=bb_ BK407 hb;have n4_:=bb_ BK412 hb;have n5_:=bb_ BK417 hb;have n6_:=hs_ HB hb;clear HO398;clear HO401;clear BK402;clear BK407;clear BK412;clear BK417;clear HB;have HO398:=n0_;have HO401:=n1_;have BK402:=n2_;have BK407:=n3_;have BK412:=n4_;have BK417:=n5_;have HB:=n6_;clear n0_ n1_ n2_ n3_ n4_ n5_ n6_;(try clear hb);(try clear hb2);(try clear hk);(try clear hi)))
       go_meet
       case rel=>exact ⟨_,(!t419),(by first|rfl|(simp;done)|(simp [*];done)),H',⟨by first|omega|exact Nat.le_refl _⟩,⟨by (with_reducible repeat (first|apply Kd.R_alloc|apply Kd.R_drewN|apply Kd.R_drew));exact HO401.out⟩,⟨by (with_reducible repeat (first|apply Kd.R_alloc|apply Kd.R_drewN|apply Kd.R_drew));exact HO398.out⟩,⟨by (with_reducible repeat (first|refine qb ?_ _|refine qe ?_|refine qc ?_ _));exact BK402.out⟩,⟨by (with_reducible repeat (first|refine qb ?_ _|refine qe ?_|refine qc ?_ _));exact BK407.out⟩,⟨by (with_reducible repeat (first|refine qb ?_ _|refine qe ?_|refine qc ?_ _));exact BK412.out⟩,⟨by (with_reducible repeat (first|refine qb ?_ _|refine qe ?_|refine qc ?_ _));exact BK417.out⟩,⟨by repeat (first|(with_reducible first|exact HB.out|apply qf|apply qa|apply qd|refine qg ?_ GE402.out|refine qg ?_ GE407.out|refine qg ?_ GE412.out|refine qg ?_ GE417.out)|exact HB.out)⟩⟩
    ·replace c32:=Bool.eq_false_iff.mpr c32
     subst c32
     have H1 : (none) = some r:=by rw [if_neg (show ¬ (false = true) by decide)] at H;exact H
     exact absurd H1 (by simp)
   ·replace c31:=Bool.eq_false_iff.mpr c31
    subst c31
    have H1 : (none) = some r:=by rw [if_neg (show ¬ (false = true) by decide)] at H;exact H
    exact absurd H1 (by simp)
  case rest =>
   clear HC8
   try clear c1
   try clear c2
   try clear p2
   try clear c3
   try clear c4
   try clear c5
   try clear c6
   try clear c9
   try clear c12
   try clear c16
   try clear c21
   try clear c22
   try clear c27
   try clear c28
   try clear c29
   try clear c31
   try clear c32
   try clear c33
   try clear c33b0
   try clear c34
   try clear c35
   try clear c36
   try clear c38
   try clear c39
   try clear c41
   try clear c42
   try clear c43
   try clear c44
   try clear c45
   try clear c47
   try clear c48
   try clear c50
   try clear c54
   try clear c55
   try clear c56
   try clear c58
   try clear c59
   try clear c61
   try clear hcz11_0
   try clear hcz11_1
   try clear hcz17_0
   try clear hcz17_1
   try clear hcz17_2
   try clear hcz18_0
   try clear hcz18_1
   try clear hcz23_0
   try clear hcz23_1
   try clear hcz23_2
   try clear hcz24_0
   try clear hcz24_1
   try clear hcz30_0
   try clear hcz30_1
   try clear hcz30_2
   try clear hcz37_0
   try clear hcz37_1
   try clear hcz37_2
   try clear hcz40_0
   try clear hcz40_1
   try clear hcz40_2
   try clear hcz46_0
   try clear hcz46_1
   try clear hcz46_2
   try clear hcz49_0
   try clear hcz49_1
   try clear hcz49_2
   try clear hcz51_0
   try clear hcz51_1
   try clear hcz51_2
   try clear hcz57_0
   try clear hcz57_1
   try clear hcz57_2
   try clear hcz60_0
   try clear hcz60_1
   try clear hcz60_2
   try clear hcz62_0
   try clear hcz62_1
   try clear hcz62_2
   try clear hcz64_0
   try clear hcz64_1
   try clear hfz11_0
   try clear hfz11_1
   try clear hfz17_0
   try clear hfz17_1
   try clear hfz17_2
   try clear hfz18_0
   try clear hfz18_1
   try clear hfz23_0
   try clear hfz23_1
   try clear hfz23_2
   try clear hfz24_0
   try clear hfz24_1
   try clear hfz30_0
   try clear hfz30_1
   try clear hfz30_2
   try clear hfz37_0
   try clear hfz37_1
   try clear hfz37_2
   try clear hfz40_0
   try clear hfz40_1
   try clear hfz40_2
   try clear hfz46_0
   try clear hfz46_1
   try clear hfz46_2
   try clear hfz49_0
   try clear hfz49_1
   try clear hfz49_2
   try clear hfz51_0
   try clear hfz51_1
   try clear hfz51_2
   try clear hfz57_0
   try clear hfz57_1
   try clear hfz57_2
   try clear hfz60_0
   try clear hfz60_1
   try clear hfz60_2
   try clear hfz62_0
   try clear hfz62_1
   try clear hfz62_2
   try clear hfz64_0
   try clear hfz64_1
   obtain ⟨kq,x55_7,rfl,HA,HJ7,HO_4,HO_403001,BK402,BK407,BK412,BK417,HB⟩:=hcut
   cases kq with
   | zero=>exact absurd HA.out (by simp [laws_FnBest.j0])
   | succ kj7 =>
    have H:=HA.out
    clear HA
    simp only [laws_FnBest.j0] at H
    by_cases c66 : x55_7 = true
    ·subst c66
     have H1 : (none) = some r:=by rw [if_pos rfl] at H;exact H
     exact absurd H1 (by simp)
    ·replace c66:=Bool.eq_false_iff.mpr c66
     subst c66
     have H1 : ((laws_worth.f kj7 t395 t396 t399).bind fun t420=>(if (wrap64 ((wrap64 ((wrap64 (90000 * t403)) + (wrap64 (300 * t404)))) + t405)) = t420 then ((impl_Better.f t408 t409 t410 t403 t404 t405).bind fun t421=>(if (t421 == (!(t408 == t403) || (!(t409 == t404) || (!(t410 == t405))))) = true then ((impl_CountMatches.f kj7 t395 t396).bind fun t422=>((spec_CountMatches.f kj7 t395 t396).bind fun t423=>(if t422 = t423 then ((impl_CountMatches.f kj7 t395 t396).bind fun t424=>(some (decide (t424 > (t399.length : Int))))) else (none)))) else (none))) else (none))) = some r:=by rw [if_neg (show ¬ (false = true) by decide)] at H;exact H
     clear H
     have H:=H1
     clear H1
     replace H:=Option.bind_eq_some_iff.mp H
     obtain ⟨t420,A670,H⟩:=H
     replace H : (if (wrap64 ((wrap64 ((wrap64 (90000 * t403)) + (wrap64 (300 * t404)))) + t405)) = t420 then ((impl_Better.f t408 t409 t410 t403 t404 t405).bind fun t421=>(if (t421 == (!(t408 == t403) || (!(t409 == t404) || (!(t410 == t405))))) = true then ((impl_CountMatches.f kj7 t395 t396).bind fun t422=>((spec_CountMatches.f kj7 t395 t396).bind fun t423=>(if t422 = t423 then ((impl_CountMatches.f kj7 t395 t396).bind fun t424=>(some (decide (t424 > (t399.length : Int))))) else (none)))) else (none))) else (none)) = some r:=H
     have A67:=qn.mk A670
     clear A670
     by_cases c68 : (wrap64 ((wrap64 ((wrap64 (90000 * t403)) + (wrap64 (300 * t404)))) + t405)) = t420
     ·rw [if_pos c68] at H
      have c68b0 : ((wrap64 ((wrap64 ((wrap64 (90000 * t403)) + (wrap64 (300 * t404)))) + t405)) == t420) = true:=beq_iff_eq.mpr c68
      have c68b1 : ((wrap64 ((wrap64 ((wrap64 (90000 * t403)) + (wrap64 (300 * t404)))) + t405)) != t420) = false:=bne_eq_false_iff_eq.mpr c68
      clear c68
      replace H:=Option.bind_eq_some_iff.mp H
      obtain ⟨t421,A690,H⟩:=H
      replace H : (if (t421 == (!(t408 == t403) || (!(t409 == t404) || (!(t410 == t405))))) = true then ((impl_CountMatches.f kj7 t395 t396).bind fun t422=>((spec_CountMatches.f kj7 t395 t396).bind fun t423=>(if t422 = t423 then ((impl_CountMatches.f kj7 t395 t396).bind fun t424=>(some (decide (t424 > (t399.length : Int))))) else (none)))) else (none)) = some r:=H
      have A69:=qn.mk A690
      clear A690
      by_cases c70 : (t421 == (!(t408 == t403) || (!(t409 == t404) || (!(t410 == t405))))) = true
      ·rw [if_pos c70] at H
       have c70b0 : (t421 == (!(t408 == t403) || (!(t409 == t404) || (!(t410 == t405))))) = true:=c70
       (try (have c70b1 : decide (t421 = (!(t408 == t403) || (!(t409 == t404) || (!(t410 == t405))))) = true:=by simpa using c70))
       (try (have c70b2 : (t421 == (!(t408 == t403) || (!(t409 == t404) || (!(t410 == t405))))) = true:=by simpa using c70))
       clear c70
       replace H:=Option.bind_eq_some_iff.mp H
       obtain ⟨t422,A710,H⟩:=H
       replace H : ((spec_CountMatches.f kj7 t395 t396).bind fun t423=>(if t422 = t423 then ((impl_CountMatches.f kj7 t395 t396).bind fun t424=>(some (decide (t424 > (t399.length : Int))))) else (none))) = some r:=H
       have A71:=qn.mk A710
       clear A710
       replace H:=Option.bind_eq_some_iff.mp H
       obtain ⟨t423,A720,H⟩:=H
       replace H : (if t422 = t423 then ((impl_CountMatches.f kj7 t395 t396).bind fun t424=>(some (decide (t424 > (t399.length : Int))))) else (none)) = some r:=H
       have A72:=qn.mk A720
       clear A720
       by_cases c73 : t422 = t423
       ·rw [if_pos c73] at H
        have c73b0 : (t422 == t423) = true:=beq_iff_eq.mpr c73
        have c73b1 : (t422 != t423) = false:=bne_eq_false_iff_eq.mpr c73
        clear c73
        replace H:=Option.bind_eq_some_iff.mp H
        obtain ⟨t424,A740,H⟩:=H
        replace H : (some (decide (t424 > (t399.length : Int)))) = some r:=H
        have A74:=qn.mk A740
        clear A740
        obtain rfl:=Option.some.inj H
        try go_wp2
        have n0_:=qn.mk (Kd.R_drew HO_4.out)
        have n1_:=qn.mk (Kd.R_drew HO_403001.out)
        have n2_:=qn.mk (qe BK402.out)
        have n3_:=qn.mk (qe BK407.out)
        have n4_:=qn.mk (qe BK412.out)
        have n5_:=qn.mk (qe BK417.out)
        have n6_:=qn.mk (qd HB.out)
        clear HO_4
        clear HO_403001
        clear BK402
        clear BK407
        clear BK412
        clear BK417
        clear HB
        have HO_4:=n0_
        have HO_403001:=n1_
        have BK402:=n2_
        have BK407:=n3_
        have BK412:=n4_
        have BK417:=n5_
        have HB:=n6_
        clear n0_ n1_ n2_ n3_ n4_ n5_ n6_
        refine start_ (n:=38) (S:=fun w'=>w'.cell? ⟨gb407,0,none⟩ = some (.int .i64 t403) ∧ w'.cell? ⟨gb407,1,none⟩ = some (.int .i64 t404) ∧ w'.cell? ⟨gb407,2,none⟩ = some (.int .i64 t405) ∧ w'.cell? ⟨gb402,0,none⟩ = some (.int .i64 t395) ∧ w'.cell? ⟨gb402,1,none⟩ = some (.slice Ao12 t396.length co12) ∧ w'.cell? ⟨gb412,0,none⟩ = some (.int .i64 t408) ∧ w'.cell? ⟨gb412,1,none⟩ = some (.int .i64 t409) ∧ w'.cell? ⟨gb412,2,none⟩ = some (.int .i64 t410)) (ds:=[]) #[false,false,false,false,false,false,false,false,false,false,false,false,false,false,false,false,false,false,false,false,false,false,false,false,false,false,false,false,false,false,false,false,false,false,false,false,false,false] (by kernel_rfl) rfl rfl ⟨(qh BK407.out 0).trans rfl,(qh BK407.out 1).trans rfl,(qh BK407.out 2).trans rfl,(qh BK402.out 0).trans rfl,(qh BK402.out 1).trans rfl,(qh BK412.out 0).trans rfl,(qh BK412.out 1).trans rfl,(qh BK412.out 2).trans rfl⟩ (fun hHeld=>?_);refine with_tabW laws_FnBest.tab9 laws_FnBest.bits9 (fun HT_ HW_=>?_)
        generalize wc.drew = w75 at HO_4 HO_403001 BK402 BK407 BK412 BK417 HB hHeld ⊢
        refine pure_ (i:=0) (N:=some 56) (v:=?_) (a':=?_) #[true,false,false,false,false,false,false,false,false,false,false,false,false,false,false,false,false,false,false,false,false,false,false,false,false,false,false,false,false,false,false,false,false,false,false,false,false,false] rfl rfl (any_of HT_.out (by kernel_rfl)) (fun _ _ _ h=>h) (Or.inl ⟨by rfl,?_⟩) ?_ ?_
        rotate_left
        ·intro w'
         go_simp
         with_reducible rfl
        rotate_left
        ·simp only [Act.put,List.setIfInBounds_toArray,List.set_cons_zero,List.set_cons_succ,i64_w,i32_w]
         rfl
        refine pure_ (i:=3) (N:=some 59) (v:=?_) (a':=?_) #[true,false,false,true,false,false,false,false,false,false,false,false,false,false,false,false,false,false,false,false,false,false,false,false,false,false,false,false,false,false,false,false,false,false,false,false,false,false] rfl rfl (any_of HT_.out (by kernel_rfl)) (fun _ _ _ h=>h) (Or.inl ⟨by rfl,?_⟩) ?_ ?_
        rotate_left
        ·intro w'
         go_simp
         with_reducible rfl
        rotate_left
        ·simp only [Act.put,List.setIfInBounds_toArray,List.set_cons_zero,List.set_cons_succ,i64_w,i32_w]
         rfl
        refine pure_ (i:=7) (N:=some 63) (v:=?_) (a':=?_) #[true,false,false,true,false,false,false,true,false,false,false,false,false,false,false,false,false,false,false,false,false,false,false,false,false,false,false,false,false,false,false,false,false,false,false,false,false,false] rfl rfl (any_of HT_.out (by kernel_rfl)) (fun _ _ _ h=>h) (Or.inl ⟨by rfl,?_⟩) ?_ ?_
        rotate_left
        ·intro w'
         go_simp
         with_reducible rfl
        rotate_left
        ·simp only [Act.put,List.setIfInBounds_toArray,List.set_cons_zero,List.set_cons_succ,i64_w,i32_w]
         rfl
        refine pure_ (i:=11) (N:=some 67) (v:=?_) (a':=?_) #[true,false,false,true,false,false,false,true,false,false,false,true,false,false,false,false,false,false,false,false,false,false,false,false,false,false,false,false,false,false,false,false,false,false,false,false,false,false] rfl rfl (any_of HT_.out (by kernel_rfl)) (fun _ _ _ h=>h) (Or.inl ⟨by rfl,?_⟩) ?_ ?_
        rotate_left
        ·intro w'
         go_simp
         with_reducible rfl
        rotate_left
        ·simp only [Act.put,List.setIfInBounds_toArray,List.set_cons_zero,List.set_cons_succ,i64_w,i32_w]
         rfl
        refine take_ (i:=1) (N:=some 57) (v:=?_) (a':=?_) #[true,true,false,true,false,false,false,true,false,false,false,true,false,false,false,false,false,false,false,false,false,false,false,false,false,false,false,false,false,false,false,false,false,false,false,false,false,false] rfl rfl (take_ofW HT_.out HW_.out (by kernel_rfl)) (fun _ _ _ h=>h) (Or.inl ⟨by rfl,?_⟩) hHeld ?_ ?_
        rotate_left
        ·rintro w' ⟨s0,s1,s2,s3,s4,s5,s6,s7⟩
         go_simp
         with_reducible rfl
        rotate_left
        ·simp only [Act.put,List.setIfInBounds_toArray,List.set_cons_zero,List.set_cons_succ,i64_w,i32_w]
         rfl
        refine pure_ (i:=2) (N:=some 58) (v:=?_) (a':=?_) #[true,true,true,true,false,false,false,true,false,false,false,true,false,false,false,false,false,false,false,false,false,false,false,false,false,false,false,false,false,false,false,false,false,false,false,false,false,false] rfl rfl (any_of HT_.out (by kernel_rfl)) (fun _ _ _ h=>h) (Or.inl ⟨by rfl,?_⟩) ?_ ?_
        rotate_left
        ·intro w'
         go_simp
         with_reducible rfl
        rotate_left
        ·simp only [Act.put,List.setIfInBounds_toArray,List.set_cons_zero,List.set_cons_succ,i64_w,i32_w]
         rfl
        refine take_ (i:=4) (N:=some 60) (v:=?_) (a':=?_) #[true,true,true,true,true,false,false,true,false,false,false,true,false,false,false,false,false,false,false,false,false,false,false,false,false,false,false,false,false,false,false,false,false,false,false,false,false,false] rfl rfl (take_ofW HT_.out HW_.out (by kernel_rfl)) (fun _ _ _ h=>h) (Or.inl ⟨by rfl,?_⟩) hHeld ?_ ?_
        rotate_left
        ·rintro w' ⟨s0,s1,s2,s3,s4,s5,s6,s7⟩
         go_simp
         with_reducible rfl
        rotate_left
        ·simp only [Act.put,List.setIfInBounds_toArray,List.set_cons_zero,List.set_cons_succ,i64_w,i32_w]
         rfl
        refine pure_ (i:=5) (N:=some 61) (v:=?_) (a':=?_) #[true,true,true,true,true,true,false,true,false,false,false,true,false,false,false,false,false,false,false,false,false,false,false,false,false,false,false,false,false,false,false,false,false,false,false,false,false,false] rfl rfl (any_of HT_.out (by kernel_rfl)) (fun _ _ _ h=>h) (Or.inl ⟨by rfl,?_⟩) ?_ ?_
        rotate_left
        ·intro w'
         go_simp
         with_reducible rfl
        rotate_left
        ·simp only [Act.put,List.setIfInBounds_toArray,List.set_cons_zero,List.set_cons_succ,i64_w,i32_w]
         rfl
        refine pure_ (i:=6) (N:=some 62) (v:=?_) (a':=?_) #[true,true,true,true,true,true,true,true,false,false,false,true,false,false,false,false,false,false,false,false,false,false,false,false,false,false,false,false,false,false,false,false,false,false,false,false,false,false] rfl rfl (any_of HT_.out (by kernel_rfl)) (fun _ _ _ h=>h) (Or.inl ⟨by rfl,?_⟩) ?_ ?_
        rotate_left
        ·intro w'
         go_simp
         with_reducible rfl
        rotate_left
        ·simp only [Act.put,List.setIfInBounds_toArray,List.set_cons_zero,List.set_cons_succ,i64_w,i32_w]
         rfl
        refine take_ (i:=8) (N:=some 64) (v:=?_) (a':=?_) #[true,true,true,true,true,true,true,true,true,false,false,true,false,false,false,false,false,false,false,false,false,false,false,false,false,false,false,false,false,false,false,false,false,false,false,false,false,false] rfl rfl (take_ofW HT_.out HW_.out (by kernel_rfl)) (fun _ _ _ h=>h) (Or.inl ⟨by rfl,?_⟩) hHeld ?_ ?_
        rotate_left
        ·rintro w' ⟨s0,s1,s2,s3,s4,s5,s6,s7⟩
         go_simp
         with_reducible rfl
        rotate_left
        ·simp only [Act.put,List.setIfInBounds_toArray,List.set_cons_zero,List.set_cons_succ,i64_w,i32_w]
         rfl
        refine pure_ (i:=9) (N:=some 65) (v:=?_) (a':=?_) #[true,true,true,true,true,true,true,true,true,true,false,true,false,false,false,false,false,false,false,false,false,false,false,false,false,false,false,false,false,false,false,false,false,false,false,false,false,false] rfl rfl (any_of HT_.out (by kernel_rfl)) (fun _ _ _ h=>h) (Or.inl ⟨by rfl,?_⟩) ?_ ?_
        rotate_left
        ·intro w'
         go_simp
         with_reducible rfl
        rotate_left
        ·simp only [Act.put,List.setIfInBounds_toArray,List.set_cons_zero,List.set_cons_succ,i64_w,i32_w]
         rfl
        refine take_ (i:=10) (N:=some 66) (v:=?_) (a':=?_) #[true,true,true,true,true,true,true,true,true,true,true,true,false,false,false,false,false,false,false,false,false,false,false,false,false,false,false,false,false,false,false,false,false,false,false,false,false,false] rfl rfl (take_ofW HT_.out HW_.out (by kernel_rfl)) (fun _ _ _ h=>h) (Or.inl ⟨by rfl,?_⟩) hHeld ?_ ?_
        rotate_left
        ·rintro w' ⟨s0,s1,s2,s3,s4,s5,s6,s7⟩
         go_simp
         with_reducible rfl
        rotate_left
        ·simp only [Act.put,List.setIfInBounds_toArray,List.set_cons_zero,List.set_cons_succ,i64_w,i32_w]
         rfl
        refine one_ (i:=12) (N:=some 68) #[true,true,true,true,true,true,true,true,true,true,true,true,true,false,false,false,false,false,false,false,false,false,false,false,false,false,false,false,false,false,false,false,false,false,false,false,false,false] rfl rfl (one_of HT_.out (by kernel_rfl)) (by decide) (fun K hK=>?_)
        refine goes_ Try.func45 (by kernel_rfl) rfl #[.agg #[.int .i64 t395,.slice Ao12 t396.length co12],.slice Ao13 t399.length co13] (by rfl) rfl rfl (by (try simp only [List.map_toArray,List.map_cons,List.map_nil]);first|done|rfl|(simp only [List.length_drop,List.length_take];rfl)) ?_
        with_reducible refine (laws_worth.calls kj7 t395 _ _ t396 _ _ t399 t420 _ ?side1 ?side2 ?side3 ?side4 A67.out).mono ?_
        (case side1=>repeat (first|exact (Kd.R_reads' HO_403001.out).2.2|(with_reducible refine Kd.C_alloc ?_ _)|(with_reducible refine Kd.C_drewN ?_ _)|(with_reducible refine Kd.C_drew ?_)))
        (case side2=>exact (Kd.R_reads' HO_403001.out).2.1)
        (case side3=>repeat (first|exact (Kd.R_reads' HO_4.out).2.2|(with_reducible refine Kd.C_alloc ?_ _)|(with_reducible refine Kd.C_drewN ?_ _)|(with_reducible refine Kd.C_drew ?_)))
        (case side4=>exact (Kd.R_reads' HO_4.out).2.1)
        rintro e w76 ⟨rfl,hb⟩
        refine ⟨_,rfl,?_⟩
        have n0_:=rb_ HO_4 hb
        have n1_:=rb_ HO_403001 hb
        have n2_:=bb_ BK402 hb
        have n3_:=bb_ BK407 hb
        have n4_:=bb_ BK412 hb
        have n5_:=bb_ BK417 hb
        have n6_:=hs_ HB hb
        clear HO_4
        clear HO_403001
        clear BK402
        clear BK407
        clear BK412
        clear BK417
        clear HB
        have HO_4:=n0_
        have HO_403001:=n1_
        have BK402:=n2_
        have BK407:=n3_
        have BK412:=n4_
        have BK417:=n5_
        have HB:=n6_
        clear n0_ n1_ n2_ n3_ n4_ n5_ n6_
        (try clear hb)
        (try clear hb2)
        (try clear hk)
        (try clear hi)
        refine hK.out _ _ ⟨(qh BK407.out 0).trans rfl,(qh BK407.out 1).trans rfl,(qh BK407.out 2).trans rfl,(qh BK402.out 0).trans rfl,(qh BK402.out 1).trans rfl,(qh BK412.out 0).trans rfl,(qh BK412.out 1).trans rfl,(qh BK412.out 2).trans rfl⟩ (fun hHeld=>?_)
        clear hK K
        refine norm_ (a':=?_) ?_ ?_
        rotate_left
        ·show Act.put _ (some 68) _ = _
         simp only [Act.put,List.setIfInBounds_toArray,List.set_cons_zero,List.set_cons_succ,i64_w,i32_w]
         rfl
        refine pure_ (i:=13) (N:=some 69) (v:=?_) (a':=?_) #[true,true,true,true,true,true,true,true,true,true,true,true,true,true,false,false,false,false,false,false,false,false,false,false,false,false,false,false,false,false,false,false,false,false,false,false,false,false] rfl rfl (any_of HT_.out (by kernel_rfl)) (fun _ _ _ h=>h) (Or.inl ⟨by rfl,?_⟩) ?_ ?_
        rotate_left
        ·intro w'
         go_simp
         with_reducible rfl
        rotate_left
        ·simp only [Act.put,List.setIfInBounds_toArray,List.set_cons_zero,List.set_cons_succ,i64_w,i32_w]
         rfl
        refine pure_ (i:=14) (N:=some 70) (v:=?_) (a':=?_) #[true,true,true,true,true,true,true,true,true,true,true,true,true,true,true,false,false,false,false,false,false,false,false,false,false,false,false,false,false,false,false,false,false,false,false,false,false,false] rfl rfl (any_of HT_.out (by kernel_rfl)) (fun _ _ _ h=>h) (Or.inl ⟨by rfl,?_⟩) ?_ ?_
        rotate_left
        ·intro w'
         go_simp
         with_reducible rfl
        rotate_left
        ·simp only [Act.put,List.setIfInBounds_toArray,List.set_cons_zero,List.set_cons_succ,i64_w,i32_w]
         rfl
        refine take_ (i:=15) (N:=some 71) (v:=?_) (a':=?_) #[true,true,true,true,true,true,true,true,true,true,true,true,true,true,true,true,false,false,false,false,false,false,false,false,false,false,false,false,false,false,false,false,false,false,false,false,false,false] rfl rfl (take_ofW HT_.out HW_.out (by kernel_rfl)) (fun _ _ _ h=>h) (Or.inl ⟨by rfl,?_⟩) hHeld ?_ ?_
        rotate_left
        ·rintro w' ⟨s0,s1,s2,s3,s4,s5,s6,s7⟩
         go_simp
         with_reducible rfl
        rotate_left
        ·simp only [Act.put,List.setIfInBounds_toArray,List.set_cons_zero,List.set_cons_succ,i64_w,i32_w]
         rfl
        refine take_ (i:=16) (N:=some 72) (v:=?_) (a':=?_) #[true,true,true,true,true,true,true,true,true,true,true,true,true,true,true,true,true,false,false,false,false,false,false,false,false,false,false,false,false,false,false,false,false,false,false,false,false,false] rfl rfl (take_ofW HT_.out HW_.out (by kernel_rfl)) (fun _ _ _ h=>h) (Or.inl ⟨by rfl,?_⟩) hHeld ?_ ?_
        rotate_left
        ·rintro w' ⟨s0,s1,s2,s3,s4,s5,s6,s7⟩
         go_simp
         with_reducible rfl
        rotate_left
        ·simp only [Act.put,List.setIfInBounds_toArray,List.set_cons_zero,List.set_cons_succ,i64_w,i32_w]
         rfl
        refine take_ (i:=18) (N:=some 74) (v:=?_) (a':=?_) #[true,true,true,true,true,true,true,true,true,true,true,true,true,true,true,true,true,false,true,false,false,false,false,false,false,false,false,false,false,false,false,false,false,false,false,false,false,false] rfl rfl (take_ofW HT_.out HW_.out (by kernel_rfl)) (fun _ _ _ h=>h) (Or.inl ⟨by rfl,?_⟩) hHeld ?_ ?_
        rotate_left
        ·rintro w' ⟨s0,s1,s2,s3,s4,s5,s6,s7⟩
         go_simp
         with_reducible rfl
        rotate_left
        ·simp only [Act.put,List.setIfInBounds_toArray,List.set_cons_zero,List.set_cons_succ,i64_w,i32_w]
         rfl
        refine take_ (i:=19) (N:=some 75) (v:=?_) (a':=?_) #[true,true,true,true,true,true,true,true,true,true,true,true,true,true,true,true,true,false,true,true,false,false,false,false,false,false,false,false,false,false,false,false,false,false,false,false,false,false] rfl rfl (take_ofW HT_.out HW_.out (by kernel_rfl)) (fun _ _ _ h=>h) (Or.inl ⟨by rfl,?_⟩) hHeld ?_ ?_
        rotate_left
        ·rintro w' ⟨s0,s1,s2,s3,s4,s5,s6,s7⟩
         go_simp
         with_reducible rfl
        rotate_left
        ·simp only [Act.put,List.setIfInBounds_toArray,List.set_cons_zero,List.set_cons_succ,i64_w,i32_w]
         rfl
        refine pure_ (i:=20) (N:=some 76) (v:=?_) (a':=?_) #[true,true,true,true,true,true,true,true,true,true,true,true,true,true,true,true,true,false,true,true,true,false,false,false,false,false,false,false,false,false,false,false,false,false,false,false,false,false] rfl rfl (any_of HT_.out (by kernel_rfl)) (fun _ _ _ h=>h) (Or.inl ⟨by rfl,?_⟩) ?_ ?_
        rotate_left
        ·intro w'
         go_simp
         with_reducible rfl
        rotate_left
        ·simp only [Act.put,List.setIfInBounds_toArray,List.set_cons_zero,List.set_cons_succ,i64_w,i32_w]
         rfl
        refine one_ (i:=17) (N:=some 73) #[true,true,true,true,true,true,true,true,true,true,true,true,true,true,true,true,true,true,true,true,true,false,false,false,false,false,false,false,false,false,false,false,false,false,false,false,false,false] rfl rfl (one_of HT_.out (by kernel_rfl)) (by decide) (fun K hK=>?_)
        refine goes_ Try.func43 (by kernel_rfl) rfl #[.agg #[.int .i64 t408,.int .i64 t409,.int .i64 t410],.agg #[.int .i64 t403,.int .i64 t404,.int .i64 t405]] (by rfl) rfl rfl (by (try simp only [List.map_toArray,List.map_cons,List.map_nil]);first|done|rfl|(simp only [List.length_drop,List.length_take];rfl)) ?_
        with_reducible refine (impl_Better.calls t408 t409 t410 t403 t404 t405 t421 _ A69.out).mono ?_
        rintro e w77 ⟨rfl,hb⟩
        refine ⟨_,rfl,?_⟩
        have n0_:=rb_ HO_4 hb
        have n1_:=rb_ HO_403001 hb
        have n2_:=bb_ BK402 hb
        have n3_:=bb_ BK407 hb
        have n4_:=bb_ BK412 hb
        have n5_:=bb_ BK417 hb
        have n6_:=hs_ HB hb
        clear HO_4
        clear HO_403001
        clear BK402
        clear BK407
        clear BK412
        clear BK417
        clear HB
        have HO_4:=n0_
        have HO_403001:=n1_
        have BK402:=n2_
        have BK407:=n3_
        have BK412:=n4_
        have BK417:=n5_
        have HB:=n6_
        clear n0_ n1_ n2_ n3_ n4_ n5_ n6_
        (try clear hb)
        (try clear hb2)
        (try clear hk)
        (try clear hi)
        refine hK.out _ _ ⟨(qh BK407.out 0).trans rfl,(qh BK407.out 1).trans rfl,(qh BK407.out 2).trans rfl,(qh BK402.out 0).trans rfl,(qh BK402.out 1).trans rfl,(qh BK412.out 0).trans rfl,(qh BK412.out 1).trans rfl,(qh BK412.out 2).trans rfl⟩ (fun hHeld=>?_)
        clear hK K
        refine norm_ (a':=?_) ?_ ?_
        rotate_left
        ·show Act.put _ (some 73) _ = _
         simp only [Act.put,List.setIfInBounds_toArray,List.set_cons_zero,List.set_cons_succ,i64_w,i32_w]
         rfl
        refine pure_ (i:=21) (N:=some 77) (v:=?_) (a':=?_) #[true,true,true,true,true,true,true,true,true,true,true,true,true,true,true,true,true,true,true,true,true,true,false,false,false,false,false,false,false,false,false,false,false,false,false,false,false,false] rfl rfl (any_of HT_.out (by kernel_rfl)) (fun _ _ _ h=>h) (Or.inl ⟨by rfl,?_⟩) ?_ ?_
        rotate_left
        ·intro w'
         go_simp
         with_reducible rfl
        rotate_left
        ·simp only [Act.put,List.setIfInBounds_toArray,List.set_cons_zero,List.set_cons_succ,i64_w,i32_w]
         rfl
        refine pure_ (i:=22) (N:=some 78) (v:=?_) (a':=?_) #[true,true,true,true,true,true,true,true,true,true,true,true,true,true,true,true,true,true,true,true,true,true,true,false,false,false,false,false,false,false,false,false,false,false,false,false,false,false] rfl rfl (any_of HT_.out (by kernel_rfl)) (fun _ _ _ h=>h) (Or.inl ⟨by rfl,?_⟩) ?_ ?_
        rotate_left
        ·intro w'
         go_simp
         with_reducible rfl
        rotate_left
        ·simp only [Act.put,List.setIfInBounds_toArray,List.set_cons_zero,List.set_cons_succ,i64_w,i32_w]
         rfl
        refine pure_ (i:=23) (N:=some 79) (v:=?_) (a':=?_) #[true,true,true,true,true,true,true,true,true,true,true,true,true,true,true,true,true,true,true,true,true,true,true,true,false,false,false,false,false,false,false,false,false,false,false,false,false,false] rfl rfl (any_of HT_.out (by kernel_rfl)) (fun _ _ _ h=>h) (Or.inl ⟨by rfl,?_⟩) ?_ ?_
        rotate_left
        ·intro w'
         go_simp
         with_reducible rfl
        rotate_left
        ·simp only [Act.put,List.setIfInBounds_toArray,List.set_cons_zero,List.set_cons_succ,i64_w,i32_w]
         rfl
        refine take_ (i:=24) (N:=some 80) (v:=?_) (a':=?_) #[true,true,true,true,true,true,true,true,true,true,true,true,true,true,true,true,true,true,true,true,true,true,true,true,true,false,false,false,false,false,false,false,false,false,false,false,false,false] rfl rfl (take_ofW HT_.out HW_.out (by kernel_rfl)) (fun _ _ _ h=>h) (Or.inl ⟨by rfl,?_⟩) hHeld ?_ ?_
        rotate_left
        ·rintro w' ⟨s0,s1,s2,s3,s4,s5,s6,s7⟩
         go_simp
         with_reducible rfl
        rotate_left
        ·simp only [Act.put,List.setIfInBounds_toArray,List.set_cons_zero,List.set_cons_succ,i64_w,i32_w]
         rfl
        refine take_ (i:=26) (N:=some 82) (v:=?_) (a':=?_) #[true,true,true,true,true,true,true,true,true,true,true,true,true,true,true,true,true,true,true,true,true,true,true,true,true,false,true,false,false,false,false,false,false,false,false,false,false,false] rfl rfl (take_ofW HT_.out HW_.out (by kernel_rfl)) (fun _ _ _ h=>h) (Or.inl ⟨by rfl,?_⟩) hHeld ?_ ?_
        rotate_left
        ·rintro w' ⟨s0,s1,s2,s3,s4,s5,s6,s7⟩
         go_simp
         with_reducible rfl
        rotate_left
        ·simp only [Act.put,List.setIfInBounds_toArray,List.set_cons_zero,List.set_cons_succ,i64_w,i32_w]
         rfl
        refine one_ (i:=25) (N:=some 81) #[true,true,true,true,true,true,true,true,true,true,true,true,true,true,true,true,true,true,true,true,true,true,true,true,true,true,true,false,false,false,false,false,false,false,false,false,false,false] rfl rfl (one_of HT_.out (by kernel_rfl)) (by decide) (fun K hK=>?_)
        refine goes_ Try.func36 (by kernel_rfl) rfl #[.agg #[.int .i64 t395,.slice Ao12 t396.length co12]] (by rfl) rfl rfl (by (try simp only [List.map_toArray,List.map_cons,List.map_nil]);first|done|rfl|(simp only [List.length_drop,List.length_take];rfl)) ?_
        with_reducible refine (impl_CountMatches.calls kj7 t395 _ _ t396 t422 _ ?side1 ?side2 A71.out).mono ?_
        (case side1=>repeat (first|exact (Kd.R_reads' HO_403001.out).2.2|(with_reducible refine Kd.C_alloc ?_ _)|(with_reducible refine Kd.C_drewN ?_ _)|(with_reducible refine Kd.C_drew ?_)))
        (case side2=>exact (Kd.R_reads' HO_403001.out).2.1)
        rintro e w78 ⟨rfl,hb⟩
        refine ⟨_,rfl,?_⟩
        have n0_:=rb_ HO_4 hb
        have n1_:=rb_ HO_403001 hb
        have n2_:=bb_ BK402 hb
        have n3_:=bb_ BK407 hb
        have n4_:=bb_ BK412 hb
        have n5_:=bb_ BK417 hb
        have n6_:=hs_ HB hb
        clear HO_4
        clear HO_403001
        clear BK402
        clear BK407
        clear BK412
        clear BK417
        clear HB
        have HO_4:=n0_
        have HO_403001:=n1_
        have BK402:=n2_
        have BK407:=n3_
        have BK412:=n4_
        have BK417:=n5_
        have HB:=n6_
        clear n0_ n1_ n2_ n3_ n4_ n5_ n6_
        (try clear hb)
        (try clear hb2)
        (try clear hk)
        (try clear hi)
        refine hK.out _ _ ⟨(qh BK407.out 0).trans rfl,(qh BK407.out 1).trans rfl,(qh BK407.out 2).trans rfl,(qh BK402.out 0).trans rfl,(qh BK402.out 1).trans rfl,(qh BK412.out 0).trans rfl,(qh BK412.out 1).trans rfl,(qh BK412.out 2).trans rfl⟩ (fun hHeld=>?_)
        clear hK K
        refine norm_ (a':=?_) ?_ ?_
        rotate_left
        ·show Act.put _ (some 81) _ = _
         simp only [Act.put,List.setIfInBounds_toArray,List.set_cons_zero,List.set_cons_succ,i64_w,i32_w]
         rfl
        refine one_ (i:=27) (N:=some 83) #[true,true,true,true,true,true,true,true,true,true,true,true,true,true,true,true,true,true,true,true,true,true,true,true,true,true,true,true,false,false,false,false,false,false,false,false,false,false] rfl rfl (one_of HT_.out (by kernel_rfl)) (by decide) (fun K hK=>?_)
        refine goes_ Try.func34 (by kernel_rfl) rfl #[.agg #[.int .i64 t395,.slice Ao12 t396.length co12]] (by rfl) rfl rfl (by (try simp only [List.map_toArray,List.map_cons,List.map_nil]);first|done|rfl|(simp only [List.length_drop,List.length_take];rfl)) ?_
        with_reducible refine (spec_CountMatches.calls kj7 t395 _ _ t396 t423 _ ?side1 ?side2 A72.out).mono ?_
        (case side1=>repeat (first|exact (Kd.R_reads' HO_403001.out).2.2|(with_reducible refine Kd.C_alloc ?_ _)|(with_reducible refine Kd.C_drewN ?_ _)|(with_reducible refine Kd.C_drew ?_)))
        (case side2=>exact (Kd.R_reads' HO_403001.out).2.1)
        rintro e w79 ⟨rfl,hb⟩
        refine ⟨_,rfl,?_⟩
        have n0_:=rb_ HO_4 hb
        have n1_:=rb_ HO_403001 hb
        have n2_:=bb_ BK402 hb
        have n3_:=bb_ BK407 hb
        have n4_:=bb_ BK412 hb
        have n5_:=bb_ BK417 hb
        have n6_:=hs_ HB hb
        clear HO_4
        clear HO_403001
        clear BK402
        clear BK407
        clear BK412
        clear BK417
        clear HB
        have HO_4:=n0_
        have HO_403001:=n1_
        have BK402:=n2_
        have BK407:=n3_
        have BK412:=n4_
        have BK417:=n5_
        have HB:=n6_
        clear n0_ n1_ n2_ n3_ n4_ n5_ n6_
        (try clear hb)
        (try clear hb2)
        (try clear hk)
        (try clear hi)
        refine hK.out _ _ ⟨(qh BK407.out 0).trans rfl,(qh BK407.out 1).trans rfl,(qh BK407.out 2).trans rfl,(qh BK402.out 0).trans rfl,(qh BK402.out 1).trans rfl,(qh BK412.out 0).trans rfl,(qh BK412.out 1).trans rfl,(qh BK412.out 2).trans rfl⟩ (fun hHeld=>?_)
        clear hK K
        refine norm_ (a':=?_) ?_ ?_
        rotate_left
        ·show Act.put _ (some 83) _ = _
         simp only [Act.put,List.setIfInBounds_toArray,List.set_cons_zero,List.set_cons_succ,i64_w,i32_w]
         rfl
        refine pure_ (i:=28) (N:=some 84) (v:=?_) (a':=?_) #[true,true,true,true,true,true,true,true,true,true,true,true,true,true,true,true,true,true,true,true,true,true,true,true,true,true,true,true,true,false,false,false,false,false,false,false,false,false] rfl rfl (any_of HT_.out (by kernel_rfl)) (fun _ _ _ h=>h) (Or.inl ⟨by rfl,?_⟩) ?_ ?_
        rotate_left
        ·intro w'
         go_simp
         with_reducible rfl
        rotate_left
        ·simp only [Act.put,List.setIfInBounds_toArray,List.set_cons_zero,List.set_cons_succ,i64_w,i32_w]
         rfl
        refine pure_ (i:=29) (N:=some 85) (v:=?_) (a':=?_) #[true,true,true,true,true,true,true,true,true,true,true,true,true,true,true,true,true,true,true,true,true,true,true,true,true,true,true,true,true,true,false,false,false,false,false,false,false,false] rfl rfl (any_of HT_.out (by kernel_rfl)) (fun _ _ _ h=>h) (Or.inl ⟨by rfl,?_⟩) ?_ ?_
        rotate_left
        ·intro w'
         go_simp
         with_reducible rfl
        rotate_left
        ·simp only [Act.put,List.setIfInBounds_toArray,List.set_cons_zero,List.set_cons_succ,i64_w,i32_w]
         rfl
        refine pure_ (i:=30) (N:=some 86) (v:=?_) (a':=?_) #[true,true,true,true,true,true,true,true,true,true,true,true,true,true,true,true,true,true,true,true,true,true,true,true,true,true,true,true,true,true,true,false,false,false,false,false,false,false] rfl rfl (any_of HT_.out (by kernel_rfl)) (fun _ _ _ h=>h) (Or.inl ⟨by rfl,?_⟩) ?_ ?_
        rotate_left
        ·intro w'
         go_simp
         with_reducible rfl
        rotate_left
        ·simp only [Act.put,List.setIfInBounds_toArray,List.set_cons_zero,List.set_cons_succ,i64_w,i32_w]
         rfl
        refine pure_ (i:=33) (N:=some 89) (v:=?_) (a':=?_) #[true,true,true,true,true,true,true,true,true,true,true,true,true,true,true,true,true,true,true,true,true,true,true,true,true,true,true,true,true,true,true,false,false,true,false,false,false,false] rfl rfl (any_of HT_.out (by kernel_rfl)) (fun _ _ _ h=>h) (Or.inl ⟨by rfl,?_⟩) ?_ ?_
        rotate_left
        ·intro w'
         go_simp
         with_reducible rfl
        rotate_left
        ·simp only [Act.put,List.setIfInBounds_toArray,List.set_cons_zero,List.set_cons_succ,i64_w,i32_w]
         rfl
        refine pure_ (i:=34) (N:=some 90) (v:=?_) (a':=?_) #[true,true,true,true,true,true,true,true,true,true,true,true,true,true,true,true,true,true,true,true,true,true,true,true,true,true,true,true,true,true,true,false,false,true,true,false,false,false] rfl rfl (any_of HT_.out (by kernel_rfl)) (fun _ _ _ h=>h) (Or.inl ⟨by rfl,?_⟩) ?_ ?_
        rotate_left
        ·intro w'
         go_simp
         with_reducible rfl
        rotate_left
        ·simp only [Act.put,List.setIfInBounds_toArray,List.set_cons_zero,List.set_cons_succ,i64_w,i32_w]
         rfl
        refine take_ (i:=31) (N:=some 87) (v:=?_) (a':=?_) #[true,true,true,true,true,true,true,true,true,true,true,true,true,true,true,true,true,true,true,true,true,true,true,true,true,true,true,true,true,true,true,true,false,true,true,false,false,false] rfl rfl (take_ofW HT_.out HW_.out (by kernel_rfl)) (fun _ _ _ h=>h) (Or.inl ⟨by rfl,?_⟩) hHeld ?_ ?_
        rotate_left
        ·rintro w' ⟨s0,s1,s2,s3,s4,s5,s6,s7⟩
         go_simp
         with_reducible rfl
        rotate_left
        ·simp only [Act.put,List.setIfInBounds_toArray,List.set_cons_zero,List.set_cons_succ,i64_w,i32_w]
         rfl
        refine one_ (i:=32) (N:=some 88) #[true,true,true,true,true,true,true,true,true,true,true,true,true,true,true,true,true,true,true,true,true,true,true,true,true,true,true,true,true,true,true,true,true,true,true,false,false,false] rfl rfl (one_of HT_.out (by kernel_rfl)) (by decide) (fun K hK=>?_)
        refine goes_ Try.func36 (by kernel_rfl) rfl #[.agg #[.int .i64 t395,.slice Ao12 t396.length co12]] (by rfl) rfl rfl (by (try simp only [List.map_toArray,List.map_cons,List.map_nil]);first|done|rfl|(simp only [List.length_drop,List.length_take];rfl)) ?_
        with_reducible refine (impl_CountMatches.calls kj7 t395 _ _ t396 t424 _ ?side1 ?side2 A74.out).mono ?_
        (case side1=>repeat (first|exact (Kd.R_reads' HO_403001.out).2.2|(with_reducible refine Kd.C_alloc ?_ _)|(with_reducible refine Kd.C_drewN ?_ _)|(with_reducible refine Kd.C_drew ?_)))
        (case side2=>exact (Kd.R_reads' HO_403001.out).2.1)
        rintro e w80 ⟨rfl,hb⟩
        refine ⟨_,rfl,?_⟩
        have n0_:=rb_ HO_4 hb
        have n1_:=rb_ HO_403001 hb
        have n2_:=bb_ BK402 hb
        have n3_:=bb_ BK407 hb
        have n4_:=bb_ BK412 hb
        have n5_:=bb_ BK417 hb
        have n6_:=hs_ HB hb
        clear HO_4
        clear HO_403001
        clear BK402
        clear BK407
        clear BK412
        clear BK417
        clear HB
        have HO_4:=n0_
        have HO_403001:=n1_
        have BK402:=n2_
        have BK407:=n3_
        have BK412:=n4_
        have BK417:=n5_
        have HB:=n6_
        clear n0_ n1_ n2_ n3_ n4_ n5_ n6_
        (try clear hb)
        (try clear hb2)
        (try clear hk)
        (try clear hi)
        refine hK.out _ _ ⟨(qh BK407.out 0).trans rfl,(qh BK407.out 1).trans rfl,(qh BK407.out 2).trans rfl,(qh BK402.out 0).trans rfl,(qh BK402.out 1).trans rfl,(qh BK412.out 0).trans rfl,(qh BK412.out 1).trans rfl,(qh BK412.out 2).trans rfl⟩ (fun hHeld=>?_)
        clear hK K
        refine norm_ (a':=?_) ?_ ?_
        rotate_left
        ·show Act.put _ (some 88) _ = _
         simp only [Act.put,List.setIfInBounds_toArray,List.set_cons_zero,List.set_cons_succ,i64_w,i32_w]
         rfl
        refine pure_ (i:=35) (N:=some 91) (v:=?_) (a':=?_) #[true,true,true,true,true,true,true,true,true,true,true,true,true,true,true,true,true,true,true,true,true,true,true,true,true,true,true,true,true,true,true,true,true,true,true,true,false,false] rfl rfl (any_of HT_.out (by kernel_rfl)) (fun _ _ _ h=>h) (Or.inl ⟨by rfl,?_⟩) ?_ ?_
        rotate_left
        ·intro w'
         go_simp
         with_reducible rfl
        rotate_left
        ·simp only [Act.put,List.setIfInBounds_toArray,List.set_cons_zero,List.set_cons_succ,i64_w,i32_w]
         rfl
        refine pure_ (i:=36) (N:=some 92) (v:=?_) (a':=?_) #[true,true,true,true,true,true,true,true,true,true,true,true,true,true,true,true,true,true,true,true,true,true,true,true,true,true,true,true,true,true,true,true,true,true,true,true,true,false] rfl rfl (any_of HT_.out (by kernel_rfl)) (fun _ _ _ h=>h) (Or.inl ⟨by rfl,?_⟩) ?_ ?_
        rotate_left
        ·intro w'
         go_simp
         with_reducible rfl
        rotate_left
        ·simp only [Act.put,List.setIfInBounds_toArray,List.set_cons_zero,List.set_cons_succ,i64_w,i32_w]
         rfl
        refine pure_ (i:=37) (N:=some 2) (v:=?_) (a':=?_) #[true,true,true,true,true,true,true,true,true,true,true,true,true,true,true,true,true,true,true,true,true,true,true,true,true,true,true,true,true,true,true,true,true,true,true,true,true,true] rfl rfl (any_of HT_.out (by kernel_rfl)) (fun _ _ _ h=>h) (Or.inl ⟨by rfl,?_⟩) ?_ ?_
        rotate_left
        ·intro w'
         go_simp
         with_reducible rfl
        rotate_left
        ·simp only [Act.put,List.setIfInBounds_toArray,List.set_cons_zero,List.set_cons_succ,i64_w,i32_w]
         rfl
        refine done_ (done_of HT_.out (by kernel_rfl)) ?_
        try go_wp2
        go_ret
        exact ⟨by first|rfl|(simp [errW_none,errW_some] <;> rfl)|(simp [*,errW_none,errW_some] <;> rfl),by repeat (first|(with_reducible first|exact HB.out|apply qf|apply qa|apply qd|refine qg ?_ GE402.out|refine qg ?_ GE407.out|refine qg ?_ GE412.out|refine qg ?_ GE417.out)|exact HB.out)⟩
       ·rw [if_neg c73] at H
        exact absurd H (by simp)
      ·rw [if_neg c70] at H
       exact absurd H (by simp)
     ·rw [if_neg c68] at H
      exact absurd H (by simp)
/-- THE ONE PURE STATEMENT of laws_FnBest: yours. -/
def laws_FnBest.Pure : Prop:=∀ (l0 : List Int),l0.length ≤ maxLen → l0.length * 1 ≤ 140737488351232 → (∀ x ∈ l0,(Lit.int .u8 x).wf = true) → ∃ k,laws_FnBest.f k l0 = some true
theorem laws_FnBest.walk (P : laws_FnBest.Pure) (a0 : Option Addr) (len0 cap0 : Nat) (z0 : List Int) (w : World) (w0 : (a0 = none ∧ len0 = 0 ∧ cap0 = 0 ∧ z0 = []) ∨ ∃ x,a0 = some x ∧ len0 ≤ cap0 ∧ cap0 ≤ maxLen ∧ z0.length = cap0 ∧ (∀ i,i < z0.length → w.cell? (x.add i) = some (.int .u8 (z0.getD i 0))) ∧ ∀ n ∈ z0,(Lit.int .u8 n).wf = true) (y0 : len0 * 1 ≤ 140737488351232) :
  Calls Try.prog 9 #[.slice a0 len0 cap0] w fun e w'=>e = .returned (.bool true) ∧ Below w.heap.size w w':=by
 obtain ⟨l0,rfl,hr0,hm0,hw0,hc0⟩:=ReadsInt.ofRowC w0
 obtain ⟨k,h⟩:=P l0 hm0 y0 hw0
 refine (laws_FnBest.calls k _ _ l0 true w (Kd.C_of_reads (d:=(0 : Int)) (h1:=fun _=>rfl) hr0) hc0 h).mono ?_
 rintro e w' ⟨rfl,hd⟩
 exact ⟨rfl,hd⟩

end Go.Proofs.Ytfmemcffbfahhaa.QFnBest
