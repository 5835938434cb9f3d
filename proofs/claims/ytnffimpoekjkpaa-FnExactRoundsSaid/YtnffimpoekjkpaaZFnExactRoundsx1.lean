/- Lean functions for the Go functions that the law FnExactRounds reaches, and that each Go function comes to just its Lean function's answer; by a program of this session. -/
import Derived.Test.YtnffimpoekjkpaaZFnExactRoundsx0
namespace Go.Proofs.Ytnffimpoekjkpaa.QFnExactRounds
open Go.RowKit Go.Proofs.YtnffimpoekjkpaaW.PrintWords Go.Proofs.YtnffimpoekjkpaaW.PrintLast Go.Proofs.YtnffimpoekjkpaaW.PrintMore
attribute [local go_sem] max2_int min2_int max_two min_two max_three min_three max_four min_four   -- for this text's walks alone
set_option linter.unusedVariables false
set_option linter.unusedSimpArgs false

/-! ### laws_szEdgeS: function 9 -/
def laws_szEdgeS.f (l0 : List (S58)) (a1 : Int) : Option (Int):=if (wrap64 (a1 - (l0.length : Int))) < 0 then (some (-1)) else (some (wrap64 (a1 - (l0.length : Int))))
set_option maxHeartbeats 8000000 in
set_option maxRecDepth 100000 in
theorem laws_szEdgeS.calls (A0 : Option Addr) (c0 : Nat) (l0 : List (S58)) (a1 : Int) (r : Int) (w : World) (hr0 : Kd.C k58 w A0 l0.length l0) (hc0 : l0.length ≤ c0) (h : laws_szEdgeS.f l0 a1 = some r) :
  Calls Try.prog 9 #[.slice A0 l0.length c0,.int .i64 a1] w fun e w'=>e = .returned (.int .i64 r) ∧ Drawn0 w w':=by
 have HR0:=qy.mk hr0
 have HC0:=qy.mk hc0
 clear hr0 hc0
 have H : (if (wrap64 (a1 - (l0.length : Int))) < 0 then (some (-1)) else (some (wrap64 (a1 - (l0.length : Int))))) = some r:=h
 clear h
 by_cases c3 : (wrap64 (a1 - (l0.length : Int))) < 0
 ·rw [if_pos c3] at H
  have c3b0 : decide ((wrap64 (a1 - (l0.length : Int))) < 0) = true:=decide_eq_true c3
  clear c3
  obtain rfl:=Option.some.inj H
  go_enter Try.func9,Try.ntmps9
  go_wp2
  go_ret
  exact ⟨by first|rfl|(simp;done)|(simp [*];done),by repeat (first|exact Drawn0.refl _|apply Drawn0.step)⟩
 rw [if_neg c3] at H
 have c3b0 : decide ((wrap64 (a1 - (l0.length : Int))) < 0) = false:=decide_eq_false c3
 clear c3
 obtain rfl:=Option.some.inj H
 go_enter Try.func9,Try.ntmps9
 go_wp2
 go_ret
 exact ⟨by first|rfl|(simp;done)|(simp [*];done),by repeat (first|exact Drawn0.refl _|apply Drawn0.step)⟩

/-! ### laws_szGraph: function 4 -/
def laws_szGraph.f (a0_0 : Int) (l0_1 : List (S58)) (a1 : Int) : Option (Int):=(laws_szEdgeS.f l0_1 a1).bind fun t102=>(if t102 < 0 then (some (-1)) else (some t102))
set_option maxHeartbeats 8000000 in
set_option maxRecDepth 100000 in
theorem laws_szGraph.calls (a0_0 : Int) (A0_1 : Option Addr) (c0_1 : Nat) (l0_1 : List (S58)) (a1 : Int) (r : Int) (w : World) (hr0_1 : Kd.C k58 w A0_1 l0_1.length l0_1) (hc0_1 : l0_1.length ≤ c0_1) (h : laws_szGraph.f a0_0 l0_1 a1 = some r) :
  Calls Try.prog 4 #[.agg #[.int .i64 a0_0,.slice A0_1 l0_1.length c0_1],.int .i64 a1] w fun e w'=>e = .returned (.int .i64 r) ∧ Below w.heap.size w w':=by
 have hu24:=Try.underlying24
 have HR0_1:=qy.mk hr0_1
 have HC0_1:=qy.mk hc0_1
 clear hr0_1 hc0_1
 have HB:=qy.mk (Below.refl w.heap.size w)
 have H : ((laws_szEdgeS.f l0_1 a1).bind fun t102=>(if t102 < 0 then (some (-1)) else (some t102))) = some r:=h
 clear h
 replace H:=Option.bind_eq_some_iff.mp H
 obtain ⟨t102,A30,H⟩:=H
 replace H : (if t102 < 0 then (some (-1)) else (some t102)) = some r:=H
 have A3:=qy.mk A30
 clear A30
 by_cases c4 : t102 < 0
 ·rw [if_pos c4] at H
  have c4b0 : decide (t102 < 0) = true:=decide_eq_true c4
  clear c4
  obtain rfl:=Option.some.inj H
  go_enter Try.func4,Try.ntmps4
  go_wp2_with (first|((with_reducible refine gate_dst (N:=2) rfl ?_);refine box_event ?hg (N:=2) ?hd (cs:=#[.int .i64 a0_0,.slice A0_1 l0_1.length c0_1]) (t:=24) ?hr ?_;(case hd=>rfl);(case hg=>rfl);(case hr=>first|(go_simp;done)|(go_simp;rfl));intro gb101 hg w5 hbox hb;have BK101:=qy.mk (hbox);have GW101:=qy.mk ((by rw [hg];exact (qu hx_) : w.heap.size ≤ gb101));have GE101:=qy.mk ((by rw [hg];exact (qu hx_) : w.heap.size ≤ gb101));replace HB:=hs_ HB hb;clear hb hbox hg;obtain ⟨hcz6_0,hcz6_1,hfz6_0,hfz6_1⟩:=c2f_ BK101.out)|((with_reducible refine gate_callee (f:=9) rfl ?_);refine goesL_ (some 8) rfl rfl Try.func9 (by kernel_rfl) rfl #[.slice A0_1 l0_1.length c0_1,.int .i64 a1] rfl sm_ ?_;(with_reducible refine (laws_szEdgeS.calls _ _ l0_1 a1 t102 _ ?side1 ?side2 A3.out).mono ?_);(case side1=>repeat (first|exact (Kd.C_below HR0_1.out HB.out)|(with_reducible refine Kd.C_alloc ?_ _)|(with_reducible refine Kd.C_drewN ?_ _)|(with_reducible refine Kd.C_drew ?_)));(case side2=>exact HC0_1.out);rintro e w' ⟨rfl,⟨nd,rfl⟩⟩;refine ⟨_,rfl,?_⟩))
  go_ret
  exact ⟨rt_,hx_⟩
 rw [if_neg c4] at H
 have c4b0 : decide (t102 < 0) = false:=decide_eq_false c4
 clear c4
 obtain rfl:=Option.some.inj H
 go_enter Try.func4,Try.ntmps4
 go_wp2_with (first|((with_reducible refine gate_dst (N:=2) rfl ?_);refine box_event ?hg (N:=2) ?hd (cs:=#[.int .i64 a0_0,.slice A0_1 l0_1.length c0_1]) (t:=24) ?hr ?_;(case hd=>rfl);(case hg=>rfl);(case hr=>first|(go_simp;done)|(go_simp;rfl));intro gb101 hg w7 hbox hb;have BK101:=qy.mk (hbox);have GW101:=qy.mk ((by rw [hg];exact (qu hx_) : w.heap.size ≤ gb101));have GE101:=qy.mk ((by rw [hg];exact (qu hx_) : w.heap.size ≤ gb101));replace HB:=hs_ HB hb;clear hb hbox hg;obtain ⟨hcz8_0,hcz8_1,hfz8_0,hfz8_1⟩:=c2f_ BK101.out)|((with_reducible refine gate_callee (f:=9) rfl ?_);refine goesL_ (some 8) rfl rfl Try.func9 (by kernel_rfl) rfl #[.slice A0_1 l0_1.length c0_1,.int .i64 a1] rfl sm_ ?_;(with_reducible refine (laws_szEdgeS.calls _ _ l0_1 a1 t102 _ ?side1 ?side2 A3.out).mono ?_);(case side1=>repeat (first|exact (Kd.C_below HR0_1.out HB.out)|(with_reducible refine Kd.C_alloc ?_ _)|(with_reducible refine Kd.C_drewN ?_ _)|(with_reducible refine Kd.C_drew ?_)));(case side2=>exact HC0_1.out);rintro e w' ⟨rfl,⟨nd,rfl⟩⟩;refine ⟨_,rfl,?_⟩))
 go_ret
 exact ⟨rt_,hx_⟩

/-! ### spec_l01In: function 17 -/
def spec_l01In.f (a0 : Int) (a1 : Int) (a2 : Int) : Option (Bool):=if a0 ≥ a1 then (some (decide (a0 ≤ a2))) else (some false)
set_option maxHeartbeats 8000000 in
set_option maxRecDepth 100000 in
theorem spec_l01In.calls (a0 : Int) (a1 : Int) (a2 : Int) (r : Bool) (w : World) (h : spec_l01In.f a0 a1 a2 = some r) :
  Calls Try.prog 17 #[.int .i64 a0,.int .i64 a1,.int .i64 a2] w fun e w'=>e = .returned (.bool r) ∧ Drawn0 w w':=by
 have H : (if a0 ≥ a1 then (some (decide (a0 ≤ a2))) else (some false)) = some r:=h
 clear h
 by_cases c4 : a0 ≥ a1
 ·rw [if_pos c4] at H
  have c4b0 : decide (a1 ≤ a0) = true:=decide_eq_true c4
  clear c4
  obtain rfl:=Option.some.inj H
  go_enter Try.func17,Try.ntmps17
  go_wp2
  go_ret
  exact ⟨by first|rfl|(simp;done)|(simp [*];done),by repeat (first|exact Drawn0.refl _|apply Drawn0.step)⟩
 rw [if_neg c4] at H
 have c4b0 : decide (a1 ≤ a0) = false:=decide_eq_false c4
 clear c4
 obtain rfl:=Option.some.inj H
 go_enter Try.func17,Try.ntmps17
 go_wp2
 go_ret
 exact ⟨by first|rfl|(simp;done)|(simp [*];done),by repeat (first|exact Drawn0.refl _|apply Drawn0.step)⟩

/-! ### spec_l08Worth: function 18 -/
def spec_l08Worth.f (a0 : Int) : Option (Bool):=(spec_l01In.f a0 0 50).bind fun t103=>(some t103)
set_option maxHeartbeats 8000000 in
set_option maxRecDepth 100000 in
theorem spec_l08Worth.calls (a0 : Int) (r : Bool) (w : World) (h : spec_l08Worth.f a0 = some r) :
  Calls Try.prog 18 #[.int .i64 a0] w fun e w'=>e = .returned (.bool r) ∧ Drawn0 w w':=by
 have H : ((spec_l01In.f a0 0 50).bind fun t103=>(some t103)) = some r:=h
 clear h
 replace H:=Option.bind_eq_some_iff.mp H
 obtain ⟨t103,A20,H⟩:=H
 replace H : (some t103) = some r:=H
 have A2:=qy.mk A20
 clear A20
 obtain rfl:=Option.some.inj H
 go_enter Try.func18,Try.ntmps18
 go_wp2_with (first|((with_reducible refine gate_callee (f:=17) rfl ?_);refine goesL_ (some 4) rfl rfl Try.func17 (by kernel_rfl) rfl #[.int .i64 a0,.int .i64 0,.int .i64 50] rfl sm_ ?_;(with_reducible refine (spec_l01In.calls a0 0 50 t103 _ A2.out).mono ?_);rintro e w' ⟨rfl,⟨nd,rfl⟩⟩;refine ⟨_,rfl,?_⟩))
 go_ret
 exact ⟨by first|rfl|(simp;done)|(simp [*];done),by repeat (first|exact Drawn0.refl _|apply Drawn0.step)⟩

/-! ### spec_GraphOk: function 10 -/
mutual
def spec_GraphOk.l0 : Nat → Int → Int → List (S51) → Option (Bool)
 | 0,_,_,_=>none
 | k + 1,x3,x105000,x105001=>if x3 < (x105001.length : Int) then (if 0 ≤ x3 then (if ((rd_T51 x105001 x3).f0) < 0 then (spec_GraphOk.j1 k x3 true x105000 x105001 ((rd_T51 x105001 x3).f0) ((rd_T51 x105001 x3).f1) ((rd_T51 x105001 x3).f2) ((rd_T51 x105001 x3).f3) ((rd_T51 x105001 x3).f4)) else (if ((rd_T51 x105001 x3).f0) ≥ ((rd_T51 x105001 x3).f1) then (spec_GraphOk.j1 k x3 true x105000 x105001 ((rd_T51 x105001 x3).f0) ((rd_T51 x105001 x3).f1) ((rd_T51 x105001 x3).f2) ((rd_T51 x105001 x3).f3) ((rd_T51 x105001 x3).f4)) else (if ((rd_T51 x105001 x3).f1) ≥ x105000 then (spec_GraphOk.j1 k x3 true x105000 x105001 ((rd_T51 x105001 x3).f0) ((rd_T51 x105001 x3).f1) ((rd_T51 x105001 x3).f2) ((rd_T51 x105001 x3).f3) ((rd_T51 x105001 x3).f4)) else ((spec_l08Worth.f ((rd_T51 x105001 x3).f2)).bind fun t108=>(if t108 = true then ((spec_l08Worth.f ((rd_T51 x105001 x3).f3)).bind fun t109=>(if t109 = true then ((spec_l08Worth.f ((rd_T51 x105001 x3).f4)).bind fun t110=>(spec_GraphOk.j1 k x3 (!t110) x105000 x105001 ((rd_T51 x105001 x3).f0) ((rd_T51 x105001 x3).f1) ((rd_T51 x105001 x3).f2) ((rd_T51 x105001 x3).f3) ((rd_T51 x105001 x3).f4))) else (spec_GraphOk.j1 k x3 true x105000 x105001 ((rd_T51 x105001 x3).f0) ((rd_T51 x105001 x3).f1) ((rd_T51 x105001 x3).f2) ((rd_T51 x105001 x3).f3) ((rd_T51 x105001 x3).f4)))) else (spec_GraphOk.j1 k x3 true x105000 x105001 ((rd_T51 x105001 x3).f0) ((rd_T51 x105001 x3).f1) ((rd_T51 x105001 x3).f2) ((rd_T51 x105001 x3).f3) ((rd_T51 x105001 x3).f4))))))) else (none)) else (some true)
def spec_GraphOk.j1 : Nat → Int → Bool → Int → List (S51) → Int → Int → Int → Int → Int → Option (Bool)
 | 0,_,_,_,_,_,_,_,_,_=>none
 | k + 1,x3,x55,x105000,x105001,x108000,x108001,x108002,x108003,x108004=>if x55 = true then (some false) else (if x3 > 0 then (if 0 ≤ (wrap64 (x3 - 1)) then (if (wrap64 (x3 - 1)) < (x105001.length : Int) then (if ((rd_T51 x105001 (wrap64 (x3 - 1))).f0) > x108000 then (some false) else (if ((rd_T51 x105001 (wrap64 (x3 - 1))).f0) = x108000 then (if ((rd_T51 x105001 (wrap64 (x3 - 1))).f1) ≥ x108001 then (some false) else (spec_GraphOk.l0 k (wrap64 (x3 + 1)) x105000 x105001)) else (spec_GraphOk.l0 k (wrap64 (x3 + 1)) x105000 x105001))) else (none)) else (none)) else (spec_GraphOk.l0 k (wrap64 (x3 + 1)) x105000 x105001))
end
def spec_GraphOk.f (k : Nat) (a0_0 : Int) (l0_1 : List (S51)) : Option (Bool):=(spec_l01In.f a0_0 0 9).bind fun t105=>(if t105 = true then (spec_GraphOk.l0 k 0 a0_0 l0_1) else (some false))
theorem spec_GraphOk.mono_l : ∀ k,(∀ y0 y1 y2,LeO (spec_GraphOk.l0 k y0 y1 y2) (spec_GraphOk.l0 (k + 1) y0 y1 y2)) ∧ (∀ y0 y1 y2 y3 y4 y5 y6 y7 y8,LeO (spec_GraphOk.j1 k y0 y1 y2 y3 y4 y5 y6 y7 y8) (spec_GraphOk.j1 (k + 1) y0 y1 y2 y3 y4 y5 y6 y7 y8))
 | 0=>⟨fun _ _ _ r h=>by simp [spec_GraphOk.l0] at h,fun _ _ _ _ _ _ _ _ _ r h=>by simp [spec_GraphOk.j1] at h⟩
 | k + 1=>by
  obtain ⟨ih0,ih1⟩:=spec_GraphOk.mono_l k
  refine ⟨?_,?_⟩ <;> intros <;> first|unfold spec_GraphOk.l0|unfold spec_GraphOk.j1
  all_goals repeat' first|(with_reducible first|exact ih0 _ _ _|exact ih1 _ _ _ _ _ _ _ _ _|exact LeO.refl _|exact LeO.none _|refine LeO.ite ?_ ?_|refine LeO.bind ?_ (fun _=>?_))|exact ih0 _ _ _|exact ih1 _ _ _ _ _ _ _ _ _|exact LeO.none _|refine LeO.ite ?_ ?_|refine LeO.bind ?_ (fun _=>?_)
theorem spec_GraphOk.mono : ∀ a0 a1 k,LeO (spec_GraphOk.f k a0 a1) (spec_GraphOk.f (k + 1) a0 a1):=by
 intro a0 a1 k
 obtain ⟨ih0,ih1⟩:=spec_GraphOk.mono_l k
 unfold spec_GraphOk.f
 repeat' first|(with_reducible first|exact ih0 _ _ _|exact ih1 _ _ _ _ _ _ _ _ _|exact LeO.refl _|exact LeO.none _|refine LeO.ite ?_ ?_|refine LeO.bind ?_ (fun _=>?_))|exact ih0 _ _ _|exact ih1 _ _ _ _ _ _ _ _ _|exact LeO.none _|refine LeO.ite ?_ ?_|refine LeO.bind ?_ (fun _=>?_)
set_option maxHeartbeats 8000000 in
set_option maxRecDepth 100000 in
theorem spec_GraphOk.calls (k : Nat) (a0_0 : Int) (A0_1 : Option Addr) (c0_1 : Nat) (l0_1 : List (S51)) (r : Bool) (w : World) (hr0_1 : Kd.C k51 w A0_1 l0_1.length l0_1) (hc0_1 : l0_1.length ≤ c0_1) (h : spec_GraphOk.f k a0_0 l0_1 = some r) :
  Calls Try.prog 10 #[.agg #[.int .i64 a0_0,.slice A0_1 l0_1.length c0_1]] w fun e w'=>e = .returned (.bool r) ∧ Below w.heap.size w w':=by
 have hu29:=Try.underlying29
 have hu51:=Try.underlying51
 have HR0_1:=qy.mk hr0_1
 have HC0_1:=qy.mk hc0_1
 clear hr0_1 hc0_1
 have HB:=qy.mk (Below.refl w.heap.size w)
 have H : ((spec_l01In.f a0_0 0 9).bind fun t105=>(if t105 = true then (spec_GraphOk.l0 k 0 a0_0 l0_1) else (some false))) = some r:=h
 clear h
 replace H:=Option.bind_eq_some_iff.mp H
 obtain ⟨t105,A20,H⟩:=H
 replace H : (if t105 = true then (spec_GraphOk.l0 k 0 a0_0 l0_1) else (some false)) = some r:=H
 have A2:=qy.mk A20
 clear A20
 by_cases c3 : t105 = true
 ·subst c3
  have H1 : (spec_GraphOk.l0 k 0 a0_0 l0_1) = some r:=by rw [if_pos rfl] at H;exact H
  clear H
  have H:=H1
  clear H1
  have H':=qy.mk H
  clear H
  go_enter Try.func10,Try.ntmps10
  go_wp2_with (first|((with_reducible refine gate_dst (N:=1) rfl ?_);refine box_event ?hg (N:=1) ?hd (cs:=#[.int .i64 a0_0,.slice A0_1 l0_1.length c0_1]) (t:=29) ?hr ?_;(case hd=>rfl);(case hg=>rfl);(case hr=>first|(go_simp;done)|(go_simp;rfl));intro gb104 hg w4 hbox hb;have BK104:=qy.mk (hbox);have GW104:=qy.mk ((by rw [hg];exact (qu hx_) : w.heap.size ≤ gb104));have GE104:=qy.mk ((by rw [hg];exact (qu hx_) : w.heap.size ≤ gb104));replace HB:=hs_ HB hb;clear hb hbox hg;obtain ⟨hcz5_0,hcz5_1,hfz5_0,hfz5_1⟩:=c2f_ BK104.out)|(go_at_call 17;(with_reducible refine (spec_l01In.calls a0_0 0 9 true _ A2.out).mono ?_);rintro e w' ⟨rfl,⟨nd,rfl⟩⟩;(try first|exact ⟨rfl,_,World.drewN_drewN _ _ _⟩|exact ⟨rfl,_,Eq.trans (World.drewN_drewN _ _ _) (congrArg (World.drewN _) (Nat.add_assoc _ _ _))⟩)))
  repeat (go_quiet (first|((with_reducible refine gate_dst (N:=1) rfl ?_);refine box_event ?hg (N:=1) ?hd (cs:=#[.int .i64 a0_0,.slice A0_1 l0_1.length c0_1]) (t:=29) ?hr ?_;(case hd=>rfl);(case hg=>rfl);(case hr=>first|(go_simp;done)|(go_simp;rfl));intro gb104 hg w4 hbox hb;have BK104:=qy.mk (hbox);have GW104:=qy.mk ((by rw [hg];exact (qu hx_) : w.heap.size ≤ gb104));have GE104:=qy.mk ((by rw [hg];exact (qu hx_) : w.heap.size ≤ gb104));replace HB:=hs_ HB hb;clear hb hbox hg;obtain ⟨hcz5_0,hcz5_1,hfz5_0,hfz5_1⟩:=c2f_ BK104.out)|(go_at_call 17;(with_reducible refine (spec_l01In.calls a0_0 0 9 true _ A2.out).mono ?_);rintro e w' ⟨rfl,⟨nd,rfl⟩⟩;(try first|exact ⟨rfl,_,World.drewN_drewN _ _ _⟩|exact ⟨rfl,_,Eq.trans (World.drewN_drewN _ _ _) (congrArg (World.drewN _) (Nat.add_assoc _ _ _))⟩)));try go_wp2_with (first|((with_reducible refine gate_dst (N:=1) rfl ?_);refine box_event ?hg (N:=1) ?hd (cs:=#[.int .i64 a0_0,.slice A0_1 l0_1.length c0_1]) (t:=29) ?hr ?_;(case hd=>rfl);(case hg=>rfl);(case hr=>first|(go_simp;done)|(go_simp;rfl));intro gb104 hg w4 hbox hb;have BK104:=qy.mk (hbox);have GW104:=qy.mk ((by rw [hg];exact (qu hx_) : w.heap.size ≤ gb104));have GE104:=qy.mk ((by rw [hg];exact (qu hx_) : w.heap.size ≤ gb104));replace HB:=hs_ HB hb;clear hb hbox hg;obtain ⟨hcz5_0,hcz5_1,hfz5_0,hfz5_1⟩:=c2f_ BK104.out)|(go_at_call 17;(with_reducible refine (spec_l01In.calls a0_0 0 9 true _ A2.out).mono ?_);rintro e w' ⟨rfl,⟨nd,rfl⟩⟩;(try first|exact ⟨rfl,_,World.drewN_drewN _ _ _⟩|exact ⟨rfl,_,Eq.trans (World.drewN_drewN _ _ _) (congrArg (World.drewN _) (Nat.add_assoc _ _ _))⟩))))
  go_loopg [3] k (fun kq v3 w'=>∃ (x3_1 : Int),v3 = .int .i64 x3_1 ∧ qy (spec_GraphOk.l0 kq x3_1 a0_0 l0_1 = some r) ∧ qy (kq ≤ k) ∧ qy (w'.heap[gb104]? = some (.cells #[.int .i64 a0_0,(.slice A0_1 l0_1.length c0_1)] 29 (0,0))) ∧ qy (Below w.heap.size w w'))
  case atStart=>exact ⟨(0),rs_,H',⟨Nat.le_refl _⟩,(bx_ BK104),⟨hx_⟩⟩
  clear H'
  try clear c1
  try clear p2
  try clear c3
  try clear hcz5_0
  try clear hcz5_1
  try clear hfz5_0
  try clear hfz5_1
  obtain ⟨x3_1,rfl,HA,HK1,BK104,HB⟩:=hrel
  obtain _|k1:=gk
  ·exact absurd HA.out (by simp [spec_GraphOk.l0])
  have H:=HA.out
  clear HA
  simp only [spec_GraphOk.l0] at H
  by_cases c6 : x3_1 < (l0_1.length : Int)
  ·rw [if_pos c6] at H
   have c6b0 : decide (x3_1 < (l0_1.length : Int)) = true:=decide_eq_true c6
   clear c6
   by_cases c7 : 0 ≤ x3_1
   ·rw [if_pos c7] at H
    have c7b0 : decide (0 ≤ x3_1) = true:=decide_eq_true c7
    clear c7
    have HC8:=qy.mk H
    clear H
    obtain ⟨hcz9_0,hcz9_1,hfz9_0,hfz9_1⟩:=c2f_ BK104.out
    have p106 : 0 ≤ (x3_1 : Int):=dt_
    have q106 : x3_1 < (l0_1.length : Int):=dt_
    obtain ⟨ad106,e106,hx106_0,hx106_1,hx106_2,hx106_3,hx106_4⟩:=at_T51 HR0_1.out x3_1 p106 q106
    cases e106
    replace hx106_0:=cb_ HB hx106_0
    replace hx106_1:=cb_ HB hx106_1
    replace hx106_2:=cb_ HB hx106_2
    replace hx106_3:=cb_ HB hx106_3
    replace hx106_4:=cb_ HB hx106_4
    replace p106:=eq_true p106
    replace q106:=eq_true q106
    go_upto_region 7 with (first|((with_reducible refine gate_dst (N:=4) rfl ?_);refine box_event ?hg (N:=4) ?hd (cs:=#[.int .i64 0,.int .i64 0,.int .i64 0,.int .i64 0,.int .i64 0]) (t:=51) ?hr ?_;(case hd=>rfl);(case hg=>rfl);(case hr=>first|(go_simp;done)|(go_simp;rfl));intro gb107 hg w10 hbox hb;have BK107:=qy.mk (hbox);have GW107:=qy.mk ((by rw [hg];exact (qu hx_) : w.heap.size ≤ gb107));have GE107:=qy.mk ((by rw [hg];exact (qu hx_) : w.heap.size ≤ gb107));have NB104_107:=qy.mk ((by rw [hg];exact nl_ BK104 : gb104 ≠ gb107));have NB107_104:=qy.mk ((by rw [hg];exact ng_ BK104 : gb107 ≠ gb104));replace BK104:=bb_ BK104 hb;replace HB:=hs_ HB hb;clear hb hbox hg;have hnb11:=NB107_104.out;have hnc11:=NB104_107.out;obtain ⟨hcz12_0,hcz12_1,hcz12_2,hcz12_3,hcz12_4,hfz12_0,hfz12_1,hfz12_2,hfz12_3,hfz12_4⟩:=c5f_ BK107.out))
    repeat (go_quiet (first|((with_reducible refine gate_dst (N:=4) rfl ?_);refine box_event ?hg (N:=4) ?hd (cs:=#[.int .i64 0,.int .i64 0,.int .i64 0,.int .i64 0,.int .i64 0]) (t:=51) ?hr ?_;(case hd=>rfl);(case hg=>rfl);(case hr=>first|(go_simp;done)|(go_simp;rfl));intro gb107 hg w10 hbox hb;have BK107:=qy.mk (hbox);have GW107:=qy.mk ((by rw [hg];exact (qu hx_) : w.heap.size ≤ gb107));have GE107:=qy.mk ((by rw [hg];exact (qu hx_) : w.heap.size ≤ gb107));have NB104_107:=qy.mk ((by rw [hg];exact nl_ BK104 : gb104 ≠ gb107));have NB107_104:=qy.mk ((by rw [hg];exact ng_ BK104 : gb107 ≠ gb104));replace BK104:=bb_ BK104 hb;replace HB:=hs_ HB hb;clear hb hbox hg;have hnb11:=NB107_104.out;have hnc11:=NB104_107.out;obtain ⟨hcz12_0,hcz12_1,hcz12_2,hcz12_3,hcz12_4,hfz12_0,hfz12_1,hfz12_2,hfz12_3,hfz12_4⟩:=c5f_ BK107.out));go_upto_region 7 with (first|((with_reducible refine gate_dst (N:=4) rfl ?_);refine box_event ?hg (N:=4) ?hd (cs:=#[.int .i64 0,.int .i64 0,.int .i64 0,.int .i64 0,.int .i64 0]) (t:=51) ?hr ?_;(case hd=>rfl);(case hg=>rfl);(case hr=>first|(go_simp;done)|(go_simp;rfl));intro gb107 hg w10 hbox hb;have BK107:=qy.mk (hbox);have GW107:=qy.mk ((by rw [hg];exact (qu hx_) : w.heap.size ≤ gb107));have GE107:=qy.mk ((by rw [hg];exact (qu hx_) : w.heap.size ≤ gb107));have NB104_107:=qy.mk ((by rw [hg];exact nl_ BK104 : gb104 ≠ gb107));have NB107_104:=qy.mk ((by rw [hg];exact ng_ BK104 : gb107 ≠ gb104));replace BK104:=bb_ BK104 hb;replace HB:=hs_ HB hb;clear hb hbox hg;have hnb11:=NB107_104.out;have hnc11:=NB104_107.out;obtain ⟨hcz12_0,hcz12_1,hcz12_2,hcz12_3,hcz12_4,hfz12_0,hfz12_1,hfz12_2,hfz12_3,hfz12_4⟩:=c5f_ BK107.out)))
    (try simp only [Act.put,List.setIfInBounds_toArray,List.set_cons_zero,List.set_cons_succ])
    go_cut [55] (fun v55 wc=>∃ (kq : Nat) (x55_7 : Bool),v55 = .bool x55_7 ∧ qy (spec_GraphOk.j1 kq x3_1 x55_7 a0_0 l0_1 ((rd_T51 l0_1 x3_1).f0) ((rd_T51 l0_1 x3_1).f1) ((rd_T51 l0_1 x3_1).f2) ((rd_T51 l0_1 x3_1).f3) ((rd_T51 l0_1 x3_1).f4) = some r) ∧ qy (kq ≤ k1) ∧ qy (wc.heap[gb104]? = some (.cells #[.int .i64 a0_0,(.slice (some ad106) l0_1.length c0_1)] 29 (0,0))) ∧ qy (wc.heap[gb107]? = some (.cells #[.int .i64 ((rd_T51 l0_1 x3_1).f0),.int .i64 ((rd_T51 l0_1 x3_1).f1),.int .i64 ((rd_T51 l0_1 x3_1).f2),.int .i64 ((rd_T51 l0_1 x3_1).f3),.int .i64 ((rd_T51 l0_1 x3_1).f4)] 51 (0,0))) ∧ qy (Below w.heap.size w wc))
    case first =>
     have H:=HC8.out
     clear HC8
     by_cases c13 : ((rd_T51 l0_1 x3_1).f0) < 0
     ·rw [if_pos c13] at H
      have c13b0 : decide (((rd_T51 l0_1 x3_1).f0) < 0) = true:=decide_eq_true c13
      clear c13
      (first|rw [c13b0]|(simp only [i64_w,i32_w];rw [c13b0])|skip)
      have H':=qy.mk H
      clear H
      have hnb14:=NB107_104.out
      have hnc14:=NB104_107.out
      obtain ⟨hcz15_0,hcz15_1,hcz15_2,hcz15_3,hcz15_4,hfz15_0,hfz15_1,hfz15_2,hfz15_3,hfz15_4⟩:=c5f_ BK107.out
      go_wp2
      repeat (go_quiet (fail);try go_wp2)
      go_meet
      case rel=>exact ⟨_,(true),rs_,H',⟨by have:=HK1.out;first|omega|exact Nat.le_refl _⟩,⟨by (with_reducible repeat (first|refine qf ?_ _|refine qk ?_|refine qg ?_ _));refine blk_far ?_ NB104_107.out _;(with_reducible repeat (first|refine qf ?_ _|refine qk ?_|refine qg ?_ _));refine blk_far ?_ NB104_107.out _;(with_reducible repeat (first|refine qf ?_ _|refine qk ?_|refine qg ?_ _));refine blk_far ?_ NB104_107.out _;(with_reducible repeat (first|refine qf ?_ _|refine qk ?_|refine qg ?_ _));refine blk_far ?_ NB104_107.out _;(with_reducible repeat (first|refine qf ?_ _|refine qk ?_|refine qg ?_ _));refine blk_far ?_ NB104_107.out _;(with_reducible repeat (first|refine qf ?_ _|refine qk ?_|refine qg ?_ _));exact BK104.out⟩,⟨by (with_reducible repeat (first|refine qf ?_ _|refine qk ?_|refine qg ?_ _));refine blk_put (cs:=#[.int .i64 ((rd_T51 l0_1 x3_1).f0),.int .i64 ((rd_T51 l0_1 x3_1).f1),.int .i64 ((rd_T51 l0_1 x3_1).f2),.int .i64 ((rd_T51 l0_1 x3_1).f3),.int .i64 0]) ?_ 4 _ rfl;(with_reducible repeat (first|refine qf ?_ _|refine qk ?_|refine qg ?_ _));refine blk_put (cs:=#[.int .i64 ((rd_T51 l0_1 x3_1).f0),.int .i64 ((rd_T51 l0_1 x3_1).f1),.int .i64 ((rd_T51 l0_1 x3_1).f2),.int .i64 0,.int .i64 0]) ?_ 3 _ rfl;(with_reducible repeat (first|refine qf ?_ _|refine qk ?_|refine qg ?_ _));refine blk_put (cs:=#[.int .i64 ((rd_T51 l0_1 x3_1).f0),.int .i64 ((rd_T51 l0_1 x3_1).f1),.int .i64 0,.int .i64 0,.int .i64 0]) ?_ 2 _ rfl;(with_reducible repeat (first|refine qf ?_ _|refine qk ?_|refine qg ?_ _));refine blk_put (cs:=#[.int .i64 ((rd_T51 l0_1 x3_1).f0),.int .i64 0,.int .i64 0,.int .i64 0,.int .i64 0]) ?_ 1 _ rfl;(with_reducible repeat (first|refine qf ?_ _|refine qk ?_|refine qg ?_ _));refine blk_put (cs:=#[.int .i64 0,.int .i64 0,.int .i64 0,.int .i64 0,.int .i64 0]) ?_ 0 _ rfl;(with_reducible repeat (first|refine qf ?_ _|refine qk ?_|refine qg ?_ _));exact BK107.out⟩,⟨hx_⟩⟩
     rw [if_neg c13] at H
     have c13b0 : decide (((rd_T51 l0_1 x3_1).f0) < 0) = false:=decide_eq_false c13
     clear c13
     (first|rw [c13b0]|(simp only [i64_w,i32_w];rw [c13b0])|skip)
     by_cases c16 : ((rd_T51 l0_1 x3_1).f0) ≥ ((rd_T51 l0_1 x3_1).f1)
     ·rw [if_pos c16] at H
      have c16b0 : decide (((rd_T51 l0_1 x3_1).f1) ≤ ((rd_T51 l0_1 x3_1).f0)) = true:=decide_eq_true c16
      clear c16
      have H':=qy.mk H
      clear H
      have hnb17:=NB107_104.out
      have hnc17:=NB104_107.out
      obtain ⟨hcz18_0,hcz18_1,hcz18_2,hcz18_3,hcz18_4,hfz18_0,hfz18_1,hfz18_2,hfz18_3,hfz18_4⟩:=c5f_ BK107.out
      go_wp2
      repeat (go_quiet (fail);try go_wp2)
      go_meet
      case rel=>exact ⟨_,(true),rs_,H',⟨by have:=HK1.out;first|omega|exact Nat.le_refl _⟩,⟨by (with_reducible repeat (first|refine qf ?_ _|refine qk ?_|refine qg ?_ _));refine blk_far ?_ NB104_107.out _;(with_reducible repeat (first|refine qf ?_ _|refine qk ?_|refine qg ?_ _));refine blk_far ?_ NB104_107.out _;(with_reducible repeat (first|refine qf ?_ _|refine qk ?_|refine qg ?_ _));refine blk_far ?_ NB104_107.out _;(with_reducible repeat (first|refine qf ?_ _|refine qk ?_|refine qg ?_ _));refine blk_far ?_ NB104_107.out _;(with_reducible repeat (first|refine qf ?_ _|refine qk ?_|refine qg ?_ _));refine blk_far ?_ NB104_107.out _;(with_reducible repeat (first|refine qf ?_ _|refine qk ?_|refine qg ?_ _));exact BK104.out⟩,⟨by (with_reducible repeat (first|refine qf ?_ _|refine qk ?_|refine qg ?_ _));refine blk_put (cs:=#[.int .i64 ((rd_T51 l0_1 x3_1).f0),.int .i64 ((rd_T51 l0_1 x3_1).f1),.int .i64 ((rd_T51 l0_1 x3_1).f2),.int .i64 ((rd_T51 l0_1 x3_1).f3),.int .i64 0]) ?_ 4 _ rfl;(with_reducible repeat (first|refine qf ?_ _|refine qk ?_|refine qg ?_ _));refine blk_put (cs:=#[.int .i64 ((rd_T51 l0_1 x3_1).f0),.int .i64 ((rd_T51 l0_1 x3_1).f1),.int .i64 ((rd_T51 l0_1 x3_1).f2),.int .i64 0,.int .i64 0]) ?_ 3 _ rfl;(with_reducible repeat (first|refine qf ?_ _|refine qk ?_|refine qg ?_ _));refine blk_put (cs:=#[.int .i64 ((rd_T51 l0_1 x3_1).f0),.int .i64 ((rd_T51 l0_1 x3_1).f1),.int .i64 0,.int .i64 0,.int .i64 0]) ?_ 2 _ rfl;(with_reducible repeat (first|refine qf ?_ _|refine qk ?_|refine qg ?_ _));refine blk_put (cs:=#[.int .i64 ((rd_T51 l0_1 x3_1).f0),.int .i64 0,.int .i64 0,.int .i64 0,.int .i64 0]) ?_ 1 _ rfl;(with_reducible repeat (first|refine qf ?_ _|refine qk ?_|refine qg ?_ _));refine blk_put (cs:=#[.int .i64 0,.int .i64 0,.int .i64 0,.int .i64 0,.int .i64 0]) ?_ 0 _ rfl;(with_reducible repeat (first|refine qf ?_ _|refine qk ?_|refine qg ?_ _));exact BK107.out⟩,⟨hx_⟩⟩
     rw [if_neg c16] at H
     have c16b0 : decide (((rd_T51 l0_1 x3_1).f1) ≤ ((rd_T51 l0_1 x3_1).f0)) = false:=decide_eq_false c16
     clear c16
     by_cases c19 : ((rd_T51 l0_1 x3_1).f1) ≥ a0_0
     ·rw [if_pos c19] at H
      have c19b0 : decide (a0_0 ≤ ((rd_T51 l0_1 x3_1).f1)) = true:=decide_eq_true c19
      clear c19
      have H':=qy.mk H
      clear H
      have hnb20:=NB107_104.out
      have hnc20:=NB104_107.out
      obtain ⟨hcz21_0,hcz21_1,hcz21_2,hcz21_3,hcz21_4,hfz21_0,hfz21_1,hfz21_2,hfz21_3,hfz21_4⟩:=c5f_ BK107.out
      obtain ⟨hcz22_0,hcz22_1,hfz22_0,hfz22_1⟩:=c2f_ BK104.out
      go_wp2
      repeat (go_quiet (fail);try go_wp2)
      go_meet
      case rel=>exact ⟨_,(true),rs_,H',⟨by have:=HK1.out;first|omega|exact Nat.le_refl _⟩,⟨by (with_reducible repeat (first|refine qf ?_ _|refine qk ?_|refine qg ?_ _));refine blk_far ?_ NB104_107.out _;(with_reducible repeat (first|refine qf ?_ _|refine qk ?_|refine qg ?_ _));refine blk_far ?_ NB104_107.out _;(with_reducible repeat (first|refine qf ?_ _|refine qk ?_|refine qg ?_ _));refine blk_far ?_ NB104_107.out _;(with_reducible repeat (first|refine qf ?_ _|refine qk ?_|refine qg ?_ _));refine blk_far ?_ NB104_107.out _;(with_reducible repeat (first|refine qf ?_ _|refine qk ?_|refine qg ?_ _));refine blk_far ?_ NB104_107.out _;(with_reducible repeat (first|refine qf ?_ _|refine qk ?_|refine qg ?_ _));exact BK104.out⟩,⟨by (with_reducible repeat (first|refine qf ?_ _|refine qk ?_|refine qg ?_ _));refine blk_put (cs:=#[.int .i64 ((rd_T51 l0_1 x3_1).f0),.int .i64 ((rd_T51 l0_1 x3_1).f1),.int .i64 ((rd_T51 l0_1 x3_1).f2),.int .i64 ((rd_T51 l0_1 x3_1).f3),.int .i64 0]) ?_ 4 _ rfl;(with_reducible repeat (first|refine qf ?_ _|refine qk ?_|refine qg ?_ _));refine blk_put (cs:=#[.int .i64 ((rd_T51 l0_1 x3_1).f0),.int .i64 ((rd_T51 l0_1 x3_1).f1),.int .i64 ((rd_T51 l0_1 x3_1).f2),.int .i64 0,.int .i64 0]) ?_ 3 _ rfl;(with_reducible repeat (first|refine qf ?_ _|refine qk ?_|refine qg ?_ _));refine blk_put (cs:=#[.int .i64 ((rd_T51 l0_1 x3_1).f0),.int .i64 ((rd_T51 l0_1 x3_1).f1),.int .i64 0,.int .i64 0,.int .i64 0]) ?_ 2 _ rfl;(with_reducible repeat (first|refine qf ?_ _|refine qk ?_|refine qg ?_ _));refine blk_put (cs:=#[.int .i64 ((rd_T51 l0_1 x3_1).f0),.int .i64 0,.int .i64 0,.int .i64 0,.int .i64 0]) ?_ 1 _ rfl;(with_reducible repeat (first|refine qf ?_ _|refine qk ?_|refine qg ?_ _));refine blk_put (cs:=#[.int .i64 0,.int .i64 0,.int .i64 0,.int .i64 0,.int .i64 0]) ?_ 0 _ rfl;(with_reducible repeat (first|refine qf ?_ _|refine qk ?_|refine qg ?_ _));exact BK107.out⟩,⟨hx_⟩⟩
     rw [if_neg c19] at H
     have c19b0 : decide (a0_0 ≤ ((rd_T51 l0_1 x3_1).f1)) = false:=decide_eq_false c19
     clear c19
     replace H:=Option.bind_eq_some_iff.mp H
     obtain ⟨t108,A230,H⟩:=H
     replace H : (if t108 = true then ((spec_l08Worth.f ((rd_T51 l0_1 x3_1).f3)).bind fun t109=>(if t109 = true then ((spec_l08Worth.f ((rd_T51 l0_1 x3_1).f4)).bind fun t110=>(spec_GraphOk.j1 k1 x3_1 (!t110) a0_0 l0_1 ((rd_T51 l0_1 x3_1).f0) ((rd_T51 l0_1 x3_1).f1) ((rd_T51 l0_1 x3_1).f2) ((rd_T51 l0_1 x3_1).f3) ((rd_T51 l0_1 x3_1).f4))) else (spec_GraphOk.j1 k1 x3_1 true a0_0 l0_1 ((rd_T51 l0_1 x3_1).f0) ((rd_T51 l0_1 x3_1).f1) ((rd_T51 l0_1 x3_1).f2) ((rd_T51 l0_1 x3_1).f3) ((rd_T51 l0_1 x3_1).f4)))) else (spec_GraphOk.j1 k1 x3_1 true a0_0 l0_1 ((rd_T51 l0_1 x3_1).f0) ((rd_T51 l0_1 x3_1).f1) ((rd_T51 l0_1 x3_1).f2) ((rd_T51 l0_1 x3_1).f3) ((rd_T51 l0_1 x3_1).f4))) = some r:=H
     have A23:=qy.mk A230
     clear A230
     by_cases c24 : t108 = true
     ·subst c24
      have H1 : ((spec_l08Worth.f ((rd_T51 l0_1 x3_1).f3)).bind fun t109=>(if t109 = true then ((spec_l08Worth.f ((rd_T51 l0_1 x3_1).f4)).bind fun t110=>(spec_GraphOk.j1 k1 x3_1 (!t110) a0_0 l0_1 ((rd_T51 l0_1 x3_1).f0) ((rd_T51 l0_1 x3_1).f1) ((rd_T51 l0_1 x3_1).f2) ((rd_T51 l0_1 x3_1).f3) ((rd_T51 l0_1 x3_1).f4))) else (spec_GraphOk.j1 k1 x3_1 true a0_0 l0_1 ((rd_T51 l0_1 x3_1).f0) ((rd_T51 l0_1 x3_1).f1) ((rd_T51 l0_1 x3_1).f2) ((rd_T51 l0_1 x3_1).f3) ((rd_T51 l0_1 x3_1).f4)))) = some r:=by rw [if_pos rfl] at H;exact H
      clear H
      have H:=H1
      clear H1
      replace H:=Option.bind_eq_some_iff.mp H
      obtain ⟨t109,A250,H⟩:=H
      replace H : (if t109 = true then ((spec_l08Worth.f ((rd_T51 l0_1 x3_1).f4)).bind fun t110=>(spec_GraphOk.j1 k1 x3_1 (!t110) a0_0 l0_1 ((rd_T51 l0_1 x3_1).f0) ((rd_T51 l0_1 x3_1).f1) ((rd_T51 l0_1 x3_1).f2) ((rd_T51 l0_1 x3_1).f3) ((rd_T51 l0_1 x3_1).f4))) else (spec_GraphOk.j1 k1 x3_1 true a0_0 l0_1 ((rd_T51 l0_1 x3_1).f0) ((rd_T51 l0_1 x3_1).f1) ((rd_T51 l0_1 x3_1).f2) ((rd_T51 l0_1 x3_1).f3) ((rd_T51 l0_1 x3_1).f4))) = some r:=H
      have A25:=qy.mk A250
      clear A250
      by_cases c26 : t109 = true
      ·subst c26
       have H1 : ((spec_l08Worth.f ((rd_T51 l0_1 x3_1).f4)).bind fun t110=>(spec_GraphOk.j1 k1 x3_1 (!t110) a0_0 l0_1 ((rd_T51 l0_1 x3_1).f0) ((rd_T51 l0_1 x3_1).f1) ((rd_T51 l0_1 x3_1).f2) ((rd_T51 l0_1 x3_1).f3) ((rd_T51 l0_1 x3_1).f4))) = some r:=by rw [if_pos rfl] at H;exact H
       clear H
       have H:=H1
       clear H1
       replace H:=Option.bind_eq_some_iff.mp H
       obtain ⟨t110,A270,H⟩:=H
       replace H : (spec_GraphOk.j1 k1 x3_1 (!t110) a0_0 l0_1 ((rd_T51 l0_1 x3_1).f0) ((rd_T51 l0_1 x3_1).f1) ((rd_T51 l0_1 x3_1).f2) ((rd_T51 l0_1 x3_1).f3) ((rd_T51 l0_1 x3_1).f4)) = some r:=H
       have A27:=qy.mk A270
       clear A270
       have H':=qy.mk H
       clear H
       have hnb28:=NB107_104.out
       have hnc28:=NB104_107.out
       obtain ⟨hcz29_0,hcz29_1,hcz29_2,hcz29_3,hcz29_4,hfz29_0,hfz29_1,hfz29_2,hfz29_3,hfz29_4⟩:=c5f_ BK107.out
       obtain ⟨hcz30_0,hcz30_1,hfz30_0,hfz30_1⟩:=c2f_ BK104.out
       go_wp2_with (first|(go_at_call 18;(with_reducible refine (spec_l08Worth.calls ((rd_T51 l0_1 x3_1).f2) true _ A23.out).mono ?_);rintro e w' ⟨rfl,⟨nd,rfl⟩⟩;(try first|exact ⟨rfl,_,World.drewN_drewN _ _ _⟩|exact ⟨rfl,_,Eq.trans (World.drewN_drewN _ _ _) (congrArg (World.drewN _) (Nat.add_assoc _ _ _))⟩))|(go_at_call 18;(with_reducible refine (spec_l08Worth.calls ((rd_T51 l0_1 x3_1).f3) true _ A25.out).mono ?_);rintro e w' ⟨rfl,⟨nd,rfl⟩⟩;(try first|exact ⟨rfl,_,World.drewN_drewN _ _ _⟩|exact ⟨rfl,_,Eq.trans (World.drewN_drewN _ _ _) (congrArg (World.drewN _) (Nat.add_assoc _ _ _))⟩))|(go_at_call 18;(with_reducible refine (spec_l08Worth.calls ((rd_T51 l0_1 x3_1).f4) t110 _ A27.out).mono ?_);rintro e w' ⟨rfl,⟨nd,rfl⟩⟩;(try first|exact ⟨rfl,_,World.drewN_drewN _ _ _⟩|exact ⟨rfl,_,Eq.trans (World.drewN_drewN _ _ _) (congrArg (World.drewN _) (Nat.add_assoc _ _ _))⟩)))
       repeat (go_quiet (first|(go_at_call 18;(with_reducible refine (spec_l08Worth.calls ((rd_T51 l0_1 x3_1).f2) true _ A23.out).mono ?_);rintro e w' ⟨rfl,⟨nd,rfl⟩⟩;(try first|exact ⟨rfl,_,World.drewN_drewN _ _ _⟩|exact ⟨rfl,_,Eq.trans (World.drewN_drewN _ _ _) (congrArg (World.drewN _) (Nat.add_assoc _ _ _))⟩))|(go_at_call 18;(with_reducible refine (spec_l08Worth.calls ((rd_T51 l0_1 x3_1).f3) true _ A25.out).mono ?_);rintro e w' ⟨rfl,⟨nd,rfl⟩⟩;(try first|exact ⟨rfl,_,World.drewN_drewN _ _ _⟩|exact ⟨rfl,_,Eq.trans (World.drewN_drewN _ _ _) (congrArg (World.drewN _) (Nat.add_assoc _ _ _))⟩))|(go_at_call 18;(with_reducible refine (spec_l08Worth.calls ((rd_T51 l0_1 x3_1).f4) t110 _ A27.out).mono ?_);rintro e w' ⟨rfl,⟨nd,rfl⟩⟩;(try first|exact ⟨rfl,_,World.drewN_drewN _ _ _⟩|exact ⟨rfl,_,Eq.trans (World.drewN_drewN _ _ _) (congrArg (World.drewN _) (Nat.add_assoc _ _ _))⟩)));try go_wp2_with (first|(go_at_call 18;(with_reducible refine (spec_l08Worth.calls ((rd_T51 l0_1 x3_1).f2) true _ A23.out).mono ?_);rintro e w' ⟨rfl,⟨nd,rfl⟩⟩;(try first|exact ⟨rfl,_,World.drewN_drewN _ _ _⟩|exact ⟨rfl,_,Eq.trans (World.drewN_drewN _ _ _) (congrArg (World.drewN _) (Nat.add_assoc _ _ _))⟩))|(go_at_call 18;(with_reducible refine (spec_l08Worth.calls ((rd_T51 l0_1 x3_1).f3) true _ A25.out).mono ?_);rintro e w' ⟨rfl,⟨nd,rfl⟩⟩;(try first|exact ⟨rfl,_,World.drewN_drewN _ _ _⟩|exact ⟨rfl,_,Eq.trans (World.drewN_drewN _ _ _) (congrArg (World.drewN _) (Nat.add_assoc _ _ _))⟩))|(go_at_call 18;(with_reducible refine (spec_l08Worth.calls ((rd_T51 l0_1 x3_1).f4) t110 _ A27.out).mono ?_);rintro e w' ⟨rfl,⟨nd,rfl⟩⟩;(try first|exact ⟨rfl,_,World.drewN_drewN _ _ _⟩|exact ⟨rfl,_,Eq.trans (World.drewN_drewN _ _ _) (congrArg (World.drewN _) (Nat.add_assoc _ _ _))⟩))))
       go_meet
       case rel=>exact ⟨_,(!t110),rs_,H',⟨by have:=HK1.out;first|omega|exact Nat.le_refl _⟩,⟨by (with_reducible repeat (first|refine qf ?_ _|refine qk ?_|refine qg ?_ _));refine blk_far ?_ NB104_107.out _;(with_reducible repeat (first|refine qf ?_ _|refine qk ?_|refine qg ?_ _));refine blk_far ?_ NB104_107.out _;(with_reducible repeat (first|refine qf ?_ _|refine qk ?_|refine qg ?_ _));refine blk_far ?_ NB104_107.out _;(with_reducible repeat (first|refine qf ?_ _|refine qk ?_|refine qg ?_ _));refine blk_far ?_ NB104_107.out _;(with_reducible repeat (first|refine qf ?_ _|refine qk ?_|refine qg ?_ _));refine blk_far ?_ NB104_107.out _;(with_reducible repeat (first|refine qf ?_ _|refine qk ?_|refine qg ?_ _));exact BK104.out⟩,⟨by (with_reducible repeat (first|refine qf ?_ _|refine qk ?_|refine qg ?_ _));refine blk_put (cs:=#[.int .i64 ((rd_T51 l0_1 x3_1).f0),.int .i64 ((rd_T51 l0_1 x3_1).f1),.int .i64 ((rd_T51 l0_1 x3_1).f2),.int .i64 ((rd_T51 l0_1 x3_1).f3),.int .i64 0]) ?_ 4 _ rfl;(with_reducible repeat (first|refine qf ?_ _|refine qk ?_|refine qg ?_ _));refine blk_put (cs:=#[.int .i64 ((rd_T51 l0_1 x3_1).f0),.int .i64 ((rd_T51 l0_1 x3_1).f1),.int .i64 ((rd_T51 l0_1 x3_1).f2),.int .i64 0,.int .i64 0]) ?_ 3 _ rfl;(with_reducible repeat (first|refine qf ?_ _|refine qk ?_|refine qg ?_ _));refine blk_put (cs:=#[.int .i64 ((rd_T51 l0_1 x3_1).f0),.int .i64 ((rd_T51 l0_1 x3_1).f1),.int .i64 0,.int .i64 0,.int .i64 0]) ?_ 2 _ rfl;(with_reducible repeat (first|refine qf ?_ _|refine qk ?_|refine qg ?_ _));refine blk_put (cs:=#[.int .i64 ((rd_T51 l0_1 x3_1).f0),.int .i64 0,.int .i64 0,.int .i64 0,.int .i64 0]) ?_ 1 _ rfl;(with_reducible repeat (first|refine qf ?_ _|refine qk ?_|refine qg ?_ _));refine blk_put (cs:=#[.int .i64 0,.int .i64 0,.int .i64 0,.int .i64 0,.int .i64 0]) ?_ 0 _ rfl;(with_reducible repeat (first|refine qf ?_ _|refine qk ?_|refine qg ?_ _));exact BK107.out⟩,⟨hx_⟩⟩
      replace c26:=Bool.eq_false_iff.mpr c26
      subst c26
      have H1 : (spec_GraphOk.j1 k1 x3_1 true a0_0 l0_1 ((rd_T51 l0_1 x3_1).f0) ((rd_T51 l0_1 x3_1).f1) ((rd_T51 l0_1 x3_1).f2) ((rd_T51 l0_1 x3_1).f3) ((rd_T51 l0_1 x3_1).f4)) = some r:=by rw [if_neg (show ¬ (false = true) by decide)] at H;exact H
      clear H
      have H:=H1
      clear H1
      have H':=qy.mk H
      clear H
      have hnb31:=NB107_104.out
      have hnc31:=NB104_107.out
      obtain ⟨hcz32_0,hcz32_1,hcz32_2,hcz32_3,hcz32_4,hfz32_0,hfz32_1,hfz32_2,hfz32_3,hfz32_4⟩:=c5f_ BK107.out
      obtain ⟨hcz33_0,hcz33_1,hfz33_0,hfz33_1⟩:=c2f_ BK104.out
      go_wp2_with (first|(go_at_call 18;(with_reducible refine (spec_l08Worth.calls ((rd_T51 l0_1 x3_1).f2) true _ A23.out).mono ?_);rintro e w' ⟨rfl,⟨nd,rfl⟩⟩;(try first|exact ⟨rfl,_,World.drewN_drewN _ _ _⟩|exact ⟨rfl,_,Eq.trans (World.drewN_drewN _ _ _) (congrArg (World.drewN _) (Nat.add_assoc _ _ _))⟩))|(go_at_call 18;(with_reducible refine (spec_l08Worth.calls ((rd_T51 l0_1 x3_1).f3) false _ A25.out).mono ?_);rintro e w' ⟨rfl,⟨nd,rfl⟩⟩;(try first|exact ⟨rfl,_,World.drewN_drewN _ _ _⟩|exact ⟨rfl,_,Eq.trans (World.drewN_drewN _ _ _) (congrArg (World.drewN _) (Nat.add_assoc _ _ _))⟩)))
      repeat (go_quiet (first|(go_at_call 18;(with_reducible refine (spec_l08Worth.calls ((rd_T51 l0_1 x3_1).f2) true _ A23.out).mono ?_);rintro e w' ⟨rfl,⟨nd,rfl⟩⟩;(try first|exact ⟨rfl,_,World.drewN_drewN _ _ _⟩|exact ⟨rfl,_,Eq.trans (World.drewN_drewN _ _ _) (congrArg (World.drewN _) (Nat.add_assoc _ _ _))⟩))|(go_at_call 18;(with_reducible refine (spec_l08Worth.calls ((rd_T51 l0_1 x3_1).f3) false _ A25.out).mono ?_);rintro e w' ⟨rfl,⟨nd,rfl⟩⟩;(try first|exact ⟨rfl,_,World.drewN_drewN _ _ _⟩|exact ⟨rfl,_,Eq.trans (World.drewN_drewN _ _ _) (congrArg (World.drewN _) (Nat.add_assoc _ _ _))⟩)));try go_wp2_with (first|(go_at_call 18;(with_reducible refine (spec_l08Worth.calls ((rd_T51 l0_1 x3_1).f2) true _ A23.out).mono ?_);rintro e w' ⟨rfl,⟨nd,rfl⟩⟩;(try first|exact ⟨rfl,_,World.drewN_drewN _ _ _⟩|exact ⟨rfl,_,Eq.trans (World.drewN_drewN _ _ _) (congrArg (World.drewN _) (Nat.add_assoc _ _ _))⟩))|(go_at_call 18;(with_reducible refine (spec_l08Worth.calls ((rd_T51 l0_1 x3_1).f3) false _ A25.out).mono ?_);rintro e w' ⟨rfl,⟨nd,rfl⟩⟩;(try first|exact ⟨rfl,_,World.drewN_drewN _ _ _⟩|exact ⟨rfl,_,Eq.trans (World.drewN_drewN _ _ _) (congrArg (World.drewN _) (Nat.add_assoc _ _ _))⟩))))
      go_meet
      case rel=>exact ⟨_,(true),rs_,H',⟨by have:=HK1.out;first|omega|exact Nat.le_refl _⟩,⟨by (with_reducible repeat (first|refine qf ?_ _|refine qk ?_|refine qg ?_ _));refine blk_far ?_ NB104_107.out _;(with_reducible repeat (first|refine qf ?_ _|refine qk ?_|refine qg ?_ _));refine blk_far ?_ NB104_107.out _;(with_reducible repeat (first|refine qf ?_ _|refine qk ?_|refine qg ?_ _));refine blk_far ?_ NB104_107.out _;(with_reducible repeat (first|refine qf ?_ _|refine qk ?_|refine qg ?_ _));refine blk_far ?_ NB104_107.out _;(with_reducible repeat (first|refine qf ?_ _|refine qk ?_|refine qg ?_ _));refine blk_far ?_ NB104_107.out _;(with_reducible repeat (first|refine qf ?_ _|refine qk ?_|refine qg ?_ _));exact BK104.out⟩,⟨by (with_reducible repeat (first|refine qf ?_ _|refine qk ?_|refine qg ?_ _));refine blk_put (cs:=#[.int .i64 ((rd_T51 l0_1 x3_1).f0),.int .i64 ((rd_T51 l0_1 x3_1).f1),.int .i64 ((rd_T51 l0_1 x3_1).f2),.int .i64 ((rd_T51 l0_1 x3_1).f3),.int .i64 0]) ?_ 4 _ rfl;(with_reducible repeat (first|refine qf ?_ _|refine qk ?_|refine qg ?_ _));refine blk_put (cs:=#[.int .i64 ((rd_T51 l0_1 x3_1).f0),.int .i64 ((rd_T51 l0_1 x3_1).f1),.int .i64 ((rd_T51 l0_1 x3_1).f2),.int .i64 0,.int .i64 0]) ?_ 3 _ rfl;(with_reducible repeat (first|refine qf ?_ _|refine qk ?_|refine qg ?_ _));refine blk_put (cs:=#[.int .i64 ((rd_T51 l0_1 x3_1).f0),.int .i64 ((rd_T51 l0_1 x3_1).f1),.int .i64 0,.int .i64 0,.int .i64 0]) ?_ 2 _ rfl;(with_reducible repeat (first|refine qf ?_ _|refine qk ?_|refine qg ?_ _));refine blk_put (cs:=#[.int .i64 ((rd_T51 l0_1 x3_1).f0),.int .i64 0,.int .i64 0,.int .i64 0,.int .i64 0]) ?_ 1 _ rfl;(with_reducible repeat (first|refine qf ?_ _|refine qk ?_|refine qg ?_ _));refine blk_put (cs:=#[.int .i64 0,.int .i64 0,.int .i64 0,.int .i64 0,.int .i64 0]) ?_ 0 _ rfl;(with_reducible repeat (first|refine qf ?_ _|refine qk ?_|refine qg ?_ _));exact BK107.out⟩,⟨hx_⟩⟩
     replace c24:=Bool.eq_false_iff.mpr c24
     subst c24
     have H1 : (spec_GraphOk.j1 k1 x3_1 true a0_0 l0_1 ((rd_T51 l0_1 x3_1).f0) ((rd_T51 l0_1 x3_1).f1) ((rd_T51 l0_1 x3_1).f2) ((rd_T51 l0_1 x3_1).f3) ((rd_T51 l0_1 x3_1).f4)) = some r:=by rw [if_neg (show ¬ (false = true) by decide)] at H;exact H
     clear H
     have H:=H1
     clear H1
     have H':=qy.mk H
     clear H
     have hnb34:=NB107_104.out
     have hnc34:=NB104_107.out
     obtain ⟨hcz35_0,hcz35_1,hcz35_2,hcz35_3,hcz35_4,hfz35_0,hfz35_1,hfz35_2,hfz35_3,hfz35_4⟩:=c5f_ BK107.out
     obtain ⟨hcz36_0,hcz36_1,hfz36_0,hfz36_1⟩:=c2f_ BK104.out
     go_wp2_with (first|(go_at_call 18;(with_reducible refine (spec_l08Worth.calls ((rd_T51 l0_1 x3_1).f2) false _ A23.out).mono ?_);rintro e w' ⟨rfl,⟨nd,rfl⟩⟩;(try first|exact ⟨rfl,_,World.drewN_drewN _ _ _⟩|exact ⟨rfl,_,Eq.trans (World.drewN_drewN _ _ _) (congrArg (World.drewN _) (Nat.add_assoc _ _ _))⟩)))
     repeat (go_quiet (first|(go_at_call 18;(with_reducible refine (spec_l08Worth.calls ((rd_T51 l0_1 x3_1).f2) false _ A23.out).mono ?_);rintro e w' ⟨rfl,⟨nd,rfl⟩⟩;(try first|exact ⟨rfl,_,World.drewN_drewN _ _ _⟩|exact ⟨rfl,_,Eq.trans (World.drewN_drewN _ _ _) (congrArg (World.drewN _) (Nat.add_assoc _ _ _))⟩)));try go_wp2_with (first|(go_at_call 18;(with_reducible refine (spec_l08Worth.calls ((rd_T51 l0_1 x3_1).f2) false _ A23.out).mono ?_);rintro e w' ⟨rfl,⟨nd,rfl⟩⟩;(try first|exact ⟨rfl,_,World.drewN_drewN _ _ _⟩|exact ⟨rfl,_,Eq.trans (World.drewN_drewN _ _ _) (congrArg (World.drewN _) (Nat.add_assoc _ _ _))⟩))))
     go_meet
     case rel=>exact ⟨_,(true),rs_,H',⟨by have:=HK1.out;first|omega|exact Nat.le_refl _⟩,⟨by (with_reducible repeat (first|refine qf ?_ _|refine qk ?_|refine qg ?_ _));refine blk_far ?_ NB104_107.out _;(with_reducible repeat (first|refine qf ?_ _|refine qk ?_|refine qg ?_ _));refine blk_far ?_ NB104_107.out _;(with_reducible repeat (first|refine qf ?_ _|refine qk ?_|refine qg ?_ _));refine blk_far ?_ NB104_107.out _;(with_reducible repeat (first|refine qf ?_ _|refine qk ?_|refine qg ?_ _));refine blk_far ?_ NB104_107.out _;(with_reducible repeat (first|refine qf ?_ _|refine qk ?_|refine qg ?_ _));refine blk_far ?_ NB104_107.out _;(with_reducible repeat (first|refine qf ?_ _|refine qk ?_|refine qg ?_ _));exact BK104.out⟩,⟨by (with_reducible repeat (first|refine qf ?_ _|refine qk ?_|refine qg ?_ _));refine blk_put (cs:=#[.int .i64 ((rd_T51 l0_1 x3_1).f0),.int .i64 ((rd_T51 l0_1 x3_1).f1),.int .i64 ((rd_T51 l0_1 x3_1).f2),.int .i64 ((rd_T51 l0_1 x3_1).f3),.int .i64 0]) ?_ 4 _ rfl;(with_reducible repeat (first|refine qf ?_ _|refine qk ?_|refine qg ?_ _));refine blk_put (cs:=#[.int .i64 ((rd_T51 l0_1 x3_1).f0),.int .i64 ((rd_T51 l0_1 x3_1).f1),.int .i64 ((rd_T51 l0_1 x3_1).f2),.int .i64 0,.int .i64 0]) ?_ 3 _ rfl;(with_reducible repeat (first|refine qf ?_ _|refine qk ?_|refine qg ?_ _));refine blk_put (cs:=#[.int .i64 ((rd_T51 l0_1 x3_1).f0),.int .i64 ((rd_T51 l0_1 x3_1).f1),.int .i64 0,.int .i64 0,.int .i64 0]) ?_ 2 _ rfl;(with_reducible repeat (first|refine qf ?_ _|refine qk ?_|refine qg ?_ _));refine blk_put (cs:=#[.int .i64 ((rd_T51 l0_1 x3_1).f0),.int .i64 0,.int .i64 0,.int .i64 0,.int .i64 0]) ?_ 1 _ rfl;(with_reducible repeat (first|refine qf ?_ _|refine qk ?_|refine qg ?_ _));refine blk_put (cs:=#[.int .i64 0,.int .i64 0,.int .i64 0,.int .i64 0,.int .i64 0]) ?_ 0 _ rfl;(with_reducible repeat (first|refine qf ?_ _|refine qk ?_|refine qg ?_ _));exact BK107.out⟩,⟨hx_⟩⟩
    clear HC8
    try clear c1
    try clear p1
    try clear q1
    try clear hx1
    try clear c2
    try clear p2
    try clear c3
    try clear c6
    try clear c6b0
    try clear c7
    try clear c7b0
    try clear c10
    try clear p10
    try clear q10
    try clear hx10
    try clear c11
    try clear c13
    try clear c13b0
    try clear c14
    try clear c16
    try clear c16b0
    try clear c17
    try clear c19
    try clear c19b0
    try clear c20
    try clear c24
    try clear c26
    try clear c28
    try clear c31
    try clear c34
    try clear hcz12_0
    try clear hcz12_1
    try clear hcz12_2
    try clear hcz12_3
    try clear hcz12_4
    try clear hcz15_0
    try clear hcz15_1
    try clear hcz15_2
    try clear hcz15_3
    try clear hcz15_4
    try clear hcz18_0
    try clear hcz18_1
    try clear hcz18_2
    try clear hcz18_3
    try clear hcz18_4
    try clear hcz21_0
    try clear hcz21_1
    try clear hcz21_2
    try clear hcz21_3
    try clear hcz21_4
    try clear hcz22_0
    try clear hcz22_1
    try clear hcz29_0
    try clear hcz29_1
    try clear hcz29_2
    try clear hcz29_3
    try clear hcz29_4
    try clear hcz30_0
    try clear hcz30_1
    try clear hcz32_0
    try clear hcz32_1
    try clear hcz32_2
    try clear hcz32_3
    try clear hcz32_4
    try clear hcz33_0
    try clear hcz33_1
    try clear hcz35_0
    try clear hcz35_1
    try clear hcz35_2
    try clear hcz35_3
    try clear hcz35_4
    try clear hcz36_0
    try clear hcz36_1
    try clear hcz5_0
    try clear hcz5_1
    try clear hcz9_0
    try clear hcz9_1
    try clear hfz12_0
    try clear hfz12_1
    try clear hfz12_2
    try clear hfz12_3
    try clear hfz12_4
    try clear hfz15_0
    try clear hfz15_1
    try clear hfz15_2
    try clear hfz15_3
    try clear hfz15_4
    try clear hfz18_0
    try clear hfz18_1
    try clear hfz18_2
    try clear hfz18_3
    try clear hfz18_4
    try clear hfz21_0
    try clear hfz21_1
    try clear hfz21_2
    try clear hfz21_3
    try clear hfz21_4
    try clear hfz22_0
    try clear hfz22_1
    try clear hfz29_0
    try clear hfz29_1
    try clear hfz29_2
    try clear hfz29_3
    try clear hfz29_4
    try clear hfz30_0
    try clear hfz30_1
    try clear hfz32_0
    try clear hfz32_1
    try clear hfz32_2
    try clear hfz32_3
    try clear hfz32_4
    try clear hfz33_0
    try clear hfz33_1
    try clear hfz35_0
    try clear hfz35_1
    try clear hfz35_2
    try clear hfz35_3
    try clear hfz35_4
    try clear hfz36_0
    try clear hfz36_1
    try clear hfz5_0
    try clear hfz5_1
    try clear hfz9_0
    try clear hfz9_1
    try clear hx106_0
    try clear hx106_1
    try clear hx106_2
    try clear hx106_3
    try clear hx106_4
    try clear p106
    try clear p2
    try clear q106
    obtain ⟨kq,x55_7,rfl,HA,HJ7,BK104,BK107,HB⟩:=hcut
    obtain _|kj7:=kq
    ·exact absurd HA.out (by simp [spec_GraphOk.j1])
    have H:=HA.out
    clear HA
    simp only [spec_GraphOk.j1] at H
    by_cases c37 : x55_7 = true
    ·subst c37
     have H1 : (some false) = some r:=by rw [if_pos rfl] at H;exact H
     clear H
     have H:=H1
     clear H1
     obtain rfl:=Option.some.inj H
     go_wp2
     repeat (go_quiet (fail);try go_wp2)
     go_ret
     exact ⟨rt_,hx_⟩
    replace c37:=Bool.eq_false_iff.mpr c37
    subst c37
    have H1 : (if x3_1 > 0 then (if 0 ≤ (wrap64 (x3_1 - 1)) then (if (wrap64 (x3_1 - 1)) < (l0_1.length : Int) then (if ((rd_T51 l0_1 (wrap64 (x3_1 - 1))).f0) > ((rd_T51 l0_1 x3_1).f0) then (some false) else (if ((rd_T51 l0_1 (wrap64 (x3_1 - 1))).f0) = ((rd_T51 l0_1 x3_1).f0) then (if ((rd_T51 l0_1 (wrap64 (x3_1 - 1))).f1) ≥ ((rd_T51 l0_1 x3_1).f1) then (some false) else (spec_GraphOk.l0 kj7 (wrap64 (x3_1 + 1)) a0_0 l0_1)) else (spec_GraphOk.l0 kj7 (wrap64 (x3_1 + 1)) a0_0 l0_1))) else (none)) else (none)) else (spec_GraphOk.l0 kj7 (wrap64 (x3_1 + 1)) a0_0 l0_1)) = some r:=by rw [if_neg (show ¬ (false = true) by decide)] at H;exact H
    clear H
    have H:=H1
    clear H1
    by_cases c38 : x3_1 > 0
    ·rw [if_pos c38] at H
     have c38b0 : decide (0 < x3_1) = true:=decide_eq_true c38
     clear c38
     obtain ⟨ji39,hji39⟩ : ∃ j_ : Int,(wrap64 (x3_1 - 1)) = j_:=⟨_,rfl⟩
     replace H : (if 0 ≤ (ji39) then (if (ji39) < (l0_1.length : Int) then (if ((rd_T51 l0_1 (ji39)).f0) > ((rd_T51 l0_1 x3_1).f0) then (some false) else (if ((rd_T51 l0_1 (ji39)).f0) = ((rd_T51 l0_1 x3_1).f0) then (if ((rd_T51 l0_1 (ji39)).f1) ≥ ((rd_T51 l0_1 x3_1).f1) then (some false) else (spec_GraphOk.l0 kj7 (wrap64 (x3_1 + 1)) a0_0 l0_1)) else (spec_GraphOk.l0 kj7 (wrap64 (x3_1 + 1)) a0_0 l0_1))) else (none)) else (none)) = some r:=by first|(rw [hji39] at H;exact H)|(simp only [hji39] at H ⊢;exact H)
     have hji39w : (IntKind.i64.wrap (x3_1 - 1)) = ji39:=(i64_w _).trans hji39
     by_cases c40 : 0 ≤ (ji39)
     ·rw [if_pos c40] at H
      have c40b0 : decide (0 ≤ (ji39)) = true:=decide_eq_true c40
      clear c40
      by_cases c41 : (ji39) < (l0_1.length : Int)
      ·rw [if_pos c41] at H
       have c41b0 : decide ((ji39) < (l0_1.length : Int)) = true:=decide_eq_true c41
       clear c41
       by_cases c42 : ((rd_T51 l0_1 (ji39)).f0) > ((rd_T51 l0_1 x3_1).f0)
       ·rw [if_pos c42] at H
        have c42b0 : decide (((rd_T51 l0_1 x3_1).f0) < ((rd_T51 l0_1 (ji39)).f0)) = true:=decide_eq_true c42
        clear c42
        obtain rfl:=Option.some.inj H
        have hnb43:=NB104_107.out
        have hnc43:=NB107_104.out
        obtain ⟨hcz44_0,hcz44_1,hfz44_0,hfz44_1⟩:=c2f_ BK104.out
        have p111 : 0 ≤ ((ji39) : Int):=dt_
        have q111 : (ji39) < (l0_1.length : Int):=dt_
        obtain ⟨ad111,e111,hx111_0,hx111_1,hx111_2,hx111_3,hx111_4⟩:=at_T51 HR0_1.out (ji39) p111 q111
        obtain rfl : ad106 = ad111:=(by injection e111)
        replace hx111_0:=cb_ HB hx111_0
        replace hx111_1:=cb_ HB hx111_1
        replace hx111_2:=cb_ HB hx111_2
        replace hx111_3:=cb_ HB hx111_3
        replace hx111_4:=cb_ HB hx111_4
        replace p111:=eq_true p111
        replace q111:=eq_true q111
        obtain ⟨hcz45_0,hcz45_1,hcz45_2,hcz45_3,hcz45_4,hfz45_0,hfz45_1,hfz45_2,hfz45_3,hfz45_4⟩:=c5f_ BK107.out
        go_wp2
        repeat (go_quiet (fail);try go_wp2)
        go_ret
        exact ⟨by first|rfl|(simp [errW_none,errW_some] <;> rfl)|(simp only [← hji39];first|rfl|(simp [errW_none,errW_some] <;> rfl))|(simp [*,errW_none,errW_some] <;> rfl),hx_⟩
       rw [if_neg c42] at H
       have c42b0 : decide (((rd_T51 l0_1 x3_1).f0) < ((rd_T51 l0_1 (ji39)).f0)) = false:=decide_eq_false c42
       clear c42
       by_cases c46 : ((rd_T51 l0_1 (ji39)).f0) = ((rd_T51 l0_1 x3_1).f0)
       ·rw [if_pos c46] at H
        have c46b0 : (((rd_T51 l0_1 (ji39)).f0) == ((rd_T51 l0_1 x3_1).f0)) = true:=beq_iff_eq.mpr c46
        have c46b1 : (((rd_T51 l0_1 (ji39)).f0) != ((rd_T51 l0_1 x3_1).f0)) = false:=bne_eq_false_iff_eq.mpr c46
        clear c46
        by_cases c47 : ((rd_T51 l0_1 (ji39)).f1) ≥ ((rd_T51 l0_1 x3_1).f1)
        ·rw [if_pos c47] at H
         have c47b0 : decide (((rd_T51 l0_1 x3_1).f1) ≤ ((rd_T51 l0_1 (ji39)).f1)) = true:=decide_eq_true c47
         clear c47
         obtain rfl:=Option.some.inj H
         have hnb48:=NB104_107.out
         have hnc48:=NB107_104.out
         obtain ⟨hcz49_0,hcz49_1,hfz49_0,hfz49_1⟩:=c2f_ BK104.out
         have p111 : 0 ≤ ((ji39) : Int):=dt_
         have q111 : (ji39) < (l0_1.length : Int):=dt_
         obtain ⟨ad111,e111,hx111_0,hx111_1,hx111_2,hx111_3,hx111_4⟩:=at_T51 HR0_1.out (ji39) p111 q111
         obtain rfl : ad106 = ad111:=(by injection e111)
         replace hx111_0:=cb_ HB hx111_0
         replace hx111_1:=cb_ HB hx111_1
         replace hx111_2:=cb_ HB hx111_2
         replace hx111_3:=cb_ HB hx111_3
         replace hx111_4:=cb_ HB hx111_4
         replace p111:=eq_true p111
         replace q111:=eq_true q111
         obtain ⟨hcz50_0,hcz50_1,hcz50_2,hcz50_3,hcz50_4,hfz50_0,hfz50_1,hfz50_2,hfz50_3,hfz50_4⟩:=c5f_ BK107.out
         have p112 : 0 ≤ ((ji39) : Int):=dt_
         have q112 : (ji39) < (l0_1.length : Int):=dt_
         obtain ⟨ad112,e112,hx112_0,hx112_1,hx112_2,hx112_3,hx112_4⟩:=at_T51 HR0_1.out (ji39) p112 q112
         obtain rfl : ad106 = ad112:=(by injection e112)
         replace hx112_0:=cb_ HB hx112_0
         replace hx112_1:=cb_ HB hx112_1
         replace hx112_2:=cb_ HB hx112_2
         replace hx112_3:=cb_ HB hx112_3
         replace hx112_4:=cb_ HB hx112_4
         replace p112:=eq_true p112
         replace q112:=eq_true q112
         have p113 : 0 ≤ ((ji39) : Int):=dt_
         have q113 : (ji39) < (l0_1.length : Int):=dt_
         obtain ⟨ad113,e113,hx113_0,hx113_1,hx113_2,hx113_3,hx113_4⟩:=at_T51 HR0_1.out (ji39) p113 q113
         obtain rfl : ad106 = ad113:=(by injection e113)
         replace hx113_0:=cb_ HB hx113_0
         replace hx113_1:=cb_ HB hx113_1
         replace hx113_2:=cb_ HB hx113_2
         replace hx113_3:=cb_ HB hx113_3
         replace hx113_4:=cb_ HB hx113_4
         replace p113:=eq_true p113
         replace q113:=eq_true q113
         go_wp2
         repeat (go_quiet (fail);try go_wp2)
         go_ret
         exact ⟨by first|rfl|(simp [errW_none,errW_some] <;> rfl)|(simp only [← hji39];first|rfl|(simp [errW_none,errW_some] <;> rfl))|(simp [*,errW_none,errW_some] <;> rfl),hx_⟩
        rw [if_neg c47] at H
        have c47b0 : decide (((rd_T51 l0_1 x3_1).f1) ≤ ((rd_T51 l0_1 (ji39)).f1)) = false:=decide_eq_false c47
        clear c47
        have H':=qy.mk H
        clear H
        have hnb51:=NB104_107.out
        have hnc51:=NB107_104.out
        obtain ⟨hcz52_0,hcz52_1,hfz52_0,hfz52_1⟩:=c2f_ BK104.out
        have p111 : 0 ≤ ((ji39) : Int):=dt_
        have q111 : (ji39) < (l0_1.length : Int):=dt_
        obtain ⟨ad111,e111,hx111_0,hx111_1,hx111_2,hx111_3,hx111_4⟩:=at_T51 HR0_1.out (ji39) p111 q111
        obtain rfl : ad106 = ad111:=(by injection e111)
        replace hx111_0:=cb_ HB hx111_0
        replace hx111_1:=cb_ HB hx111_1
        replace hx111_2:=cb_ HB hx111_2
        replace hx111_3:=cb_ HB hx111_3
        replace hx111_4:=cb_ HB hx111_4
        replace p111:=eq_true p111
        replace q111:=eq_true q111
        obtain ⟨hcz53_0,hcz53_1,hcz53_2,hcz53_3,hcz53_4,hfz53_0,hfz53_1,hfz53_2,hfz53_3,hfz53_4⟩:=c5f_ BK107.out
        have p112 : 0 ≤ ((ji39) : Int):=dt_
        have q112 : (ji39) < (l0_1.length : Int):=dt_
        obtain ⟨ad112,e112,hx112_0,hx112_1,hx112_2,hx112_3,hx112_4⟩:=at_T51 HR0_1.out (ji39) p112 q112
        obtain rfl : ad106 = ad112:=(by injection e112)
        replace hx112_0:=cb_ HB hx112_0
        replace hx112_1:=cb_ HB hx112_1
        replace hx112_2:=cb_ HB hx112_2
        replace hx112_3:=cb_ HB hx112_3
        replace hx112_4:=cb_ HB hx112_4
        replace p112:=eq_true p112
        replace q112:=eq_true q112
        have p113 : 0 ≤ ((ji39) : Int):=dt_
        have q113 : (ji39) < (l0_1.length : Int):=dt_
        obtain ⟨ad113,e113,hx113_0,hx113_1,hx113_2,hx113_3,hx113_4⟩:=at_T51 HR0_1.out (ji39) p113 q113
        obtain rfl : ad106 = ad113:=(by injection e113)
        replace hx113_0:=cb_ HB hx113_0
        replace hx113_1:=cb_ HB hx113_1
        replace hx113_2:=cb_ HB hx113_2
        replace hx113_3:=cb_ HB hx113_3
        replace hx113_4:=cb_ HB hx113_4
        replace p113:=eq_true p113
        replace q113:=eq_true q113
        go_wp2
        repeat (go_quiet (fail);try go_wp2)
        go_roundg kj7
        case measure=>have:=HK1.out;have:=HJ7.out;omega
        case rel=>exact ⟨(wrap64 (x3_1 + 1)),rs_,H',⟨by have:=HK1.out;have:=HJ7.out;omega⟩,(bx_ BK104),⟨hx_⟩⟩
       rw [if_neg c46] at H
       have c46b0 : (((rd_T51 l0_1 (ji39)).f0) == ((rd_T51 l0_1 x3_1).f0)) = false:=beq_eq_false_iff_ne.mpr c46
       have c46b1 : (((rd_T51 l0_1 (ji39)).f0) != ((rd_T51 l0_1 x3_1).f0)) = true:=bne_iff_ne.mpr c46
       have H':=qy.mk H
       clear H
       have hnb54:=NB104_107.out
       have hnc54:=NB107_104.out
       obtain ⟨hcz55_0,hcz55_1,hfz55_0,hfz55_1⟩:=c2f_ BK104.out
       have p111 : 0 ≤ ((ji39) : Int):=dt_
       have q111 : (ji39) < (l0_1.length : Int):=dt_
       obtain ⟨ad111,e111,hx111_0,hx111_1,hx111_2,hx111_3,hx111_4⟩:=at_T51 HR0_1.out (ji39) p111 q111
       obtain rfl : ad106 = ad111:=(by injection e111)
       replace hx111_0:=cb_ HB hx111_0
       replace hx111_1:=cb_ HB hx111_1
       replace hx111_2:=cb_ HB hx111_2
       replace hx111_3:=cb_ HB hx111_3
       replace hx111_4:=cb_ HB hx111_4
       replace p111:=eq_true p111
       replace q111:=eq_true q111
       obtain ⟨hcz56_0,hcz56_1,hcz56_2,hcz56_3,hcz56_4,hfz56_0,hfz56_1,hfz56_2,hfz56_3,hfz56_4⟩:=c5f_ BK107.out
       have p112 : 0 ≤ ((ji39) : Int):=dt_
       have q112 : (ji39) < (l0_1.length : Int):=dt_
       obtain ⟨ad112,e112,hx112_0,hx112_1,hx112_2,hx112_3,hx112_4⟩:=at_T51 HR0_1.out (ji39) p112 q112
       obtain rfl : ad106 = ad112:=(by injection e112)
       replace hx112_0:=cb_ HB hx112_0
       replace hx112_1:=cb_ HB hx112_1
       replace hx112_2:=cb_ HB hx112_2
       replace hx112_3:=cb_ HB hx112_3
       replace hx112_4:=cb_ HB hx112_4
       replace p112:=eq_true p112
       replace q112:=eq_true q112
       go_wp2
       repeat (go_quiet (fail);try go_wp2)
       go_roundg kj7
       case measure=>have:=HK1.out;have:=HJ7.out;omega
       case rel=>exact ⟨(wrap64 (x3_1 + 1)),rs_,H',⟨by have:=HK1.out;have:=HJ7.out;omega⟩,(bx_ BK104),⟨hx_⟩⟩
      rw [if_neg c41] at H
      exact absurd H (by simp)
     rw [if_neg c40] at H
     exact absurd H (by simp)
    rw [if_neg c38] at H
    have c38b0 : decide (0 < x3_1) = false:=decide_eq_false c38
    clear c38
    have H':=qy.mk H
    clear H
    go_wp2
    repeat (go_quiet (fail);try go_wp2)
    go_roundg kj7
    case measure=>have:=HK1.out;have:=HJ7.out;omega
    case rel=>exact ⟨(wrap64 (x3_1 + 1)),rs_,H',⟨by have:=HK1.out;have:=HJ7.out;omega⟩,(bx_ BK104),⟨hx_⟩⟩
   rw [if_neg c7] at H
   exact absurd H (by simp)
  rw [if_neg c6] at H
  have c6b0 : decide (x3_1 < (l0_1.length : Int)) = false:=decide_eq_false c6
  clear c6
  obtain rfl:=Option.some.inj H
  obtain ⟨hcz57_0,hcz57_1,hfz57_0,hfz57_1⟩:=c2f_ BK104.out
  go_wp2
  repeat (go_quiet (fail);try go_wp2)
  go_ret
  exact ⟨rt_,hx_⟩
 replace c3:=Bool.eq_false_iff.mpr c3
 subst c3
 have H1 : (some false) = some r:=by rw [if_neg (show ¬ (false = true) by decide)] at H;exact H
 clear H
 have H:=H1
 clear H1
 obtain rfl:=Option.some.inj H
 go_enter Try.func10,Try.ntmps10
 go_wp2_with (first|((with_reducible refine gate_dst (N:=1) rfl ?_);refine box_event ?hg (N:=1) ?hd (cs:=#[.int .i64 a0_0,.slice A0_1 l0_1.length c0_1]) (t:=29) ?hr ?_;(case hd=>rfl);(case hg=>rfl);(case hr=>first|(go_simp;done)|(go_simp;rfl));intro gb104 hg w58 hbox hb;have BK104:=qy.mk (hbox);have GW104:=qy.mk ((by rw [hg];exact (qu hx_) : w.heap.size ≤ gb104));have GE104:=qy.mk ((by rw [hg];exact (qu hx_) : w.heap.size ≤ gb104));replace HB:=hs_ HB hb;clear hb hbox hg;obtain ⟨hcz59_0,hcz59_1,hfz59_0,hfz59_1⟩:=c2f_ BK104.out)|(go_at_call 17;(with_reducible refine (spec_l01In.calls a0_0 0 9 false _ A2.out).mono ?_);rintro e w' ⟨rfl,⟨nd,rfl⟩⟩;(try first|exact ⟨rfl,_,World.drewN_drewN _ _ _⟩|exact ⟨rfl,_,Eq.trans (World.drewN_drewN _ _ _) (congrArg (World.drewN _) (Nat.add_assoc _ _ _))⟩)))
 repeat (go_quiet (first|((with_reducible refine gate_dst (N:=1) rfl ?_);refine box_event ?hg (N:=1) ?hd (cs:=#[.int .i64 a0_0,.slice A0_1 l0_1.length c0_1]) (t:=29) ?hr ?_;(case hd=>rfl);(case hg=>rfl);(case hr=>first|(go_simp;done)|(go_simp;rfl));intro gb104 hg w58 hbox hb;have BK104:=qy.mk (hbox);have GW104:=qy.mk ((by rw [hg];exact (qu hx_) : w.heap.size ≤ gb104));have GE104:=qy.mk ((by rw [hg];exact (qu hx_) : w.heap.size ≤ gb104));replace HB:=hs_ HB hb;clear hb hbox hg;obtain ⟨hcz59_0,hcz59_1,hfz59_0,hfz59_1⟩:=c2f_ BK104.out)|(go_at_call 17;(with_reducible refine (spec_l01In.calls a0_0 0 9 false _ A2.out).mono ?_);rintro e w' ⟨rfl,⟨nd,rfl⟩⟩;(try first|exact ⟨rfl,_,World.drewN_drewN _ _ _⟩|exact ⟨rfl,_,Eq.trans (World.drewN_drewN _ _ _) (congrArg (World.drewN _) (Nat.add_assoc _ _ _))⟩)));try go_wp2_with (first|((with_reducible refine gate_dst (N:=1) rfl ?_);refine box_event ?hg (N:=1) ?hd (cs:=#[.int .i64 a0_0,.slice A0_1 l0_1.length c0_1]) (t:=29) ?hr ?_;(case hd=>rfl);(case hg=>rfl);(case hr=>first|(go_simp;done)|(go_simp;rfl));intro gb104 hg w58 hbox hb;have BK104:=qy.mk (hbox);have GW104:=qy.mk ((by rw [hg];exact (qu hx_) : w.heap.size ≤ gb104));have GE104:=qy.mk ((by rw [hg];exact (qu hx_) : w.heap.size ≤ gb104));replace HB:=hs_ HB hb;clear hb hbox hg;obtain ⟨hcz59_0,hcz59_1,hfz59_0,hfz59_1⟩:=c2f_ BK104.out)|(go_at_call 17;(with_reducible refine (spec_l01In.calls a0_0 0 9 false _ A2.out).mono ?_);rintro e w' ⟨rfl,⟨nd,rfl⟩⟩;(try first|exact ⟨rfl,_,World.drewN_drewN _ _ _⟩|exact ⟨rfl,_,Eq.trans (World.drewN_drewN _ _ _) (congrArg (World.drewN _) (Nat.add_assoc _ _ _))⟩))))
 go_ret
 exact ⟨rt_,hx_⟩

/-! ### spec_Scalar: function 19 -/
def spec_Scalar.f (a0_0 : Int) (a0_1 : Int) (a0_2 : Int) (a0_3 : Int) (a0_4 : Int) : Option (Int):=some (wrap64 ((wrap64 ((wrap64 (90000 * a0_2)) + (wrap64 (300 * a0_3)))) + a0_4))
set_option maxHeartbeats 8000000 in
set_option maxRecDepth 100000 in
theorem spec_Scalar.calls (a0_0 : Int) (a0_1 : Int) (a0_2 : Int) (a0_3 : Int) (a0_4 : Int) (r : Int) (w : World) (h : spec_Scalar.f a0_0 a0_1 a0_2 a0_3 a0_4 = some r) :
  Calls Try.prog 19 #[.agg #[.int .i64 a0_0,.int .i64 a0_1,.int .i64 a0_2,.int .i64 a0_3,.int .i64 a0_4]] w fun e w'=>e = .returned (.int .i64 r) ∧ Below w.heap.size w w':=by
 have hu51:=Try.underlying51
 have HB:=qy.mk (Below.refl w.heap.size w)
 have H : (some (wrap64 ((wrap64 ((wrap64 (90000 * a0_2)) + (wrap64 (300 * a0_3)))) + a0_4))) = some r:=h
 clear h
 obtain rfl:=Option.some.inj H
 go_enter Try.func19,Try.ntmps19
 go_wp2_with (first|((with_reducible refine gate_dst (N:=1) rfl ?_);refine box_event ?hg (N:=1) ?hd (cs:=#[.int .i64 a0_0,.int .i64 a0_1,.int .i64 a0_2,.int .i64 a0_3,.int .i64 a0_4]) (t:=51) ?hr ?_;(case hd=>rfl);(case hg=>rfl);(case hr=>first|(go_simp;done)|(go_simp;rfl));intro gb114 hg w2 hbox hb;have BK114:=qy.mk (hbox);have GW114:=qy.mk ((by rw [hg];exact (qu hx_) : w.heap.size ≤ gb114));have GE114:=qy.mk ((by rw [hg];exact (qu hx_) : w.heap.size ≤ gb114));replace HB:=hs_ HB hb;clear hb hbox hg;obtain ⟨hcz3_0,hcz3_1,hcz3_2,hcz3_3,hcz3_4,hfz3_0,hfz3_1,hfz3_2,hfz3_3,hfz3_4⟩:=c5f_ BK114.out))
 go_ret
 exact ⟨rt_,hx_⟩

end Go.Proofs.Ytnffimpoekjkpaa.QFnExactRounds
