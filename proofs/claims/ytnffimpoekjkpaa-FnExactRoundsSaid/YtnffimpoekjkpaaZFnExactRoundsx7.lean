/- Lean functions for the Go functions that the law FnExactRounds reaches, and that each Go function comes to just its Lean function's answer; by a program of this session. -/
import Derived.Test.YtnffimpoekjkpaaZFnExactRoundsx0
import Derived.Test.YtnffimpoekjkpaaZFnExactRoundsx6
namespace Go.Proofs.Ytnffimpoekjkpaa.QFnExactRounds
open Go.RowKit Go.Proofs.YtnffimpoekjkpaaW.PrintWords Go.Proofs.YtnffimpoekjkpaaW.PrintLast Go.Proofs.YtnffimpoekjkpaaW.PrintMore
attribute [local go_sem] max2_int min2_int max_two min_two max_three min_three max_four min_four   -- for this text's walks alone
set_option linter.unusedVariables false
set_option linter.unusedSimpArgs false

/-! ### laws_eqGraph: function 8 -/
def laws_eqGraph.f (k : Nat) (a0_0 : Int) (l0_1 : List (S51)) (a1_0 : Int) (l1_1 : List (S51)) : Option (Bool):=if a0_0 = a1_0 then ((laws_eqEdgeS.f k l0_1 l1_1).bind fun t353=>(if t353 = true then (some true) else (some false))) else (some false)
theorem laws_eqGraph.mono : ∀ a0 a1 a2 a3 k,LeO (laws_eqGraph.f k a0 a1 a2 a3) (laws_eqGraph.f (k + 1) a0 a1 a2 a3):=by
 intro a0 a1 a2 a3 k
 unfold laws_eqGraph.f
 repeat' first|(with_reducible first|exact laws_eqEdgeS.mono _ _ _|exact LeO.refl _|exact LeO.none _|refine LeO.ite ?_ ?_|refine LeO.bind ?_ (fun _=>?_))|exact laws_eqEdgeS.mono _ _ _|exact LeO.none _|refine LeO.ite ?_ ?_|refine LeO.bind ?_ (fun _=>?_)
set_option maxHeartbeats 8000000 in
set_option maxRecDepth 100000 in
theorem laws_eqGraph.calls (k : Nat) (a0_0 : Int) (A0_1 : Option Addr) (c0_1 : Nat) (l0_1 : List (S51)) (a1_0 : Int) (A1_1 : Option Addr) (c1_1 : Nat) (l1_1 : List (S51)) (r : Bool) (w : World) (hr0_1 : Kd.C k51 w A0_1 l0_1.length l0_1) (hc0_1 : l0_1.length ≤ c0_1) (hr1_1 : Kd.C k51 w A1_1 l1_1.length l1_1) (hc1_1 : l1_1.length ≤ c1_1) (h : laws_eqGraph.f k a0_0 l0_1 a1_0 l1_1 = some r) :
  Calls Try.prog 8 #[.agg #[.int .i64 a0_0,.slice A0_1 l0_1.length c0_1],.agg #[.int .i64 a1_0,.slice A1_1 l1_1.length c1_1]] w fun e w'=>e = .returned (.bool r) ∧ Below w.heap.size w w':=by
 have hu29:=Try.underlying29
 have HR0_1:=qy.mk hr0_1
 have HC0_1:=qy.mk hc0_1
 clear hr0_1 hc0_1
 have HR1_1:=qy.mk hr1_1
 have HC1_1:=qy.mk hc1_1
 clear hr1_1 hc1_1
 have HB:=qy.mk (Below.refl w.heap.size w)
 have H : (if a0_0 = a1_0 then ((laws_eqEdgeS.f k l0_1 l1_1).bind fun t353=>(if t353 = true then (some true) else (some false))) else (some false)) = some r:=h
 clear h
 by_cases c3 : a0_0 = a1_0
 ·rw [if_pos c3] at H
  have c3b0 : (a0_0 == a1_0) = true:=beq_iff_eq.mpr c3
  have c3b1 : (a0_0 != a1_0) = false:=bne_eq_false_iff_eq.mpr c3
  clear c3
  replace H:=Option.bind_eq_some_iff.mp H
  obtain ⟨t353,A40,H⟩:=H
  replace H : (if t353 = true then (some true) else (some false)) = some r:=H
  have A4:=qy.mk A40
  clear A40
  by_cases c5 : t353 = true
  ·subst c5
   have H1 : (some true) = some r:=by rw [if_pos rfl] at H;exact H
   clear H
   have H:=H1
   clear H1
   obtain rfl:=Option.some.inj H
   go_enter Try.func8,Try.ntmps8
   go_wp2_with (first|((with_reducible refine gate_dst (N:=2) rfl ?_);refine box_event ?hg (N:=2) ?hd (cs:=#[.int .i64 a0_0,.slice A0_1 l0_1.length c0_1]) (t:=29) ?hr ?_;(case hd=>rfl);(case hg=>rfl);(case hr=>first|(go_simp;done)|(go_simp;rfl));intro gb351 hg w6 hbox hb;have BK351:=qy.mk (hbox);have GW351:=qy.mk ((by rw [hg];exact (qu hx_) : w.heap.size ≤ gb351));have GE351:=qy.mk ((by rw [hg];exact (qu hx_) : w.heap.size ≤ gb351));replace HB:=hs_ HB hb;clear hb hbox hg)|((with_reducible refine gate_dst (N:=3) rfl ?_);refine box_event ?hg (N:=3) ?hd (cs:=#[.int .i64 a1_0,.slice A1_1 l1_1.length c1_1]) (t:=29) ?hr ?_;(case hd=>rfl);(case hg=>rfl);(case hr=>first|(go_simp;done)|(go_simp;rfl));intro gb352 hg w7 hbox hb;have BK352:=qy.mk (hbox);have GW352:=qy.mk ((by rw [hg];exact (qu hx_) : w.heap.size ≤ gb352));have GE352:=qy.mk ((by rw [hg];exact (qu hx_) : w.heap.size ≤ gb352));have NB351_352:=qy.mk ((by rw [hg];exact nl_ BK351 : gb351 ≠ gb352));have NB352_351:=qy.mk ((by rw [hg];exact ng_ BK351 : gb352 ≠ gb351));replace BK351:=bb_ BK351 hb;replace HB:=hs_ HB hb;clear hb hbox hg;have hnb8:=NB351_352.out;have hnc8:=NB352_351.out;obtain ⟨hcz9_0,hcz9_1,hfz9_0,hfz9_1⟩:=c2f_ BK351.out;obtain ⟨hcz10_0,hcz10_1,hfz10_0,hfz10_1⟩:=c2f_ BK352.out)|((with_reducible refine gate_callee (f:=16) rfl ?_);refine goesL_ (some 14) rfl rfl Try.func16 (by kernel_rfl) rfl #[.slice A0_1 l0_1.length c0_1,.slice A1_1 l1_1.length c1_1] rfl sm_ ?_;(with_reducible refine (laws_eqEdgeS.calls k _ _ l0_1 _ _ l1_1 true _ ?side1 ?side2 ?side3 ?side4 A4.out).mono ?_);(case side1=>repeat (first|exact (Kd.C_below HR0_1.out HB.out)|(with_reducible refine Kd.C_alloc ?_ _)|(with_reducible refine Kd.C_drewN ?_ _)|(with_reducible refine Kd.C_drew ?_)));(case side2=>exact HC0_1.out);(case side3=>repeat (first|exact (Kd.C_below HR1_1.out HB.out)|(with_reducible refine Kd.C_alloc ?_ _)|(with_reducible refine Kd.C_drewN ?_ _)|(with_reducible refine Kd.C_drew ?_)));(case side4=>exact HC1_1.out);rintro e w11 ⟨rfl,hb⟩;refine ⟨_,rfl,?_⟩;replace BK351:=bb_ BK351 hb;replace BK352:=bb_ BK352 hb;replace HB:=hs_ HB hb;(try clear hb);(try clear hb2);(try clear hk);(try clear hi)))
   go_ret
   exact ⟨rt_,hx_⟩
  replace c5:=Bool.eq_false_iff.mpr c5
  subst c5
  have H1 : (some false) = some r:=by rw [if_neg (show ¬ (false = true) by decide)] at H;exact H
  clear H
  have H:=H1
  clear H1
  obtain rfl:=Option.some.inj H
  go_enter Try.func8,Try.ntmps8
  go_wp2_with (first|((with_reducible refine gate_dst (N:=2) rfl ?_);refine box_event ?hg (N:=2) ?hd (cs:=#[.int .i64 a0_0,.slice A0_1 l0_1.length c0_1]) (t:=29) ?hr ?_;(case hd=>rfl);(case hg=>rfl);(case hr=>first|(go_simp;done)|(go_simp;rfl));intro gb351 hg w12 hbox hb;have BK351:=qy.mk (hbox);have GW351:=qy.mk ((by rw [hg];exact (qu hx_) : w.heap.size ≤ gb351));have GE351:=qy.mk ((by rw [hg];exact (qu hx_) : w.heap.size ≤ gb351));replace HB:=hs_ HB hb;clear hb hbox hg)|((with_reducible refine gate_dst (N:=3) rfl ?_);refine box_event ?hg (N:=3) ?hd (cs:=#[.int .i64 a1_0,.slice A1_1 l1_1.length c1_1]) (t:=29) ?hr ?_;(case hd=>rfl);(case hg=>rfl);(case hr=>first|(go_simp;done)|(go_simp;rfl));intro gb352 hg w13 hbox hb;have BK352:=qy.mk (hbox);have GW352:=qy.mk ((by rw [hg];exact (qu hx_) : w.heap.size ≤ gb352));have GE352:=qy.mk ((by rw [hg];exact (qu hx_) : w.heap.size ≤ gb352));have NB351_352:=qy.mk ((by rw [hg];exact nl_ BK351 : gb351 ≠ gb352));have NB352_351:=qy.mk ((by rw [hg];exact ng_ BK351 : gb352 ≠ gb351));replace BK351:=bb_ BK351 hb;replace HB:=hs_ HB hb;clear hb hbox hg;have hnb14:=NB351_352.out;have hnc14:=NB352_351.out;obtain ⟨hcz15_0,hcz15_1,hfz15_0,hfz15_1⟩:=c2f_ BK351.out;obtain ⟨hcz16_0,hcz16_1,hfz16_0,hfz16_1⟩:=c2f_ BK352.out)|((with_reducible refine gate_callee (f:=16) rfl ?_);refine goesL_ (some 14) rfl rfl Try.func16 (by kernel_rfl) rfl #[.slice A0_1 l0_1.length c0_1,.slice A1_1 l1_1.length c1_1] rfl sm_ ?_;(with_reducible refine (laws_eqEdgeS.calls k _ _ l0_1 _ _ l1_1 false _ ?side1 ?side2 ?side3 ?side4 A4.out).mono ?_);(case side1=>repeat (first|exact (Kd.C_below HR0_1.out HB.out)|(with_reducible refine Kd.C_alloc ?_ _)|(with_reducible refine Kd.C_drewN ?_ _)|(with_reducible refine Kd.C_drew ?_)));(case side2=>exact HC0_1.out);(case side3=>repeat (first|exact (Kd.C_below HR1_1.out HB.out)|(with_reducible refine Kd.C_alloc ?_ _)|(with_reducible refine Kd.C_drewN ?_ _)|(with_reducible refine Kd.C_drew ?_)));(case side4=>exact HC1_1.out);rintro e w17 ⟨rfl,hb⟩;refine ⟨_,rfl,?_⟩;replace BK351:=bb_ BK351 hb;replace BK352:=bb_ BK352 hb;replace HB:=hs_ HB hb;(try clear hb);(try clear hb2);(try clear hk);(try clear hi)))
  go_ret
  exact ⟨rt_,hx_⟩
 rw [if_neg c3] at H
 have c3b0 : (a0_0 == a1_0) = false:=beq_eq_false_iff_ne.mpr c3
 have c3b1 : (a0_0 != a1_0) = true:=bne_iff_ne.mpr c3
 obtain rfl:=Option.some.inj H
 go_enter Try.func8,Try.ntmps8
 go_wp2_with (first|((with_reducible refine gate_dst (N:=2) rfl ?_);refine box_event ?hg (N:=2) ?hd (cs:=#[.int .i64 a0_0,.slice A0_1 l0_1.length c0_1]) (t:=29) ?hr ?_;(case hd=>rfl);(case hg=>rfl);(case hr=>first|(go_simp;done)|(go_simp;rfl));intro gb351 hg w18 hbox hb;have BK351:=qy.mk (hbox);have GW351:=qy.mk ((by rw [hg];exact (qu hx_) : w.heap.size ≤ gb351));have GE351:=qy.mk ((by rw [hg];exact (qu hx_) : w.heap.size ≤ gb351));replace HB:=hs_ HB hb;clear hb hbox hg)|((with_reducible refine gate_dst (N:=3) rfl ?_);refine box_event ?hg (N:=3) ?hd (cs:=#[.int .i64 a1_0,.slice A1_1 l1_1.length c1_1]) (t:=29) ?hr ?_;(case hd=>rfl);(case hg=>rfl);(case hr=>first|(go_simp;done)|(go_simp;rfl));intro gb352 hg w19 hbox hb;have BK352:=qy.mk (hbox);have GW352:=qy.mk ((by rw [hg];exact (qu hx_) : w.heap.size ≤ gb352));have GE352:=qy.mk ((by rw [hg];exact (qu hx_) : w.heap.size ≤ gb352));have NB351_352:=qy.mk ((by rw [hg];exact nl_ BK351 : gb351 ≠ gb352));have NB352_351:=qy.mk ((by rw [hg];exact ng_ BK351 : gb352 ≠ gb351));replace BK351:=bb_ BK351 hb;replace HB:=hs_ HB hb;clear hb hbox hg;have hnb20:=NB351_352.out;have hnc20:=NB352_351.out;obtain ⟨hcz21_0,hcz21_1,hfz21_0,hfz21_1⟩:=c2f_ BK351.out;obtain ⟨hcz22_0,hcz22_1,hfz22_0,hfz22_1⟩:=c2f_ BK352.out))
 go_ret
 exact ⟨rt_,hx_⟩

-- NOT PRINTED: function 3 (laws_FnExactRounds)

end Go.Proofs.Ytnffimpoekjkpaa.QFnExactRounds
