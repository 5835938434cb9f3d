/- Lean functions for the Go functions that the law FnExactRounds reaches, and that each Go function comes to just its Lean function's answer; by a program of this session. -/
import Derived.Test.YtnffimpoekjkpaaZFnExactRoundsx0
import Derived.Test.YtnffimpoekjkpaaZFnExactRoundsx5
namespace Go.Proofs.Ytnffimpoekjkpaa.QFnExactRounds
open Go.RowKit Go.Proofs.YtnffimpoekjkpaaW.PrintWords Go.Proofs.YtnffimpoekjkpaaW.PrintLast Go.Proofs.YtnffimpoekjkpaaW.PrintMore
attribute [local go_sem] max2_int min2_int max_two min_two max_three min_three max_four min_four   -- for this text's walks alone
set_option linter.unusedVariables false
set_option linter.unusedSimpArgs false

/-! ### impl_hasInt: function 56 -/
def impl_hasInt.l0 : Nat → Int → List Int → Int → Int → Option (Bool)
 | 0,_,_,_,_=>none
 | k + 1,x1,x7,x8,x9=>if x9 < x8 then (if 0 ≤ x9 then (if x9 < (x7.length : Int) then (if (rd x7 x9) = x1 then (some true) else (impl_hasInt.l0 k x1 x7 x8 (wrap64 (x9 + 1)))) else (none)) else (none)) else (some false)
def impl_hasInt.f (k : Nat) (l0 : List Int) (a1 : Int) : Option (Bool):=impl_hasInt.l0 k a1 l0 (l0.length : Int) 0
theorem impl_hasInt.mono_l : ∀ k,(∀ y0 y1 y2 y3,LeO (impl_hasInt.l0 k y0 y1 y2 y3) (impl_hasInt.l0 (k + 1) y0 y1 y2 y3))
 | 0=>fun _ _ _ _ r h=>by simp [impl_hasInt.l0] at h
 | k + 1=>by
  have ih0:=impl_hasInt.mono_l k
  intro y0 y1 y2 y3
  unfold impl_hasInt.l0
  repeat' first|(with_reducible first|exact ih0 _ _ _ _|exact LeO.refl _|exact LeO.none _|refine LeO.ite ?_ ?_|refine LeO.bind ?_ (fun _=>?_))|exact ih0 _ _ _ _|exact LeO.none _|refine LeO.ite ?_ ?_|refine LeO.bind ?_ (fun _=>?_)
theorem impl_hasInt.mono : ∀ a0 a1 k,LeO (impl_hasInt.f k a0 a1) (impl_hasInt.f (k + 1) a0 a1):=by
 intro a0 a1 k
 have ih0:=impl_hasInt.mono_l k
 unfold impl_hasInt.f
 repeat' first|(with_reducible first|exact ih0 _ _ _ _|exact LeO.refl _|exact LeO.none _|refine LeO.ite ?_ ?_|refine LeO.bind ?_ (fun _=>?_))|exact ih0 _ _ _ _|exact LeO.none _|refine LeO.ite ?_ ?_|refine LeO.bind ?_ (fun _=>?_)
set_option maxHeartbeats 8000000 in
set_option maxRecDepth 100000 in
theorem impl_hasInt.calls (k : Nat) (A0 : Option Addr) (c0 : Nat) (l0 : List Int) (a1 : Int) (r : Bool) (w : World) (hr0 : Kd.C (Kd.int .i64) w A0 l0.length l0) (hc0 : l0.length ≤ c0) (h : impl_hasInt.f k l0 a1 = some r) :
  Calls Try.prog 56 #[.slice A0 l0.length c0,.int .i64 a1] w fun e w'=>e = .returned (.bool r) ∧ Drawn0 w w':=by
 have HR0:=qy.mk hr0
 have HC0:=qy.mk hc0
 clear hr0 hc0
 have H : (impl_hasInt.l0 k a1 l0 (l0.length : Int) 0) = some r:=h
 clear h
 have H':=qy.mk H
 clear H
 go_enter Try.func56,Try.ntmps56
 go_wp2
 go_loopg [9] k (fun kq v9 w'=>∃ (x9_1 : Int),v9 = .int .i64 x9_1 ∧ qy (impl_hasInt.l0 kq a1 l0 (l0.length : Int) x9_1 = some r) ∧ qy (kq ≤ k) ∧ Drawn0 w w')
 case atStart=>exact ⟨(0),rs_,H',⟨Nat.le_refl _⟩,by repeat (first|exact Drawn0.refl _|apply Drawn0.step)⟩
 clear H'
 try clear p2
 obtain ⟨x9_1,rfl,HA,HK1,⟨m1,rfl⟩⟩:=hrel
 obtain _|k1:=gk
 ·exact absurd HA.out (by simp [impl_hasInt.l0])
 have H:=HA.out
 clear HA
 simp only [impl_hasInt.l0] at H
 by_cases c3 : x9_1 < (l0.length : Int)
 ·rw [if_pos c3] at H
  have c3b0 : decide (x9_1 < (l0.length : Int)) = true:=decide_eq_true c3
  clear c3
  by_cases c4 : 0 ≤ x9_1
  ·rw [if_pos c4] at H
   have c4b0 : decide (0 ≤ x9_1) = true:=decide_eq_true c4
   clear c4
   by_cases c5 : x9_1 < (l0.length : Int)
   ·rw [if_pos c5] at H
    have c5b0 : decide (x9_1 < (l0.length : Int)) = true:=decide_eq_true c5
    clear c5
    by_cases c6 : (rd l0 x9_1) = a1
    ·rw [if_pos c6] at H
     have c6b0 : ((rd l0 x9_1) == a1) = true:=beq_iff_eq.mpr c6
     have c6b1 : ((rd l0 x9_1) != a1) = false:=bne_eq_false_iff_eq.mpr c6
     clear c6
     obtain rfl:=Option.some.inj H
     have p301 : 0 ≤ (x9_1 : Int):=dt_
     have q301 : x9_1 < (l0.length : Int):=dt_
     obtain ⟨ad301,e301,hx301_0⟩:=Kd.at_int HR0.out x9_1 p301 q301
     cases e301
     replace p301:=eq_true p301
     replace q301:=eq_true q301
     go_wp2
     go_ret
     exact ⟨by first|rfl|(simp;done)|(simp [*];done),by repeat (first|exact Drawn0.refl _|apply Drawn0.step)⟩
    rw [if_neg c6] at H
    have c6b0 : ((rd l0 x9_1) == a1) = false:=beq_eq_false_iff_ne.mpr c6
    have c6b1 : ((rd l0 x9_1) != a1) = true:=bne_iff_ne.mpr c6
    have H':=qy.mk H
    clear H
    have p301 : 0 ≤ (x9_1 : Int):=dt_
    have q301 : x9_1 < (l0.length : Int):=dt_
    obtain ⟨ad301,e301,hx301_0⟩:=Kd.at_int HR0.out x9_1 p301 q301
    cases e301
    replace p301:=eq_true p301
    replace q301:=eq_true q301
    go_wp2
    go_roundg k1
    case measure=>have:=HK1.out;omega
    case rel=>exact ⟨(wrap64 (x9_1 + 1)),rs_,H',⟨by have:=HK1.out;omega⟩,by repeat (first|exact Drawn0.refl _|apply Drawn0.step)⟩
   rw [if_neg c5] at H
   exact absurd H (by simp)
  rw [if_neg c4] at H
  exact absurd H (by simp)
 rw [if_neg c3] at H
 have c3b0 : decide (x9_1 < (l0.length : Int)) = false:=decide_eq_false c3
 clear c3
 obtain rfl:=Option.some.inj H
 go_wp2
 go_ret
 exact ⟨by first|rfl|(simp;done)|(simp [*];done),by repeat (first|exact Drawn0.refl _|apply Drawn0.step)⟩

-- NOT PRINTED: function 36 (impl_solver_fold)

-- NOT PRINTED: function 37 (impl_solver_flip)

-- NOT PRINTED: function 24 (impl_solver_round)

-- NOT PRINTED: function 15 (impl_solver_run)

-- NOT PRINTED: function 7 (impl_Rounds)

/-! ### laws_eqEdge: function 25 -/
def laws_eqEdge.f (a0_0 : Int) (a0_1 : Int) (a0_2 : Int) (a0_3 : Int) (a0_4 : Int) (a1_0 : Int) (a1_1 : Int) (a1_2 : Int) (a1_3 : Int) (a1_4 : Int) : Option (Bool):=if a0_0 = a1_0 then (if a0_1 = a1_1 then (if a0_2 = a1_2 then (if a0_3 = a1_3 then (if a0_4 = a1_4 then (some true) else (some false)) else (some false)) else (some false)) else (some false)) else (some false)
set_option maxHeartbeats 8000000 in
set_option maxRecDepth 100000 in
theorem laws_eqEdge.calls (a0_0 : Int) (a0_1 : Int) (a0_2 : Int) (a0_3 : Int) (a0_4 : Int) (a1_0 : Int) (a1_1 : Int) (a1_2 : Int) (a1_3 : Int) (a1_4 : Int) (r : Bool) (w : World) (h : laws_eqEdge.f a0_0 a0_1 a0_2 a0_3 a0_4 a1_0 a1_1 a1_2 a1_3 a1_4 = some r) :
  Calls Try.prog 25 #[.agg #[.int .i64 a0_0,.int .i64 a0_1,.int .i64 a0_2,.int .i64 a0_3,.int .i64 a0_4],.agg #[.int .i64 a1_0,.int .i64 a1_1,.int .i64 a1_2,.int .i64 a1_3,.int .i64 a1_4]] w fun e w'=>e = .returned (.bool r) ∧ Below w.heap.size w w':=by
 have hu51:=Try.underlying51
 have HB:=qy.mk (Below.refl w.heap.size w)
 have H : (if a0_0 = a1_0 then (if a0_1 = a1_1 then (if a0_2 = a1_2 then (if a0_3 = a1_3 then (if a0_4 = a1_4 then (some true) else (some false)) else (some false)) else (some false)) else (some false)) else (some false)) = some r:=h
 clear h
 by_cases c3 : a0_0 = a1_0
 ·rw [if_pos c3] at H
  have c3b0 : (a0_0 == a1_0) = true:=beq_iff_eq.mpr c3
  have c3b1 : (a0_0 != a1_0) = false:=bne_eq_false_iff_eq.mpr c3
  clear c3
  by_cases c4 : a0_1 = a1_1
  ·rw [if_pos c4] at H
   have c4b0 : (a0_1 == a1_1) = true:=beq_iff_eq.mpr c4
   have c4b1 : (a0_1 != a1_1) = false:=bne_eq_false_iff_eq.mpr c4
   clear c4
   by_cases c5 : a0_2 = a1_2
   ·rw [if_pos c5] at H
    have c5b0 : (a0_2 == a1_2) = true:=beq_iff_eq.mpr c5
    have c5b1 : (a0_2 != a1_2) = false:=bne_eq_false_iff_eq.mpr c5
    clear c5
    by_cases c6 : a0_3 = a1_3
    ·rw [if_pos c6] at H
     have c6b0 : (a0_3 == a1_3) = true:=beq_iff_eq.mpr c6
     have c6b1 : (a0_3 != a1_3) = false:=bne_eq_false_iff_eq.mpr c6
     clear c6
     by_cases c7 : a0_4 = a1_4
     ·rw [if_pos c7] at H
      have c7b0 : (a0_4 == a1_4) = true:=beq_iff_eq.mpr c7
      have c7b1 : (a0_4 != a1_4) = false:=bne_eq_false_iff_eq.mpr c7
      clear c7
      obtain rfl:=Option.some.inj H
      go_enter Try.func25,Try.ntmps25
      go_wp2_with (first|((with_reducible refine gate_dst (N:=2) rfl ?_);refine box_event ?hg (N:=2) ?hd (cs:=#[.int .i64 a0_0,.int .i64 a0_1,.int .i64 a0_2,.int .i64 a0_3,.int .i64 a0_4]) (t:=51) ?hr ?_;(case hd=>rfl);(case hg=>rfl);(case hr=>first|(go_simp;done)|(go_simp;rfl));intro gb346 hg w8 hbox hb;have BK346:=qy.mk (hbox);have GW346:=qy.mk ((by rw [hg];exact (qu hx_) : w.heap.size ≤ gb346));have GE346:=qy.mk ((by rw [hg];exact (qu hx_) : w.heap.size ≤ gb346));replace HB:=hs_ HB hb;clear hb hbox hg)|((with_reducible refine gate_dst (N:=3) rfl ?_);refine box_event ?hg (N:=3) ?hd (cs:=#[.int .i64 a1_0,.int .i64 a1_1,.int .i64 a1_2,.int .i64 a1_3,.int .i64 a1_4]) (t:=51) ?hr ?_;(case hd=>rfl);(case hg=>rfl);(case hr=>first|(go_simp;done)|(go_simp;rfl));intro gb347 hg w9 hbox hb;have BK347:=qy.mk (hbox);have GW347:=qy.mk ((by rw [hg];exact (qu hx_) : w.heap.size ≤ gb347));have GE347:=qy.mk ((by rw [hg];exact (qu hx_) : w.heap.size ≤ gb347));have NB346_347:=qy.mk ((by rw [hg];exact nl_ BK346 : gb346 ≠ gb347));have NB347_346:=qy.mk ((by rw [hg];exact ng_ BK346 : gb347 ≠ gb346));replace BK346:=bb_ BK346 hb;replace HB:=hs_ HB hb;clear hb hbox hg;have hnb10:=NB346_347.out;have hnc10:=NB347_346.out;obtain ⟨hcz11_0,hcz11_1,hcz11_2,hcz11_3,hcz11_4,hfz11_0,hfz11_1,hfz11_2,hfz11_3,hfz11_4⟩:=c5f_ BK346.out;obtain ⟨hcz12_0,hcz12_1,hcz12_2,hcz12_3,hcz12_4,hfz12_0,hfz12_1,hfz12_2,hfz12_3,hfz12_4⟩:=c5f_ BK347.out))
      go_ret
      exact ⟨rt_,hx_⟩
     rw [if_neg c7] at H
     have c7b0 : (a0_4 == a1_4) = false:=beq_eq_false_iff_ne.mpr c7
     have c7b1 : (a0_4 != a1_4) = true:=bne_iff_ne.mpr c7
     obtain rfl:=Option.some.inj H
     go_enter Try.func25,Try.ntmps25
     go_wp2_with (first|((with_reducible refine gate_dst (N:=2) rfl ?_);refine box_event ?hg (N:=2) ?hd (cs:=#[.int .i64 a0_0,.int .i64 a0_1,.int .i64 a0_2,.int .i64 a0_3,.int .i64 a0_4]) (t:=51) ?hr ?_;(case hd=>rfl);(case hg=>rfl);(case hr=>first|(go_simp;done)|(go_simp;rfl));intro gb346 hg w13 hbox hb;have BK346:=qy.mk (hbox);have GW346:=qy.mk ((by rw [hg];exact (qu hx_) : w.heap.size ≤ gb346));have GE346:=qy.mk ((by rw [hg];exact (qu hx_) : w.heap.size ≤ gb346));replace HB:=hs_ HB hb;clear hb hbox hg)|((with_reducible refine gate_dst (N:=3) rfl ?_);refine box_event ?hg (N:=3) ?hd (cs:=#[.int .i64 a1_0,.int .i64 a1_1,.int .i64 a1_2,.int .i64 a1_3,.int .i64 a1_4]) (t:=51) ?hr ?_;(case hd=>rfl);(case hg=>rfl);(case hr=>first|(go_simp;done)|(go_simp;rfl));intro gb347 hg w14 hbox hb;have BK347:=qy.mk (hbox);have GW347:=qy.mk ((by rw [hg];exact (qu hx_) : w.heap.size ≤ gb347));have GE347:=qy.mk ((by rw [hg];exact (qu hx_) : w.heap.size ≤ gb347));have NB346_347:=qy.mk ((by rw [hg];exact nl_ BK346 : gb346 ≠ gb347));have NB347_346:=qy.mk ((by rw [hg];exact ng_ BK346 : gb347 ≠ gb346));replace BK346:=bb_ BK346 hb;replace HB:=hs_ HB hb;clear hb hbox hg;have hnb15:=NB346_347.out;have hnc15:=NB347_346.out;obtain ⟨hcz16_0,hcz16_1,hcz16_2,hcz16_3,hcz16_4,hfz16_0,hfz16_1,hfz16_2,hfz16_3,hfz16_4⟩:=c5f_ BK346.out;obtain ⟨hcz17_0,hcz17_1,hcz17_2,hcz17_3,hcz17_4,hfz17_0,hfz17_1,hfz17_2,hfz17_3,hfz17_4⟩:=c5f_ BK347.out))
     go_ret
     exact ⟨rt_,hx_⟩
    rw [if_neg c6] at H
    have c6b0 : (a0_3 == a1_3) = false:=beq_eq_false_iff_ne.mpr c6
    have c6b1 : (a0_3 != a1_3) = true:=bne_iff_ne.mpr c6
    obtain rfl:=Option.some.inj H
    go_enter Try.func25,Try.ntmps25
    go_wp2_with (first|((with_reducible refine gate_dst (N:=2) rfl ?_);refine box_event ?hg (N:=2) ?hd (cs:=#[.int .i64 a0_0,.int .i64 a0_1,.int .i64 a0_2,.int .i64 a0_3,.int .i64 a0_4]) (t:=51) ?hr ?_;(case hd=>rfl);(case hg=>rfl);(case hr=>first|(go_simp;done)|(go_simp;rfl));intro gb346 hg w18 hbox hb;have BK346:=qy.mk (hbox);have GW346:=qy.mk ((by rw [hg];exact (qu hx_) : w.heap.size ≤ gb346));have GE346:=qy.mk ((by rw [hg];exact (qu hx_) : w.heap.size ≤ gb346));replace HB:=hs_ HB hb;clear hb hbox hg)|((with_reducible refine gate_dst (N:=3) rfl ?_);refine box_event ?hg (N:=3) ?hd (cs:=#[.int .i64 a1_0,.int .i64 a1_1,.int .i64 a1_2,.int .i64 a1_3,.int .i64 a1_4]) (t:=51) ?hr ?_;(case hd=>rfl);(case hg=>rfl);(case hr=>first|(go_simp;done)|(go_simp;rfl));intro gb347 hg w19 hbox hb;have BK347:=qy.mk (hbox);have GW347:=qy.mk ((by rw [hg];exact (qu hx_) : w.heap.size ≤ gb347));have GE347:=qy.mk ((by rw [hg];exact (qu hx_) : w.heap.size ≤ gb347));have NB346_347:=qy.mk ((by rw [hg];exact nl_ BK346 : gb346 ≠ gb347));have NB347_346:=qy.mk ((by rw [hg];exact ng_ BK346 : gb347 ≠ gb346));replace BK346:=bb_ BK346 hb;replace HB:=hs_ HB hb;clear hb hbox hg;have hnb20:=NB346_347.out;have hnc20:=NB347_346.out;obtain ⟨hcz21_0,hcz21_1,hcz21_2,hcz21_3,hcz21_4,hfz21_0,hfz21_1,hfz21_2,hfz21_3,hfz21_4⟩:=c5f_ BK346.out;obtain ⟨hcz22_0,hcz22_1,hcz22_2,hcz22_3,hcz22_4,hfz22_0,hfz22_1,hfz22_2,hfz22_3,hfz22_4⟩:=c5f_ BK347.out))
    go_ret
    exact ⟨rt_,hx_⟩
   rw [if_neg c5] at H
   have c5b0 : (a0_2 == a1_2) = false:=beq_eq_false_iff_ne.mpr c5
   have c5b1 : (a0_2 != a1_2) = true:=bne_iff_ne.mpr c5
   obtain rfl:=Option.some.inj H
   go_enter Try.func25,Try.ntmps25
   go_wp2_with (first|((with_reducible refine gate_dst (N:=2) rfl ?_);refine box_event ?hg (N:=2) ?hd (cs:=#[.int .i64 a0_0,.int .i64 a0_1,.int .i64 a0_2,.int .i64 a0_3,.int .i64 a0_4]) (t:=51) ?hr ?_;(case hd=>rfl);(case hg=>rfl);(case hr=>first|(go_simp;done)|(go_simp;rfl));intro gb346 hg w23 hbox hb;have BK346:=qy.mk (hbox);have GW346:=qy.mk ((by rw [hg];exact (qu hx_) : w.heap.size ≤ gb346));have GE346:=qy.mk ((by rw [hg];exact (qu hx_) : w.heap.size ≤ gb346));replace HB:=hs_ HB hb;clear hb hbox hg)|((with_reducible refine gate_dst (N:=3) rfl ?_);refine box_event ?hg (N:=3) ?hd (cs:=#[.int .i64 a1_0,.int .i64 a1_1,.int .i64 a1_2,.int .i64 a1_3,.int .i64 a1_4]) (t:=51) ?hr ?_;(case hd=>rfl);(case hg=>rfl);(case hr=>first|(go_simp;done)|(go_simp;rfl));intro gb347 hg w24 hbox hb;have BK347:=qy.mk (hbox);have GW347:=qy.mk ((by rw [hg];exact (qu hx_) : w.heap.size ≤ gb347));have GE347:=qy.mk ((by rw [hg];exact (qu hx_) : w.heap.size ≤ gb347));have NB346_347:=qy.mk ((by rw [hg];exact nl_ BK346 : gb346 ≠ gb347));have NB347_346:=qy.mk ((by rw [hg];exact ng_ BK346 : gb347 ≠ gb346));replace BK346:=bb_ BK346 hb;replace HB:=hs_ HB hb;clear hb hbox hg;have hnb25:=NB346_347.out;have hnc25:=NB347_346.out;obtain ⟨hcz26_0,hcz26_1,hcz26_2,hcz26_3,hcz26_4,hfz26_0,hfz26_1,hfz26_2,hfz26_3,hfz26_4⟩:=c5f_ BK346.out;obtain ⟨hcz27_0,hcz27_1,hcz27_2,hcz27_3,hcz27_4,hfz27_0,hfz27_1,hfz27_2,hfz27_3,hfz27_4⟩:=c5f_ BK347.out))
   go_ret
   exact ⟨rt_,hx_⟩
  rw [if_neg c4] at H
  have c4b0 : (a0_1 == a1_1) = false:=beq_eq_false_iff_ne.mpr c4
  have c4b1 : (a0_1 != a1_1) = true:=bne_iff_ne.mpr c4
  obtain rfl:=Option.some.inj H
  go_enter Try.func25,Try.ntmps25
  go_wp2_with (first|((with_reducible refine gate_dst (N:=2) rfl ?_);refine box_event ?hg (N:=2) ?hd (cs:=#[.int .i64 a0_0,.int .i64 a0_1,.int .i64 a0_2,.int .i64 a0_3,.int .i64 a0_4]) (t:=51) ?hr ?_;(case hd=>rfl);(case hg=>rfl);(case hr=>first|(go_simp;done)|(go_simp;rfl));intro gb346 hg w28 hbox hb;have BK346:=qy.mk (hbox);have GW346:=qy.mk ((by rw [hg];exact (qu hx_) : w.heap.size ≤ gb346));have GE346:=qy.mk ((by rw [hg];exact (qu hx_) : w.heap.size ≤ gb346));replace HB:=hs_ HB hb;clear hb hbox hg)|((with_reducible refine gate_dst (N:=3) rfl ?_);refine box_event ?hg (N:=3) ?hd (cs:=#[.int .i64 a1_0,.int .i64 a1_1,.int .i64 a1_2,.int .i64 a1_3,.int .i64 a1_4]) (t:=51) ?hr ?_;(case hd=>rfl);(case hg=>rfl);(case hr=>first|(go_simp;done)|(go_simp;rfl));intro gb347 hg w29 hbox hb;have BK347:=qy.mk (hbox);have GW347:=qy.mk ((by rw [hg];exact (qu hx_) : w.heap.size ≤ gb347));have GE347:=qy.mk ((by rw [hg];exact (qu hx_) : w.heap.size ≤ gb347));have NB346_347:=qy.mk ((by rw [hg];exact nl_ BK346 : gb346 ≠ gb347));have NB347_346:=qy.mk ((by rw [hg];exact ng_ BK346 : gb347 ≠ gb346));replace BK346:=bb_ BK346 hb;replace HB:=hs_ HB hb;clear hb hbox hg;have hnb30:=NB346_347.out;have hnc30:=NB347_346.out;obtain ⟨hcz31_0,hcz31_1,hcz31_2,hcz31_3,hcz31_4,hfz31_0,hfz31_1,hfz31_2,hfz31_3,hfz31_4⟩:=c5f_ BK346.out;obtain ⟨hcz32_0,hcz32_1,hcz32_2,hcz32_3,hcz32_4,hfz32_0,hfz32_1,hfz32_2,hfz32_3,hfz32_4⟩:=c5f_ BK347.out))
  go_ret
  exact ⟨rt_,hx_⟩
 rw [if_neg c3] at H
 have c3b0 : (a0_0 == a1_0) = false:=beq_eq_false_iff_ne.mpr c3
 have c3b1 : (a0_0 != a1_0) = true:=bne_iff_ne.mpr c3
 obtain rfl:=Option.some.inj H
 go_enter Try.func25,Try.ntmps25
 go_wp2_with (first|((with_reducible refine gate_dst (N:=2) rfl ?_);refine box_event ?hg (N:=2) ?hd (cs:=#[.int .i64 a0_0,.int .i64 a0_1,.int .i64 a0_2,.int .i64 a0_3,.int .i64 a0_4]) (t:=51) ?hr ?_;(case hd=>rfl);(case hg=>rfl);(case hr=>first|(go_simp;done)|(go_simp;rfl));intro gb346 hg w33 hbox hb;have BK346:=qy.mk (hbox);have GW346:=qy.mk ((by rw [hg];exact (qu hx_) : w.heap.size ≤ gb346));have GE346:=qy.mk ((by rw [hg];exact (qu hx_) : w.heap.size ≤ gb346));replace HB:=hs_ HB hb;clear hb hbox hg)|((with_reducible refine gate_dst (N:=3) rfl ?_);refine box_event ?hg (N:=3) ?hd (cs:=#[.int .i64 a1_0,.int .i64 a1_1,.int .i64 a1_2,.int .i64 a1_3,.int .i64 a1_4]) (t:=51) ?hr ?_;(case hd=>rfl);(case hg=>rfl);(case hr=>first|(go_simp;done)|(go_simp;rfl));intro gb347 hg w34 hbox hb;have BK347:=qy.mk (hbox);have GW347:=qy.mk ((by rw [hg];exact (qu hx_) : w.heap.size ≤ gb347));have GE347:=qy.mk ((by rw [hg];exact (qu hx_) : w.heap.size ≤ gb347));have NB346_347:=qy.mk ((by rw [hg];exact nl_ BK346 : gb346 ≠ gb347));have NB347_346:=qy.mk ((by rw [hg];exact ng_ BK346 : gb347 ≠ gb346));replace BK346:=bb_ BK346 hb;replace HB:=hs_ HB hb;clear hb hbox hg;have hnb35:=NB346_347.out;have hnc35:=NB347_346.out;obtain ⟨hcz36_0,hcz36_1,hcz36_2,hcz36_3,hcz36_4,hfz36_0,hfz36_1,hfz36_2,hfz36_3,hfz36_4⟩:=c5f_ BK346.out;obtain ⟨hcz37_0,hcz37_1,hcz37_2,hcz37_3,hcz37_4,hfz37_0,hfz37_1,hfz37_2,hfz37_3,hfz37_4⟩:=c5f_ BK347.out))
 go_ret
 exact ⟨rt_,hx_⟩

/-! ### laws_eqEdgeS: function 16 -/
def laws_eqEdgeS.l0 : Nat → List (S51) → List (S51) → Int → Option (Bool)
 | 0,_,_,_=>none
 | k + 1,x0,x1,x5=>if x5 < (x0.length : Int) then (if 0 ≤ x5 then (if x5 < (x1.length : Int) then ((laws_eqEdge.f ((rd_T51 x0 x5).f0) ((rd_T51 x0 x5).f1) ((rd_T51 x0 x5).f2) ((rd_T51 x0 x5).f3) ((rd_T51 x0 x5).f4) ((rd_T51 x1 x5).f0) ((rd_T51 x1 x5).f1) ((rd_T51 x1 x5).f2) ((rd_T51 x1 x5).f3) ((rd_T51 x1 x5).f4)).bind fun t350=>(if t350 = true then (laws_eqEdgeS.l0 k x0 x1 (wrap64 (x5 + 1))) else (some false))) else (none)) else (none)) else (some true)
def laws_eqEdgeS.f (k : Nat) (l0 : List (S51)) (l1 : List (S51)) : Option (Bool):=if (l0.length : Int) = (l1.length : Int) then (laws_eqEdgeS.l0 k l0 l1 0) else (some false)
theorem laws_eqEdgeS.mono_l : ∀ k,(∀ y0 y1 y2,LeO (laws_eqEdgeS.l0 k y0 y1 y2) (laws_eqEdgeS.l0 (k + 1) y0 y1 y2))
 | 0=>fun _ _ _ r h=>by simp [laws_eqEdgeS.l0] at h
 | k + 1=>by
  have ih0:=laws_eqEdgeS.mono_l k
  intro y0 y1 y2
  unfold laws_eqEdgeS.l0
  repeat' first|(with_reducible first|exact ih0 _ _ _|exact LeO.refl _|exact LeO.none _|refine LeO.ite ?_ ?_|refine LeO.bind ?_ (fun _=>?_))|exact ih0 _ _ _|exact LeO.none _|refine LeO.ite ?_ ?_|refine LeO.bind ?_ (fun _=>?_)
theorem laws_eqEdgeS.mono : ∀ a0 a1 k,LeO (laws_eqEdgeS.f k a0 a1) (laws_eqEdgeS.f (k + 1) a0 a1):=by
 intro a0 a1 k
 have ih0:=laws_eqEdgeS.mono_l k
 unfold laws_eqEdgeS.f
 repeat' first|(with_reducible first|exact ih0 _ _ _|exact LeO.refl _|exact LeO.none _|refine LeO.ite ?_ ?_|refine LeO.bind ?_ (fun _=>?_))|exact ih0 _ _ _|exact LeO.none _|refine LeO.ite ?_ ?_|refine LeO.bind ?_ (fun _=>?_)
def laws_eqEdgeS.T6 : Bool × List (List Nat × List Nat):=(true,[([],[]),([],[]),([0,1],[0,1]),([2],[2]),([],[]),([],[]),([4,5],[4,5]),([6],[6]),([3,7],[3,7]),([8],[8])])
def laws_eqEdgeS.B6 : List Nat:=[0,0,3,7,0,0,48,112,255,511]
theorem laws_eqEdgeS.tab6 : rtab .any (opsOf Try.f16 6) = laws_eqEdgeS.T6:=by kernel_rfl
theorem laws_eqEdgeS.bits6 : waitsOk laws_eqEdgeS.T6.2 laws_eqEdgeS.B6 = true:=by kernel_rfl
set_option maxHeartbeats 8000000 in
set_option maxRecDepth 100000 in
theorem laws_eqEdgeS.calls (k : Nat) (A0 : Option Addr) (c0 : Nat) (l0 : List (S51)) (A1 : Option Addr) (c1 : Nat) (l1 : List (S51)) (r : Bool) (w : World) (hr0 : Kd.C k51 w A0 l0.length l0) (hc0 : l0.length ≤ c0) (hr1 : Kd.C k51 w A1 l1.length l1) (hc1 : l1.length ≤ c1) (h : laws_eqEdgeS.f k l0 l1 = some r) :
  Calls Try.prog 16 #[.slice A0 l0.length c0,.slice A1 l1.length c1] w fun e w'=>e = .returned (.bool r) ∧ Below w.heap.size w w':=by
 have hu51:=Try.underlying51
 have HR0:=qy.mk hr0
 have HC0:=qy.mk hc0
 clear hr0 hc0
 have HR1:=qy.mk hr1
 have HC1:=qy.mk hc1
 clear hr1 hc1
 have HB:=qy.mk (Below.refl w.heap.size w)
 have H : (if (l0.length : Int) = (l1.length : Int) then (laws_eqEdgeS.l0 k l0 l1 0) else (some false)) = some r:=h
 clear h
 by_cases c3 : (l0.length : Int) = (l1.length : Int)
 ·rw [if_pos c3] at H
  have c3b0 : ((l0.length : Int) == (l1.length : Int)) = true:=beq_iff_eq.mpr c3
  have c3b1 : ((l0.length : Int) != (l1.length : Int)) = false:=bne_eq_false_iff_eq.mpr c3
  have c3b2 : (l0.length == l1.length) = true:=by first|simpa using c3|(simp at c3 ⊢;omega)
  clear c3
  have H':=qy.mk H
  clear H
  go_enter Try.func16,Try.ntmps16
  go_wp2
  go_loopg [5] k (fun kq v5 w'=>∃ (x5_1 : Int),v5 = .int .i64 x5_1 ∧ qy (laws_eqEdgeS.l0 kq l0 l1 x5_1 = some r) ∧ qy (kq ≤ k) ∧ qy (Below w.heap.size w w'))
  case atStart=>exact ⟨(0),rs_,H',⟨Nat.le_refl _⟩,⟨hx_⟩⟩
  clear H'
  try clear c1
  try clear p2
  try clear c3
  try clear c3b0
  try clear c3b1
  try clear c3b2
  obtain ⟨x5_1,rfl,HA,HK1,HB⟩:=hrel
  obtain _|k1:=gk
  ·exact absurd HA.out (by simp [laws_eqEdgeS.l0])
  have H:=HA.out
  clear HA
  simp only [laws_eqEdgeS.l0] at H
  by_cases c4 : x5_1 < (l0.length : Int)
  ·rw [if_pos c4] at H
   have c4b0 : decide (x5_1 < (l0.length : Int)) = true:=decide_eq_true c4
   clear c4
   by_cases c5 : 0 ≤ x5_1
   ·rw [if_pos c5] at H
    have c5b0 : decide (0 ≤ x5_1) = true:=decide_eq_true c5
    clear c5
    by_cases c6 : x5_1 < (l1.length : Int)
    ·rw [if_pos c6] at H
     have c6b0 : decide (x5_1 < (l1.length : Int)) = true:=decide_eq_true c6
     clear c6
     replace H:=Option.bind_eq_some_iff.mp H
     obtain ⟨t350,A70,H⟩:=H
     replace H : (if t350 = true then (laws_eqEdgeS.l0 k1 l0 l1 (wrap64 (x5_1 + 1))) else (some false)) = some r:=H
     have A7:=qy.mk A70
     clear A70
     by_cases c8 : t350 = true
     ·subst c8
      have H1 : (laws_eqEdgeS.l0 k1 l0 l1 (wrap64 (x5_1 + 1))) = some r:=by rw [if_pos rfl] at H;exact H
      clear H
      have H:=H1
      clear H1
      have H':=qy.mk H
      clear H
      try go_wp2
      replace HB:=qy.mk (qh HB.out)
      have p348 : 0 ≤ (x5_1 : Int):=dt_
      have q348 : x5_1 < (l0.length : Int):=dt_
      obtain ⟨ad348,e348,hx348_0,hx348_1,hx348_2,hx348_3,hx348_4⟩:=at_T51 HR0.out x5_1 p348 q348
      have hw348_4:=hx348_4
      have hw348_3:=hx348_3
      have hw348_2:=hx348_2
      have hw348_1:=hx348_1
      have hw348_0:=hx348_0
      cases e348
      replace hx348_0:=cb_ HB hx348_0
      replace hx348_1:=cb_ HB hx348_1
      replace hx348_2:=cb_ HB hx348_2
      replace hx348_3:=cb_ HB hx348_3
      replace hx348_4:=cb_ HB hx348_4
      replace p348:=eq_true p348
      replace q348:=eq_true q348
      have p349 : 0 ≤ (x5_1 : Int):=dt_
      have q349 : x5_1 < (l1.length : Int):=dt_
      obtain ⟨ad349,e349,hx349_0,hx349_1,hx349_2,hx349_3,hx349_4⟩:=at_T51 HR1.out x5_1 p349 q349
      have hw349_4:=hx349_4
      have hw349_3:=hx349_3
      have hw349_2:=hx349_2
      have hw349_1:=hx349_1
      have hw349_0:=hx349_0
      cases e349
      replace hx349_0:=cb_ HB hx349_0
      replace hx349_1:=cb_ HB hx349_1
      replace hx349_2:=cb_ HB hx349_2
      replace hx349_3:=cb_ HB hx349_3
      replace hx349_4:=cb_ HB hx349_4
      replace p349:=eq_true p349
      replace q349:=eq_true q349
      refine start_ (n:=10) (S:=fun w'=>w'.cell? (ad348.add ((x5_1).toNat * 5)) = some (.int .i64 ((rd_T51 l0 x5_1).f0)) ∧ w'.cell? ⟨(ad348.add ((x5_1).toNat * 5)).block,(ad348.add ((x5_1).toNat * 5)).off + 1,none⟩ = some (.int .i64 ((rd_T51 l0 x5_1).f1)) ∧ w'.cell? ⟨(ad348.add ((x5_1).toNat * 5)).block,(ad348.add ((x5_1).toNat * 5)).off + 2,none⟩ = some (.int .i64 ((rd_T51 l0 x5_1).f2)) ∧ w'.cell? ⟨(ad348.add ((x5_1).toNat * 5)).block,(ad348.add ((x5_1).toNat * 5)).off + 3,none⟩ = some (.int .i64 ((rd_T51 l0 x5_1).f3)) ∧ w'.cell? ⟨(ad348.add ((x5_1).toNat * 5)).block,(ad348.add ((x5_1).toNat * 5)).off + 4,none⟩ = some (.int .i64 ((rd_T51 l0 x5_1).f4)) ∧ w'.cell? (ad349.add ((x5_1).toNat * 5)) = some (.int .i64 ((rd_T51 l1 x5_1).f0)) ∧ w'.cell? ⟨(ad349.add ((x5_1).toNat * 5)).block,(ad349.add ((x5_1).toNat * 5)).off + 1,none⟩ = some (.int .i64 ((rd_T51 l1 x5_1).f1)) ∧ w'.cell? ⟨(ad349.add ((x5_1).toNat * 5)).block,(ad349.add ((x5_1).toNat * 5)).off + 2,none⟩ = some (.int .i64 ((rd_T51 l1 x5_1).f2)) ∧ w'.cell? ⟨(ad349.add ((x5_1).toNat * 5)).block,(ad349.add ((x5_1).toNat * 5)).off + 3,none⟩ = some (.int .i64 ((rd_T51 l1 x5_1).f3)) ∧ w'.cell? ⟨(ad349.add ((x5_1).toNat * 5)).block,(ad349.add ((x5_1).toNat * 5)).off + 4,none⟩ = some (.int .i64 ((rd_T51 l1 x5_1).f4))) (ds:=[]) (Array.replicate 10 false) (by kernel_rfl) rfl rfl ⟨(cb_ HB hw348_0:),(cb_ HB hw348_1:),(cb_ HB hw348_2:),(cb_ HB hw348_3:),(cb_ HB hw348_4:),(cb_ HB hw349_0:),(cb_ HB hw349_1:),(cb_ HB hw349_2:),(cb_ HB hw349_3:),(cb_ HB hw349_4:)⟩ (fun hHeld=>?_);refine with_tabW laws_eqEdgeS.tab6 laws_eqEdgeS.bits6 (fun HT_ HW_=>?_)
      generalize wr.drew = w9 at HB hx348_0 hx348_1 hx348_2 hx348_3 hx348_4 hx349_0 hx349_1 hx349_2 hx349_3 hx349_4 hHeld ⊢
      refine pt_ 0 17 (bz_ 10 1) ?_
      refine pt_ 1 18 (bz_ 10 3) ?_
      refine pt_ 2 19 (bz_ 10 7) ?_
      refine pt_ 4 21 (bz_ 10 23) ?_
      refine pt_ 5 22 (bz_ 10 55) ?_
      refine pt_ 6 23 (bz_ 10 119) ?_
      refine tt_ 3 20 (bz_ 10 127) hHeld (hy:=Or.inl ⟨by rfl,by rintro w' ⟨s0,s1,s2,s3,s4,s5,s6,s7,s8,s9⟩;go_simp;with_reducible rfl⟩) (h:=?_)
      refine tt_ 7 24 (bz_ 10 255) hHeld (hy:=Or.inl ⟨by rfl,by rintro w' ⟨s0,s1,s2,s3,s4,s5,s6,s7,s8,s9⟩;go_simp;with_reducible rfl⟩) (h:=?_)
      refine one_ (i:=8) (N:=some 25) (bz_ 10 511) rfl rfl (one_of HT_.out (by kernel_rfl)) (by decide) (fun K hK=>?_)
      refine goes_ Try.func25 (by kernel_rfl) rfl #[.agg #[.int .i64 ((rd_T51 l0 x5_1).f0),.int .i64 ((rd_T51 l0 x5_1).f1),.int .i64 ((rd_T51 l0 x5_1).f2),.int .i64 ((rd_T51 l0 x5_1).f3),.int .i64 ((rd_T51 l0 x5_1).f4)],.agg #[.int .i64 ((rd_T51 l1 x5_1).f0),.int .i64 ((rd_T51 l1 x5_1).f1),.int .i64 ((rd_T51 l1 x5_1).f2),.int .i64 ((rd_T51 l1 x5_1).f3),.int .i64 ((rd_T51 l1 x5_1).f4)]] (by rfl) rfl rfl sm_ ?_
      with_reducible refine (laws_eqEdge.calls ((rd_T51 l0 x5_1).f0) ((rd_T51 l0 x5_1).f1) ((rd_T51 l0 x5_1).f2) ((rd_T51 l0 x5_1).f3) ((rd_T51 l0 x5_1).f4) ((rd_T51 l1 x5_1).f0) ((rd_T51 l1 x5_1).f1) ((rd_T51 l1 x5_1).f2) ((rd_T51 l1 x5_1).f3) ((rd_T51 l1 x5_1).f4) true _ A7.out).mono ?_
      rintro e w10 ⟨rfl,hb⟩
      refine ⟨_,rfl,?_⟩
      replace HB:=hs_ HB hb
      (try clear hb)
      (try clear hb2)
      (try clear hk)
      (try clear hi)
      refine hK.out _ _ ⟨(cb_ HB hw348_0:),(cb_ HB hw348_1:),(cb_ HB hw348_2:),(cb_ HB hw348_3:),(cb_ HB hw348_4:),(cb_ HB hw349_0:),(cb_ HB hw349_1:),(cb_ HB hw349_2:),(cb_ HB hw349_3:),(cb_ HB hw349_4:)⟩ (fun hHeld=>?_)
      clear hK K
      refine norm_ (a':=?_) ?_ ?_
      rotate_left
      ·show Act.put _ (some 25) _ = _
       simp only [Act.put,List.setIfInBounds_toArray,List.set_cons_zero,List.set_cons_succ,i64_w,i32_w]
       rfl
      refine pt_ 9 26 (bz_ 10 1023) ?_
      refine done_ (done_of HT_.out (by kernel_rfl)) ?_
      try go_wp2
      go_roundg k1
      case measure=>have:=HK1.out;omega
      case rel=>exact ⟨(wrap64 (x5_1 + 1)),rs_,H',⟨by have:=HK1.out;omega⟩,⟨hx_⟩⟩
     replace c8:=Bool.eq_false_iff.mpr c8
     subst c8
     have H1 : (some false) = some r:=by rw [if_neg (show ¬ (false = true) by decide)] at H;exact H
     clear H
     have H:=H1
     clear H1
     obtain rfl:=Option.some.inj H
     try go_wp2
     replace HB:=qy.mk (qh HB.out)
     have p348 : 0 ≤ (x5_1 : Int):=dt_
     have q348 : x5_1 < (l0.length : Int):=dt_
     obtain ⟨ad348,e348,hx348_0,hx348_1,hx348_2,hx348_3,hx348_4⟩:=at_T51 HR0.out x5_1 p348 q348
     have hw348_4:=hx348_4
     have hw348_3:=hx348_3
     have hw348_2:=hx348_2
     have hw348_1:=hx348_1
     have hw348_0:=hx348_0
     cases e348
     replace hx348_0:=cb_ HB hx348_0
     replace hx348_1:=cb_ HB hx348_1
     replace hx348_2:=cb_ HB hx348_2
     replace hx348_3:=cb_ HB hx348_3
     replace hx348_4:=cb_ HB hx348_4
     replace p348:=eq_true p348
     replace q348:=eq_true q348
     have p349 : 0 ≤ (x5_1 : Int):=dt_
     have q349 : x5_1 < (l1.length : Int):=dt_
     obtain ⟨ad349,e349,hx349_0,hx349_1,hx349_2,hx349_3,hx349_4⟩:=at_T51 HR1.out x5_1 p349 q349
     have hw349_4:=hx349_4
     have hw349_3:=hx349_3
     have hw349_2:=hx349_2
     have hw349_1:=hx349_1
     have hw349_0:=hx349_0
     cases e349
     replace hx349_0:=cb_ HB hx349_0
     replace hx349_1:=cb_ HB hx349_1
     replace hx349_2:=cb_ HB hx349_2
     replace hx349_3:=cb_ HB hx349_3
     replace hx349_4:=cb_ HB hx349_4
     replace p349:=eq_true p349
     replace q349:=eq_true q349
     refine start_ (n:=10) (S:=fun w'=>w'.cell? (ad348.add ((x5_1).toNat * 5)) = some (.int .i64 ((rd_T51 l0 x5_1).f0)) ∧ w'.cell? ⟨(ad348.add ((x5_1).toNat * 5)).block,(ad348.add ((x5_1).toNat * 5)).off + 1,none⟩ = some (.int .i64 ((rd_T51 l0 x5_1).f1)) ∧ w'.cell? ⟨(ad348.add ((x5_1).toNat * 5)).block,(ad348.add ((x5_1).toNat * 5)).off + 2,none⟩ = some (.int .i64 ((rd_T51 l0 x5_1).f2)) ∧ w'.cell? ⟨(ad348.add ((x5_1).toNat * 5)).block,(ad348.add ((x5_1).toNat * 5)).off + 3,none⟩ = some (.int .i64 ((rd_T51 l0 x5_1).f3)) ∧ w'.cell? ⟨(ad348.add ((x5_1).toNat * 5)).block,(ad348.add ((x5_1).toNat * 5)).off + 4,none⟩ = some (.int .i64 ((rd_T51 l0 x5_1).f4)) ∧ w'.cell? (ad349.add ((x5_1).toNat * 5)) = some (.int .i64 ((rd_T51 l1 x5_1).f0)) ∧ w'.cell? ⟨(ad349.add ((x5_1).toNat * 5)).block,(ad349.add ((x5_1).toNat * 5)).off + 1,none⟩ = some (.int .i64 ((rd_T51 l1 x5_1).f1)) ∧ w'.cell? ⟨(ad349.add ((x5_1).toNat * 5)).block,(ad349.add ((x5_1).toNat * 5)).off + 2,none⟩ = some (.int .i64 ((rd_T51 l1 x5_1).f2)) ∧ w'.cell? ⟨(ad349.add ((x5_1).toNat * 5)).block,(ad349.add ((x5_1).toNat * 5)).off + 3,none⟩ = some (.int .i64 ((rd_T51 l1 x5_1).f3)) ∧ w'.cell? ⟨(ad349.add ((x5_1).toNat * 5)).block,(ad349.add ((x5_1).toNat * 5)).off + 4,none⟩ = some (.int .i64 ((rd_T51 l1 x5_1).f4))) (ds:=[]) (Array.replicate 10 false) (by kernel_rfl) rfl rfl ⟨(cb_ HB hw348_0:),(cb_ HB hw348_1:),(cb_ HB hw348_2:),(cb_ HB hw348_3:),(cb_ HB hw348_4:),(cb_ HB hw349_0:),(cb_ HB hw349_1:),(cb_ HB hw349_2:),(cb_ HB hw349_3:),(cb_ HB hw349_4:)⟩ (fun hHeld=>?_);refine with_tabW laws_eqEdgeS.tab6 laws_eqEdgeS.bits6 (fun HT_ HW_=>?_)
     generalize wr.drew = w11 at HB hx348_0 hx348_1 hx348_2 hx348_3 hx348_4 hx349_0 hx349_1 hx349_2 hx349_3 hx349_4 hHeld ⊢
     refine pt_ 0 17 (bz_ 10 1) ?_
     refine pt_ 1 18 (bz_ 10 3) ?_
     refine pt_ 2 19 (bz_ 10 7) ?_
     refine pt_ 4 21 (bz_ 10 23) ?_
     refine pt_ 5 22 (bz_ 10 55) ?_
     refine pt_ 6 23 (bz_ 10 119) ?_
     refine tt_ 3 20 (bz_ 10 127) hHeld (hy:=Or.inl ⟨by rfl,by rintro w' ⟨s0,s1,s2,s3,s4,s5,s6,s7,s8,s9⟩;go_simp;with_reducible rfl⟩) (h:=?_)
     refine tt_ 7 24 (bz_ 10 255) hHeld (hy:=Or.inl ⟨by rfl,by rintro w' ⟨s0,s1,s2,s3,s4,s5,s6,s7,s8,s9⟩;go_simp;with_reducible rfl⟩) (h:=?_)
     refine one_ (i:=8) (N:=some 25) (bz_ 10 511) rfl rfl (one_of HT_.out (by kernel_rfl)) (by decide) (fun K hK=>?_)
     refine goes_ Try.func25 (by kernel_rfl) rfl #[.agg #[.int .i64 ((rd_T51 l0 x5_1).f0),.int .i64 ((rd_T51 l0 x5_1).f1),.int .i64 ((rd_T51 l0 x5_1).f2),.int .i64 ((rd_T51 l0 x5_1).f3),.int .i64 ((rd_T51 l0 x5_1).f4)],.agg #[.int .i64 ((rd_T51 l1 x5_1).f0),.int .i64 ((rd_T51 l1 x5_1).f1),.int .i64 ((rd_T51 l1 x5_1).f2),.int .i64 ((rd_T51 l1 x5_1).f3),.int .i64 ((rd_T51 l1 x5_1).f4)]] (by rfl) rfl rfl sm_ ?_
     with_reducible refine (laws_eqEdge.calls ((rd_T51 l0 x5_1).f0) ((rd_T51 l0 x5_1).f1) ((rd_T51 l0 x5_1).f2) ((rd_T51 l0 x5_1).f3) ((rd_T51 l0 x5_1).f4) ((rd_T51 l1 x5_1).f0) ((rd_T51 l1 x5_1).f1) ((rd_T51 l1 x5_1).f2) ((rd_T51 l1 x5_1).f3) ((rd_T51 l1 x5_1).f4) false _ A7.out).mono ?_
     rintro e w12 ⟨rfl,hb⟩
     refine ⟨_,rfl,?_⟩
     replace HB:=hs_ HB hb
     (try clear hb)
     (try clear hb2)
     (try clear hk)
     (try clear hi)
     refine hK.out _ _ ⟨(cb_ HB hw348_0:),(cb_ HB hw348_1:),(cb_ HB hw348_2:),(cb_ HB hw348_3:),(cb_ HB hw348_4:),(cb_ HB hw349_0:),(cb_ HB hw349_1:),(cb_ HB hw349_2:),(cb_ HB hw349_3:),(cb_ HB hw349_4:)⟩ (fun hHeld=>?_)
     clear hK K
     refine norm_ (a':=?_) ?_ ?_
     rotate_left
     ·show Act.put _ (some 25) _ = _
      simp only [Act.put,List.setIfInBounds_toArray,List.set_cons_zero,List.set_cons_succ,i64_w,i32_w]
      rfl
     refine pt_ 9 26 (bz_ 10 1023) ?_
     refine done_ (done_of HT_.out (by kernel_rfl)) ?_
     try go_wp2
     go_ret
     exact ⟨rt_,hx_⟩
    rw [if_neg c6] at H
    exact absurd H (by simp)
   rw [if_neg c5] at H
   exact absurd H (by simp)
  rw [if_neg c4] at H
  have c4b0 : decide (x5_1 < (l0.length : Int)) = false:=decide_eq_false c4
  clear c4
  obtain rfl:=Option.some.inj H
  go_wp2
  go_ret
  exact ⟨rt_,hx_⟩
 rw [if_neg c3] at H
 have c3b0 : ((l0.length : Int) == (l1.length : Int)) = false:=beq_eq_false_iff_ne.mpr c3
 have c3b1 : ((l0.length : Int) != (l1.length : Int)) = true:=bne_iff_ne.mpr c3
 have c3b2 : (l0.length == l1.length) = false:=by first|simpa using c3|(simp at c3 ⊢;omega)
 obtain rfl:=Option.some.inj H
 go_enter Try.func16,Try.ntmps16
 go_wp2
 go_ret
 exact ⟨rt_,hx_⟩

end Go.Proofs.Ytnffimpoekjkpaa.QFnExactRounds
