/- Lean functions for the Go functions that the law FnExactSumsOf reaches, and that each Go function comes to just its Lean function's answer; by a program of this session. -/
import Derived.Test.YtbonjmnpcklciaaZFnExactSumsOfx0
namespace Go.Proofs.Ytbonjmnpcklciaa.QFnExactSumsOf
open Go.RowKit Go.Proofs.YtbonjmnpcklciaaW.PrintWords Go.Proofs.YtbonjmnpcklciaaW.PrintLast Go.Proofs.YtbonjmnpcklciaaW.PrintMore
attribute [local go_sem] max2_int min2_int max_two min_two max_three min_three max_four min_four   -- for this text's walks alone
set_option linter.unusedVariables false
set_option linter.unusedSimpArgs false

/-! ### spec_l08At: function 93 -/
def spec_l08At.l0 : Nat → Int → Int → Int → Int → List (S148) → Option (Int)
  | 0,_,_,_,_,_=>none
  | k + 1,x1,x2,x7,x157000,x157001=>if x7 < (x157001.length : Int) then (if 0 ≤ x7 then (if ((rd_T148 x157001 x7).f0) = x1 then (if ((rd_T148 x157001 x7).f1) = x2 then (some x7) else (if ((rd_T148 x157001 x7).f0) = x2 then (if ((rd_T148 x157001 x7).f1) = x1 then (some x7) else (spec_l08At.l0 k x1 x2 (wrap64 (x7 + 1)) x157000 x157001)) else (spec_l08At.l0 k x1 x2 (wrap64 (x7 + 1)) x157000 x157001))) else (if ((rd_T148 x157001 x7).f0) = x2 then (if ((rd_T148 x157001 x7).f1) = x1 then (some x7) else (spec_l08At.l0 k x1 x2 (wrap64 (x7 + 1)) x157000 x157001)) else (spec_l08At.l0 k x1 x2 (wrap64 (x7 + 1)) x157000 x157001))) else (none)) else (some (-1))
def spec_l08At.f (k : Nat) (a0_0 : Int) (l0_1 : List (S148)) (a1 : Int) (a2 : Int) : Option (Int):=spec_l08At.l0 k a1 a2 0 a0_0 l0_1
theorem spec_l08At.mono_l : ∀ k,(∀ y0 y1 y2 y3 y4,LeO (spec_l08At.l0 k y0 y1 y2 y3 y4) (spec_l08At.l0 (k + 1) y0 y1 y2 y3 y4))
  | 0=>fun _ _ _ _ _ r h=>by simp [spec_l08At.l0] at h
  | k + 1=>by
    have ih0:=spec_l08At.mono_l k
    · intro y0 y1 y2 y3 y4
      unfold spec_l08At.l0
      repeat' first
      | (with_reducible exact ih0 _ _ _ _ _)
      | (with_reducible exact LeO.refl _)
      | (with_reducible exact LeO.none _)
      | (with_reducible refine LeO.ite ?_ ?_)
      | (with_reducible refine LeO.bind ?_ (fun _=>?_))
      | exact ih0 _ _ _ _ _
      | exact LeO.none _
      | refine LeO.ite ?_ ?_
      | refine LeO.bind ?_ (fun _=>?_)
theorem spec_l08At.mono : ∀ a0 a1 a2 a3 k,LeO (spec_l08At.f k a0 a1 a2 a3) (spec_l08At.f (k + 1) a0 a1 a2 a3):=by
  intro a0 a1 a2 a3 k
  have ih0:=spec_l08At.mono_l k
  unfold spec_l08At.f
  repeat' first
      | (with_reducible exact ih0 _ _ _ _ _)
      | (with_reducible exact LeO.refl _)
      | (with_reducible exact LeO.none _)
      | (with_reducible refine LeO.ite ?_ ?_)
      | (with_reducible refine LeO.bind ?_ (fun _=>?_))
      | exact ih0 _ _ _ _ _
      | exact LeO.none _
      | refine LeO.ite ?_ ?_
      | refine LeO.bind ?_ (fun _=>?_)
set_option maxHeartbeats 8000000 in
set_option maxRecDepth 100000 in
theorem spec_l08At.calls (k : Nat) (a0_0 : Int) (A0_1 : Option Addr) (c0_1 : Nat) (l0_1 : List (S148)) (a1 : Int) (a2 : Int) (r : Int) (w : World) (hr0_1 : Kd.C k148 w A0_1 l0_1.length l0_1) (hc0_1 : l0_1.length ≤ c0_1) (h : spec_l08At.f k a0_0 l0_1 a1 a2 = some r) :
    Calls Try.prog 93 #[.agg #[.int .i64 a0_0,.slice A0_1 l0_1.length c0_1],.int .i64 a1,.int .i64 a2] w fun e w'=>e = .returned (.int .i64 r) ∧ Below w.heap.size w w':=by
  (have hu56:=Try.underlying56);(have HR0_1:=qn.mk hr0_1);(have HC0_1:=qn.mk hc0_1);clear hr0_1 hc0_1;(have HB:=qn.mk (Below.refl w.heap.size w));(have H : (spec_l08At.l0 k a1 a2 0 a0_0 l0_1) = some r:=h);clear h;(have H':=qn.mk H);clear H
  go_enter Try.func93,Try.ntmps93
  go_wp2_with (first|((with_reducible refine gate_dst (N:=3) rfl ?_);refine box_event ?hg (N:=3) ?hd (cs:=#[.int .i64 a0_0,.slice A0_1 l0_1.length c0_1]) (t:=56) ?hr ?_;(case hd=>rfl);(case hg=>rfl);(case hr=>first|(go_simp;done)|(go_simp;rfl));intro gb156 hg w4 hbox hb;have n0_:=hs_ HB hb;have n1_:=qn.mk (hbox);have n2_:=qn.mk ((by rw [hg];exact (qj (by repeat (first|(with_reducible first|exact HB.out|apply qf|apply qa|apply qd)|exact HB.out))) : w.heap.size ≤ gb156));have n3_:=qn.mk ((by rw [hg];exact (qj (by repeat (first|(with_reducible first|exact HB.out|apply qf|apply qa|apply qd)|exact HB.out))) : w.heap.size ≤ gb156));clear HB;have HB:=n0_;have BK156:=n1_;have GW156:=n2_;have GE156:=n3_;clear n0_ n1_ n2_ n3_;clear hb hbox hg))
  go_loopg [7] k (fun kq v7 w'=>∃ (x7_1 : Int),v7 = .int .i64 x7_1 ∧ qn (spec_l08At.l0 kq a1 a2 x7_1 a0_0 l0_1 = some r) ∧ qn (kq ≤ k) ∧ qn (w'.heap[gb156]? = some (.cells #[.int .i64 a0_0,(.slice A0_1 l0_1.length c0_1)] 56 (0,0))) ∧ qn (Below w.heap.size w w'))
  case atStart=>exact ⟨(0),(by first|rfl|(simp;done)|(simp [*];done)),H',⟨Nat.le_refl _⟩,⟨by (with_reducible repeat (first|refine qb ?_ _|refine qe ?_|refine qc ?_ _));exact BK156.out⟩,⟨by repeat (first|(with_reducible first|exact HB.out|apply qf|apply qa|apply qd|refine qg ?_ GE156.out)|exact HB.out)⟩⟩
  case round =>
    clear H';(try clear p2);(obtain ⟨x7_1,rfl,HA,HK1,BK156,HB⟩:=hrel)
    cases gk with
    | zero=>exact absurd HA.out (by simp [spec_l08At.l0])
    | succ k1 =>
      (have H:=HA.out);clear HA;(simp only [spec_l08At.l0] at H)
      by_cases c5 : x7_1 < (l0_1.length : Int)
      · rw [if_pos c5] at H
        (have c5b0 : decide (x7_1 < (l0_1.length : Int)) = true:=decide_eq_true c5);clear c5
        by_cases c6 : 0 ≤ x7_1
        · rw [if_pos c6] at H
          (have c6b0 : decide (0 ≤ x7_1) = true:=decide_eq_true c6);clear c6
          by_cases c7 : ((rd_T148 l0_1 x7_1).f0) = a1
          · rw [if_pos c7] at H
            (have c7b0 : (((rd_T148 l0_1 x7_1).f0) == a1) = true:=beq_iff_eq.mpr c7);(have c7b1 : (((rd_T148 l0_1 x7_1).f0) != a1) = false:=bne_eq_false_iff_eq.mpr c7);clear c7
            by_cases c8 : ((rd_T148 l0_1 x7_1).f1) = a2
            · rw [if_pos c8] at H
              (have c8b0 : (((rd_T148 l0_1 x7_1).f1) == a2) = true:=beq_iff_eq.mpr c8);(have c8b1 : (((rd_T148 l0_1 x7_1).f1) != a2) = false:=bne_eq_false_iff_eq.mpr c8);clear c8;(obtain rfl:=Option.some.inj H);(have hcz9_0 : wr.cell? ⟨gb156,0,none⟩ = some (.int .i64 a0_0):=(qh BK156.out 0).trans rfl);(have hcz9_1 : wr.cell? ⟨gb156,1,none⟩ = some (.slice A0_1 l0_1.length c0_1):=(qh BK156.out 1).trans rfl);(have hfz9_0:=qi BK156.out 0);(have hfz9_1:=qi BK156.out 1);(have p157 : 0 ≤ (x7_1 : Int):=of_decide_eq_true (by first|(with_reducible assumption)|assumption));(have q157 : x7_1 < (l0_1.length : Int):=of_decide_eq_true (by first|(with_reducible assumption)|assumption));(obtain ⟨ad157,e157,hx157_0,hx157_1,hx157_2,hx157_3,hx157_4⟩:=at_T148 HR0_1.out x7_1 p157 q157)
              cases e157
              (replace hx157_0:=cb_ HB hx157_0);(replace hx157_1:=cb_ HB hx157_1);(replace hx157_2:=cb_ HB hx157_2);(replace hx157_3:=cb_ HB hx157_3);(replace hx157_4:=cb_ HB hx157_4);(replace p157:=eq_true p157);(replace q157:=eq_true q157);(have p158 : 0 ≤ (x7_1 : Int):=of_decide_eq_true (by first|(with_reducible assumption)|assumption));(have q158 : x7_1 < (l0_1.length : Int):=of_decide_eq_true (by first|(with_reducible assumption)|assumption));(obtain ⟨ad158,e158,hx158_0,hx158_1,hx158_2,hx158_3,hx158_4⟩:=at_T148 HR0_1.out x7_1 p158 q158);(obtain rfl : ad157 = ad158:=(by injection e158));(replace hx158_0:=cb_ HB hx158_0);(replace hx158_1:=cb_ HB hx158_1);(replace hx158_2:=cb_ HB hx158_2);(replace hx158_3:=cb_ HB hx158_3);(replace hx158_4:=cb_ HB hx158_4);(replace p158:=eq_true p158);(replace q158:=eq_true q158);go_wp2;go_ret;(exact ⟨by first|rfl|(simp [errW_none,errW_some] <;> rfl)|(simp [*,errW_none,errW_some] <;> rfl),by repeat (first|(with_reducible first|exact HB.out|apply qf|apply qa|apply qd|refine qg ?_ GE156.out)|exact HB.out)⟩)
            · rw [if_neg c8] at H
              (have c8b0 : (((rd_T148 l0_1 x7_1).f1) == a2) = false:=beq_eq_false_iff_ne.mpr c8);(have c8b1 : (((rd_T148 l0_1 x7_1).f1) != a2) = true:=bne_iff_ne.mpr c8)
              by_cases c10 : ((rd_T148 l0_1 x7_1).f0) = a2
              · rw [if_pos c10] at H
                (have c10b0 : (((rd_T148 l0_1 x7_1).f0) == a2) = true:=beq_iff_eq.mpr c10);(have c10b1 : (((rd_T148 l0_1 x7_1).f0) != a2) = false:=bne_eq_false_iff_eq.mpr c10);clear c10
                by_cases c11 : ((rd_T148 l0_1 x7_1).f1) = a1
                · rw [if_pos c11] at H
                  (have c11b0 : (((rd_T148 l0_1 x7_1).f1) == a1) = true:=beq_iff_eq.mpr c11);(have c11b1 : (((rd_T148 l0_1 x7_1).f1) != a1) = false:=bne_eq_false_iff_eq.mpr c11);clear c11;(obtain rfl:=Option.some.inj H);(have hcz12_0 : wr.cell? ⟨gb156,0,none⟩ = some (.int .i64 a0_0):=(qh BK156.out 0).trans rfl);(have hcz12_1 : wr.cell? ⟨gb156,1,none⟩ = some (.slice A0_1 l0_1.length c0_1):=(qh BK156.out 1).trans rfl);(have hfz12_0:=qi BK156.out 0);(have hfz12_1:=qi BK156.out 1);(have p157 : 0 ≤ (x7_1 : Int):=of_decide_eq_true (by first|(with_reducible assumption)|assumption));(have q157 : x7_1 < (l0_1.length : Int):=of_decide_eq_true (by first|(with_reducible assumption)|assumption));(obtain ⟨ad157,e157,hx157_0,hx157_1,hx157_2,hx157_3,hx157_4⟩:=at_T148 HR0_1.out x7_1 p157 q157)
                  cases e157
                  (replace hx157_0:=cb_ HB hx157_0);(replace hx157_1:=cb_ HB hx157_1);(replace hx157_2:=cb_ HB hx157_2);(replace hx157_3:=cb_ HB hx157_3);(replace hx157_4:=cb_ HB hx157_4);(replace p157:=eq_true p157);(replace q157:=eq_true q157);(have p158 : 0 ≤ (x7_1 : Int):=of_decide_eq_true (by first|(with_reducible assumption)|assumption));(have q158 : x7_1 < (l0_1.length : Int):=of_decide_eq_true (by first|(with_reducible assumption)|assumption));(obtain ⟨ad158,e158,hx158_0,hx158_1,hx158_2,hx158_3,hx158_4⟩:=at_T148 HR0_1.out x7_1 p158 q158);(obtain rfl : ad157 = ad158:=(by injection e158));(replace hx158_0:=cb_ HB hx158_0);(replace hx158_1:=cb_ HB hx158_1);(replace hx158_2:=cb_ HB hx158_2);(replace hx158_3:=cb_ HB hx158_3);(replace hx158_4:=cb_ HB hx158_4);(replace p158:=eq_true p158);(replace q158:=eq_true q158);(have p159 : 0 ≤ (x7_1 : Int):=of_decide_eq_true (by first|(with_reducible assumption)|assumption));(have q159 : x7_1 < (l0_1.length : Int):=of_decide_eq_true (by first|(with_reducible assumption)|assumption));(obtain ⟨ad159,e159,hx159_0,hx159_1,hx159_2,hx159_3,hx159_4⟩:=at_T148 HR0_1.out x7_1 p159 q159);(obtain rfl : ad157 = ad159:=(by injection e159));(replace hx159_0:=cb_ HB hx159_0);(replace hx159_1:=cb_ HB hx159_1);(replace hx159_2:=cb_ HB hx159_2);(replace hx159_3:=cb_ HB hx159_3);(replace hx159_4:=cb_ HB hx159_4);(replace p159:=eq_true p159);(replace q159:=eq_true q159);(have p160 : 0 ≤ (x7_1 : Int):=of_decide_eq_true (by first|(with_reducible assumption)|assumption));(have q160 : x7_1 < (l0_1.length : Int):=of_decide_eq_true (by first|(with_reducible assumption)|assumption));(obtain ⟨ad160,e160,hx160_0,hx160_1,hx160_2,hx160_3,hx160_4⟩:=at_T148 HR0_1.out x7_1 p160 q160);(obtain rfl : ad157 = ad160:=(by injection e160));(replace hx160_0:=cb_ HB hx160_0);(replace hx160_1:=cb_ HB hx160_1);(replace hx160_2:=cb_ HB hx160_2)
                  (replace hx160_3:=cb_ HB hx160_3);(replace hx160_4:=cb_ HB hx160_4);(replace p160:=eq_true p160);(replace q160:=eq_true q160);go_wp2;go_ret;(exact ⟨by first|rfl|(simp [errW_none,errW_some] <;> rfl)|(simp [*,errW_none,errW_some] <;> rfl),by repeat (first|(with_reducible first|exact HB.out|apply qf|apply qa|apply qd|refine qg ?_ GE156.out)|exact HB.out)⟩)
                · rw [if_neg c11] at H
                  (have c11b0 : (((rd_T148 l0_1 x7_1).f1) == a1) = false:=beq_eq_false_iff_ne.mpr c11);(have c11b1 : (((rd_T148 l0_1 x7_1).f1) != a1) = true:=bne_iff_ne.mpr c11);(have H':=qn.mk H);clear H;(have hcz13_0 : wr.cell? ⟨gb156,0,none⟩ = some (.int .i64 a0_0):=(qh BK156.out 0).trans rfl);(have hcz13_1 : wr.cell? ⟨gb156,1,none⟩ = some (.slice A0_1 l0_1.length c0_1):=(qh BK156.out 1).trans rfl);(have hfz13_0:=qi BK156.out 0);(have hfz13_1:=qi BK156.out 1);(have p157 : 0 ≤ (x7_1 : Int):=of_decide_eq_true (by first|(with_reducible assumption)|assumption));(have q157 : x7_1 < (l0_1.length : Int):=of_decide_eq_true (by first|(with_reducible assumption)|assumption));(obtain ⟨ad157,e157,hx157_0,hx157_1,hx157_2,hx157_3,hx157_4⟩:=at_T148 HR0_1.out x7_1 p157 q157)
                  cases e157
                  (replace hx157_0:=cb_ HB hx157_0);(replace hx157_1:=cb_ HB hx157_1);(replace hx157_2:=cb_ HB hx157_2);(replace hx157_3:=cb_ HB hx157_3);(replace hx157_4:=cb_ HB hx157_4);(replace p157:=eq_true p157);(replace q157:=eq_true q157);(have p158 : 0 ≤ (x7_1 : Int):=of_decide_eq_true (by first|(with_reducible assumption)|assumption));(have q158 : x7_1 < (l0_1.length : Int):=of_decide_eq_true (by first|(with_reducible assumption)|assumption));(obtain ⟨ad158,e158,hx158_0,hx158_1,hx158_2,hx158_3,hx158_4⟩:=at_T148 HR0_1.out x7_1 p158 q158);(obtain rfl : ad157 = ad158:=(by injection e158));(replace hx158_0:=cb_ HB hx158_0);(replace hx158_1:=cb_ HB hx158_1);(replace hx158_2:=cb_ HB hx158_2);(replace hx158_3:=cb_ HB hx158_3);(replace hx158_4:=cb_ HB hx158_4);(replace p158:=eq_true p158);(replace q158:=eq_true q158);(have p159 : 0 ≤ (x7_1 : Int):=of_decide_eq_true (by first|(with_reducible assumption)|assumption));(have q159 : x7_1 < (l0_1.length : Int):=of_decide_eq_true (by first|(with_reducible assumption)|assumption));(obtain ⟨ad159,e159,hx159_0,hx159_1,hx159_2,hx159_3,hx159_4⟩:=at_T148 HR0_1.out x7_1 p159 q159);(obtain rfl : ad157 = ad159:=(by injection e159));(replace hx159_0:=cb_ HB hx159_0);(replace hx159_1:=cb_ HB hx159_1);(replace hx159_2:=cb_ HB hx159_2);(replace hx159_3:=cb_ HB hx159_3);(replace hx159_4:=cb_ HB hx159_4);(replace p159:=eq_true p159);(replace q159:=eq_true q159);(have p160 : 0 ≤ (x7_1 : Int):=of_decide_eq_true (by first|(with_reducible assumption)|assumption));(have q160 : x7_1 < (l0_1.length : Int):=of_decide_eq_true (by first|(with_reducible assumption)|assumption));(obtain ⟨ad160,e160,hx160_0,hx160_1,hx160_2,hx160_3,hx160_4⟩:=at_T148 HR0_1.out x7_1 p160 q160);(obtain rfl : ad157 = ad160:=(by injection e160));(replace hx160_0:=cb_ HB hx160_0);(replace hx160_1:=cb_ HB hx160_1);(replace hx160_2:=cb_ HB hx160_2)
                  (replace hx160_3:=cb_ HB hx160_3);(replace hx160_4:=cb_ HB hx160_4);(replace p160:=eq_true p160);(replace q160:=eq_true q160);go_wp2
                  go_roundg k1
                  case measure=>have:=HK1.out;omega
                  case rel=>exact ⟨(wrap64 (x7_1 + 1)),(by first|rfl|(simp;done)|(simp [*];done)),H',⟨by have:=HK1.out;omega⟩,⟨by (with_reducible repeat (first|refine qb ?_ _|refine qe ?_|refine qc ?_ _));exact BK156.out⟩,⟨by repeat (first|(with_reducible first|exact HB.out|apply qf|apply qa|apply qd|refine qg ?_ GE156.out)|exact HB.out)⟩⟩
              · rw [if_neg c10] at H
                (have c10b0 : (((rd_T148 l0_1 x7_1).f0) == a2) = false:=beq_eq_false_iff_ne.mpr c10);(have c10b1 : (((rd_T148 l0_1 x7_1).f0) != a2) = true:=bne_iff_ne.mpr c10);(have H':=qn.mk H);clear H;(have hcz14_0 : wr.cell? ⟨gb156,0,none⟩ = some (.int .i64 a0_0):=(qh BK156.out 0).trans rfl);(have hcz14_1 : wr.cell? ⟨gb156,1,none⟩ = some (.slice A0_1 l0_1.length c0_1):=(qh BK156.out 1).trans rfl);(have hfz14_0:=qi BK156.out 0);(have hfz14_1:=qi BK156.out 1);(have p157 : 0 ≤ (x7_1 : Int):=of_decide_eq_true (by first|(with_reducible assumption)|assumption));(have q157 : x7_1 < (l0_1.length : Int):=of_decide_eq_true (by first|(with_reducible assumption)|assumption));(obtain ⟨ad157,e157,hx157_0,hx157_1,hx157_2,hx157_3,hx157_4⟩:=at_T148 HR0_1.out x7_1 p157 q157)
                cases e157
                (replace hx157_0:=cb_ HB hx157_0);(replace hx157_1:=cb_ HB hx157_1);(replace hx157_2:=cb_ HB hx157_2);(replace hx157_3:=cb_ HB hx157_3);(replace hx157_4:=cb_ HB hx157_4);(replace p157:=eq_true p157);(replace q157:=eq_true q157);(have p158 : 0 ≤ (x7_1 : Int):=of_decide_eq_true (by first|(with_reducible assumption)|assumption));(have q158 : x7_1 < (l0_1.length : Int):=of_decide_eq_true (by first|(with_reducible assumption)|assumption));(obtain ⟨ad158,e158,hx158_0,hx158_1,hx158_2,hx158_3,hx158_4⟩:=at_T148 HR0_1.out x7_1 p158 q158);(obtain rfl : ad157 = ad158:=(by injection e158));(replace hx158_0:=cb_ HB hx158_0);(replace hx158_1:=cb_ HB hx158_1);(replace hx158_2:=cb_ HB hx158_2);(replace hx158_3:=cb_ HB hx158_3);(replace hx158_4:=cb_ HB hx158_4);(replace p158:=eq_true p158);(replace q158:=eq_true q158);(have p159 : 0 ≤ (x7_1 : Int):=of_decide_eq_true (by first|(with_reducible assumption)|assumption));(have q159 : x7_1 < (l0_1.length : Int):=of_decide_eq_true (by first|(with_reducible assumption)|assumption));(obtain ⟨ad159,e159,hx159_0,hx159_1,hx159_2,hx159_3,hx159_4⟩:=at_T148 HR0_1.out x7_1 p159 q159);(obtain rfl : ad157 = ad159:=(by injection e159));(replace hx159_0:=cb_ HB hx159_0);(replace hx159_1:=cb_ HB hx159_1);(replace hx159_2:=cb_ HB hx159_2);(replace hx159_3:=cb_ HB hx159_3);(replace hx159_4:=cb_ HB hx159_4);(replace p159:=eq_true p159);(replace q159:=eq_true q159);go_wp2
                go_roundg k1
                case measure=>have:=HK1.out;omega
                case rel=>exact ⟨(wrap64 (x7_1 + 1)),(by first|rfl|(simp;done)|(simp [*];done)),H',⟨by have:=HK1.out;omega⟩,⟨by (with_reducible repeat (first|refine qb ?_ _|refine qe ?_|refine qc ?_ _));exact BK156.out⟩,⟨by repeat (first|(with_reducible first|exact HB.out|apply qf|apply qa|apply qd|refine qg ?_ GE156.out)|exact HB.out)⟩⟩
          · rw [if_neg c7] at H
            (have c7b0 : (((rd_T148 l0_1 x7_1).f0) == a1) = false:=beq_eq_false_iff_ne.mpr c7);(have c7b1 : (((rd_T148 l0_1 x7_1).f0) != a1) = true:=bne_iff_ne.mpr c7)
            by_cases c15 : ((rd_T148 l0_1 x7_1).f0) = a2
            · rw [if_pos c15] at H
              (have c15b0 : (((rd_T148 l0_1 x7_1).f0) == a2) = true:=beq_iff_eq.mpr c15);(have c15b1 : (((rd_T148 l0_1 x7_1).f0) != a2) = false:=bne_eq_false_iff_eq.mpr c15);clear c15
              by_cases c16 : ((rd_T148 l0_1 x7_1).f1) = a1
              · rw [if_pos c16] at H
                (have c16b0 : (((rd_T148 l0_1 x7_1).f1) == a1) = true:=beq_iff_eq.mpr c16);(have c16b1 : (((rd_T148 l0_1 x7_1).f1) != a1) = false:=bne_eq_false_iff_eq.mpr c16);clear c16;(obtain rfl:=Option.some.inj H);(have hcz17_0 : wr.cell? ⟨gb156,0,none⟩ = some (.int .i64 a0_0):=(qh BK156.out 0).trans rfl);(have hcz17_1 : wr.cell? ⟨gb156,1,none⟩ = some (.slice A0_1 l0_1.length c0_1):=(qh BK156.out 1).trans rfl);(have hfz17_0:=qi BK156.out 0);(have hfz17_1:=qi BK156.out 1);(have p157 : 0 ≤ (x7_1 : Int):=of_decide_eq_true (by first|(with_reducible assumption)|assumption));(have q157 : x7_1 < (l0_1.length : Int):=of_decide_eq_true (by first|(with_reducible assumption)|assumption));(obtain ⟨ad157,e157,hx157_0,hx157_1,hx157_2,hx157_3,hx157_4⟩:=at_T148 HR0_1.out x7_1 p157 q157)
                cases e157
                (replace hx157_0:=cb_ HB hx157_0);(replace hx157_1:=cb_ HB hx157_1);(replace hx157_2:=cb_ HB hx157_2);(replace hx157_3:=cb_ HB hx157_3);(replace hx157_4:=cb_ HB hx157_4);(replace p157:=eq_true p157);(replace q157:=eq_true q157);(have p161 : 0 ≤ (x7_1 : Int):=of_decide_eq_true (by first|(with_reducible assumption)|assumption));(have q161 : x7_1 < (l0_1.length : Int):=of_decide_eq_true (by first|(with_reducible assumption)|assumption));(obtain ⟨ad161,e161,hx161_0,hx161_1,hx161_2,hx161_3,hx161_4⟩:=at_T148 HR0_1.out x7_1 p161 q161);(obtain rfl : ad157 = ad161:=(by injection e161));(replace hx161_0:=cb_ HB hx161_0);(replace hx161_1:=cb_ HB hx161_1);(replace hx161_2:=cb_ HB hx161_2);(replace hx161_3:=cb_ HB hx161_3);(replace hx161_4:=cb_ HB hx161_4);(replace p161:=eq_true p161);(replace q161:=eq_true q161);(have p162 : 0 ≤ (x7_1 : Int):=of_decide_eq_true (by first|(with_reducible assumption)|assumption));(have q162 : x7_1 < (l0_1.length : Int):=of_decide_eq_true (by first|(with_reducible assumption)|assumption));(obtain ⟨ad162,e162,hx162_0,hx162_1,hx162_2,hx162_3,hx162_4⟩:=at_T148 HR0_1.out x7_1 p162 q162);(obtain rfl : ad157 = ad162:=(by injection e162));(replace hx162_0:=cb_ HB hx162_0);(replace hx162_1:=cb_ HB hx162_1);(replace hx162_2:=cb_ HB hx162_2);(replace hx162_3:=cb_ HB hx162_3);(replace hx162_4:=cb_ HB hx162_4);(replace p162:=eq_true p162);(replace q162:=eq_true q162);go_wp2;go_ret;(exact ⟨by first|rfl|(simp [errW_none,errW_some] <;> rfl)|(simp [*,errW_none,errW_some] <;> rfl),by repeat (first|(with_reducible first|exact HB.out|apply qf|apply qa|apply qd|refine qg ?_ GE156.out)|exact HB.out)⟩)
              · rw [if_neg c16] at H
                (have c16b0 : (((rd_T148 l0_1 x7_1).f1) == a1) = false:=beq_eq_false_iff_ne.mpr c16);(have c16b1 : (((rd_T148 l0_1 x7_1).f1) != a1) = true:=bne_iff_ne.mpr c16);(have H':=qn.mk H);clear H;(have hcz18_0 : wr.cell? ⟨gb156,0,none⟩ = some (.int .i64 a0_0):=(qh BK156.out 0).trans rfl);(have hcz18_1 : wr.cell? ⟨gb156,1,none⟩ = some (.slice A0_1 l0_1.length c0_1):=(qh BK156.out 1).trans rfl);(have hfz18_0:=qi BK156.out 0);(have hfz18_1:=qi BK156.out 1);(have p157 : 0 ≤ (x7_1 : Int):=of_decide_eq_true (by first|(with_reducible assumption)|assumption));(have q157 : x7_1 < (l0_1.length : Int):=of_decide_eq_true (by first|(with_reducible assumption)|assumption));(obtain ⟨ad157,e157,hx157_0,hx157_1,hx157_2,hx157_3,hx157_4⟩:=at_T148 HR0_1.out x7_1 p157 q157)
                cases e157
                (replace hx157_0:=cb_ HB hx157_0);(replace hx157_1:=cb_ HB hx157_1);(replace hx157_2:=cb_ HB hx157_2);(replace hx157_3:=cb_ HB hx157_3);(replace hx157_4:=cb_ HB hx157_4);(replace p157:=eq_true p157);(replace q157:=eq_true q157);(have p161 : 0 ≤ (x7_1 : Int):=of_decide_eq_true (by first|(with_reducible assumption)|assumption));(have q161 : x7_1 < (l0_1.length : Int):=of_decide_eq_true (by first|(with_reducible assumption)|assumption));(obtain ⟨ad161,e161,hx161_0,hx161_1,hx161_2,hx161_3,hx161_4⟩:=at_T148 HR0_1.out x7_1 p161 q161);(obtain rfl : ad157 = ad161:=(by injection e161));(replace hx161_0:=cb_ HB hx161_0);(replace hx161_1:=cb_ HB hx161_1);(replace hx161_2:=cb_ HB hx161_2);(replace hx161_3:=cb_ HB hx161_3);(replace hx161_4:=cb_ HB hx161_4);(replace p161:=eq_true p161);(replace q161:=eq_true q161);(have p162 : 0 ≤ (x7_1 : Int):=of_decide_eq_true (by first|(with_reducible assumption)|assumption));(have q162 : x7_1 < (l0_1.length : Int):=of_decide_eq_true (by first|(with_reducible assumption)|assumption));(obtain ⟨ad162,e162,hx162_0,hx162_1,hx162_2,hx162_3,hx162_4⟩:=at_T148 HR0_1.out x7_1 p162 q162);(obtain rfl : ad157 = ad162:=(by injection e162));(replace hx162_0:=cb_ HB hx162_0);(replace hx162_1:=cb_ HB hx162_1);(replace hx162_2:=cb_ HB hx162_2);(replace hx162_3:=cb_ HB hx162_3);(replace hx162_4:=cb_ HB hx162_4);(replace p162:=eq_true p162);(replace q162:=eq_true q162);go_wp2
                go_roundg k1
                case measure=>have:=HK1.out;omega
                case rel=>exact ⟨(wrap64 (x7_1 + 1)),(by first|rfl|(simp;done)|(simp [*];done)),H',⟨by have:=HK1.out;omega⟩,⟨by (with_reducible repeat (first|refine qb ?_ _|refine qe ?_|refine qc ?_ _));exact BK156.out⟩,⟨by repeat (first|(with_reducible first|exact HB.out|apply qf|apply qa|apply qd|refine qg ?_ GE156.out)|exact HB.out)⟩⟩
            · rw [if_neg c15] at H
              (have c15b0 : (((rd_T148 l0_1 x7_1).f0) == a2) = false:=beq_eq_false_iff_ne.mpr c15);(have c15b1 : (((rd_T148 l0_1 x7_1).f0) != a2) = true:=bne_iff_ne.mpr c15);(have H':=qn.mk H);clear H;(have hcz19_0 : wr.cell? ⟨gb156,0,none⟩ = some (.int .i64 a0_0):=(qh BK156.out 0).trans rfl);(have hcz19_1 : wr.cell? ⟨gb156,1,none⟩ = some (.slice A0_1 l0_1.length c0_1):=(qh BK156.out 1).trans rfl);(have hfz19_0:=qi BK156.out 0);(have hfz19_1:=qi BK156.out 1);(have p157 : 0 ≤ (x7_1 : Int):=of_decide_eq_true (by first|(with_reducible assumption)|assumption));(have q157 : x7_1 < (l0_1.length : Int):=of_decide_eq_true (by first|(with_reducible assumption)|assumption));(obtain ⟨ad157,e157,hx157_0,hx157_1,hx157_2,hx157_3,hx157_4⟩:=at_T148 HR0_1.out x7_1 p157 q157)
              cases e157
              (replace hx157_0:=cb_ HB hx157_0);(replace hx157_1:=cb_ HB hx157_1);(replace hx157_2:=cb_ HB hx157_2);(replace hx157_3:=cb_ HB hx157_3);(replace hx157_4:=cb_ HB hx157_4);(replace p157:=eq_true p157);(replace q157:=eq_true q157);(have p161 : 0 ≤ (x7_1 : Int):=of_decide_eq_true (by first|(with_reducible assumption)|assumption));(have q161 : x7_1 < (l0_1.length : Int):=of_decide_eq_true (by first|(with_reducible assumption)|assumption));(obtain ⟨ad161,e161,hx161_0,hx161_1,hx161_2,hx161_3,hx161_4⟩:=at_T148 HR0_1.out x7_1 p161 q161);(obtain rfl : ad157 = ad161:=(by injection e161));(replace hx161_0:=cb_ HB hx161_0);(replace hx161_1:=cb_ HB hx161_1);(replace hx161_2:=cb_ HB hx161_2);(replace hx161_3:=cb_ HB hx161_3);(replace hx161_4:=cb_ HB hx161_4);(replace p161:=eq_true p161);(replace q161:=eq_true q161);go_wp2
              go_roundg k1
              case measure=>have:=HK1.out;omega
              case rel=>exact ⟨(wrap64 (x7_1 + 1)),(by first|rfl|(simp;done)|(simp [*];done)),H',⟨by have:=HK1.out;omega⟩,⟨by (with_reducible repeat (first|refine qb ?_ _|refine qe ?_|refine qc ?_ _));exact BK156.out⟩,⟨by repeat (first|(with_reducible first|exact HB.out|apply qf|apply qa|apply qd|refine qg ?_ GE156.out)|exact HB.out)⟩⟩
        · rw [if_neg c6] at H
          exact absurd H (by simp)
      · rw [if_neg c5] at H
        (have c5b0 : decide (x7_1 < (l0_1.length : Int)) = false:=decide_eq_false c5);clear c5;(obtain rfl:=Option.some.inj H);(have hcz20_0 : wr.cell? ⟨gb156,0,none⟩ = some (.int .i64 a0_0):=(qh BK156.out 0).trans rfl);(have hcz20_1 : wr.cell? ⟨gb156,1,none⟩ = some (.slice A0_1 l0_1.length c0_1):=(qh BK156.out 1).trans rfl);(have hfz20_0:=qi BK156.out 0);(have hfz20_1:=qi BK156.out 1);go_wp2;go_ret;(exact ⟨by first|rfl|(simp [errW_none,errW_some] <;> rfl)|(simp [*,errW_none,errW_some] <;> rfl),by repeat (first|(with_reducible first|exact HB.out|apply qf|apply qa|apply qd|refine qg ?_ GE156.out)|exact HB.out)⟩)

/-! ### spec_l03In: function 94 -/
def spec_l03In.l0 : Nat → List Int → Int → Int → Option (Bool)
  | 0,_,_,_=>none
  | k + 1,x0,x1,x5=>if x5 < (x0.length : Int) then (if 0 ≤ x5 then (if (rd x0 x5) = x1 then (some true) else (spec_l03In.l0 k x0 x1 (wrap64 (x5 + 1)))) else (none)) else (some false)
def spec_l03In.f (k : Nat) (l0 : List Int) (a1 : Int) : Option (Bool):=spec_l03In.l0 k l0 a1 0
theorem spec_l03In.mono_l : ∀ k,(∀ y0 y1 y2,LeO (spec_l03In.l0 k y0 y1 y2) (spec_l03In.l0 (k + 1) y0 y1 y2))
  | 0=>fun _ _ _ r h=>by simp [spec_l03In.l0] at h
  | k + 1=>by
    have ih0:=spec_l03In.mono_l k
    · intro y0 y1 y2
      unfold spec_l03In.l0
      repeat' first
      | (with_reducible exact ih0 _ _ _)
      | (with_reducible exact LeO.refl _)
      | (with_reducible exact LeO.none _)
      | (with_reducible refine LeO.ite ?_ ?_)
      | (with_reducible refine LeO.bind ?_ (fun _=>?_))
      | exact ih0 _ _ _
      | exact LeO.none _
      | refine LeO.ite ?_ ?_
      | refine LeO.bind ?_ (fun _=>?_)
theorem spec_l03In.mono : ∀ a0 a1 k,LeO (spec_l03In.f k a0 a1) (spec_l03In.f (k + 1) a0 a1):=by
  intro a0 a1 k
  have ih0:=spec_l03In.mono_l k
  unfold spec_l03In.f
  repeat' first
      | (with_reducible exact ih0 _ _ _)
      | (with_reducible exact LeO.refl _)
      | (with_reducible exact LeO.none _)
      | (with_reducible refine LeO.ite ?_ ?_)
      | (with_reducible refine LeO.bind ?_ (fun _=>?_))
      | exact ih0 _ _ _
      | exact LeO.none _
      | refine LeO.ite ?_ ?_
      | refine LeO.bind ?_ (fun _=>?_)
set_option maxHeartbeats 8000000 in
set_option maxRecDepth 100000 in
theorem spec_l03In.calls (k : Nat) (A0 : Option Addr) (c0 : Nat) (l0 : List Int) (a1 : Int) (r : Bool) (w : World) (hr0 : Kd.C (Kd.int .i64) w A0 l0.length l0) (hc0 : l0.length ≤ c0) (h : spec_l03In.f k l0 a1 = some r) :
    Calls Try.prog 94 #[.slice A0 l0.length c0,.int .i64 a1] w fun e w'=>e = .returned (.bool r) ∧ Drawn0 w w':=by
  (have HR0:=qn.mk hr0);(have HC0:=qn.mk hc0);clear hr0 hc0;(have H : (spec_l03In.l0 k l0 a1 0) = some r:=h);clear h;(have H':=qn.mk H);clear H
  go_enter Try.func94,Try.ntmps94
  go_wp2
  go_loopg [5] k (fun kq v5 w'=>∃ (x5_1 : Int),v5 = .int .i64 x5_1 ∧ qn (spec_l03In.l0 kq l0 a1 x5_1 = some r) ∧ qn (kq ≤ k) ∧ Drawn0 w w')
  case atStart=>exact ⟨(0),(by first|rfl|(simp;done)|(simp [*];done)),H',⟨Nat.le_refl _⟩,by repeat (first|exact Drawn0.refl _|apply Drawn0.step)⟩
  case round =>
    clear H';(try clear p2);(obtain ⟨x5_1,rfl,HA,HK1,⟨m1,rfl⟩⟩:=hrel)
    cases gk with
    | zero=>exact absurd HA.out (by simp [spec_l03In.l0])
    | succ k1 =>
      (have H:=HA.out);clear HA;(simp only [spec_l03In.l0] at H)
      by_cases c3 : x5_1 < (l0.length : Int)
      · rw [if_pos c3] at H
        (have c3b0 : decide (x5_1 < (l0.length : Int)) = true:=decide_eq_true c3);clear c3
        by_cases c4 : 0 ≤ x5_1
        · rw [if_pos c4] at H
          (have c4b0 : decide (0 ≤ x5_1) = true:=decide_eq_true c4);clear c4
          by_cases c5 : (rd l0 x5_1) = a1
          · rw [if_pos c5] at H
            (have c5b0 : ((rd l0 x5_1) == a1) = true:=beq_iff_eq.mpr c5);(have c5b1 : ((rd l0 x5_1) != a1) = false:=bne_eq_false_iff_eq.mpr c5);clear c5;(obtain rfl:=Option.some.inj H);(have p163 : 0 ≤ (x5_1 : Int):=of_decide_eq_true (by first|(with_reducible assumption)|assumption));(have q163 : x5_1 < (l0.length : Int):=of_decide_eq_true (by first|(with_reducible assumption)|assumption));(obtain ⟨ad163,e163,hx163_0⟩:=Kd.at_int HR0.out x5_1 p163 q163)
            cases e163
            (replace p163:=eq_true p163);(replace q163:=eq_true q163);go_wp2;go_ret;(exact ⟨by first|rfl|(simp;done)|(simp [*];done),by repeat (first|exact Drawn0.refl _|apply Drawn0.step)⟩)
          · rw [if_neg c5] at H
            (have c5b0 : ((rd l0 x5_1) == a1) = false:=beq_eq_false_iff_ne.mpr c5);(have c5b1 : ((rd l0 x5_1) != a1) = true:=bne_iff_ne.mpr c5);(have H':=qn.mk H);clear H;(have p163 : 0 ≤ (x5_1 : Int):=of_decide_eq_true (by first|(with_reducible assumption)|assumption));(have q163 : x5_1 < (l0.length : Int):=of_decide_eq_true (by first|(with_reducible assumption)|assumption));(obtain ⟨ad163,e163,hx163_0⟩:=Kd.at_int HR0.out x5_1 p163 q163)
            cases e163
            (replace p163:=eq_true p163);(replace q163:=eq_true q163);go_wp2
            go_roundg k1
            case measure=>have:=HK1.out;omega
            case rel=>exact ⟨(wrap64 (x5_1 + 1)),(by first|rfl|(simp;done)|(simp [*];done)),H',⟨by have:=HK1.out;omega⟩,by repeat (first|exact Drawn0.refl _|apply Drawn0.step)⟩
        · rw [if_neg c4] at H
          exact absurd H (by simp)
      · rw [if_neg c3] at H
        (have c3b0 : decide (x5_1 < (l0.length : Int)) = false:=decide_eq_false c3);clear c3;(obtain rfl:=Option.some.inj H);go_wp2;go_ret;(exact ⟨by first|rfl|(simp;done)|(simp [*];done),by repeat (first|exact Drawn0.refl _|apply Drawn0.step)⟩)

end Go.Proofs.Ytbonjmnpcklciaa.QFnExactSumsOf
