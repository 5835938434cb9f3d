/- Lean functions for the Go functions that the law FnExactBestSums reaches, and that each Go function comes to just its Lean function's answer; by a program of this session. -/
import Derived.Test.YtfmemcffbfahhaaZFnExactBestSumsx0
namespace Go.Proofs.Ytfmemcffbfahhaa.QFnExactBestSums
open Go.RowKit Go.Proofs.YtfmemcffbfahhaaW.PrintWords Go.Proofs.YtfmemcffbfahhaaW.PrintLast Go.Proofs.YtfmemcffbfahhaaW.PrintMore
attribute [local go_sem] max2_int min2_int max_two min_two max_three min_three max_four min_four   -- for this text's walks alone
set_option linter.unusedVariables false
set_option linter.unusedSimpArgs false

/-! ### spec_l08At: function 115 -/
def spec_l08At.l0 : Nat → Int → Int → Int → Int → List (S36) → Option (Int)
  | 0,_,_,_,_,_=>none
  | k + 1,x1,x2,x7,x143000,x143001=>if x7 < (x143001.length : Int) then (if 0 ≤ x7 then (if ((rd_T36 x143001 x7).f0) = x1 then (if ((rd_T36 x143001 x7).f1) = x2 then (some x7) else (if ((rd_T36 x143001 x7).f0) = x2 then (if ((rd_T36 x143001 x7).f1) = x1 then (some x7) else (spec_l08At.l0 k x1 x2 (wrap64 (x7 + 1)) x143000 x143001)) else (spec_l08At.l0 k x1 x2 (wrap64 (x7 + 1)) x143000 x143001))) else (if ((rd_T36 x143001 x7).f0) = x2 then (if ((rd_T36 x143001 x7).f1) = x1 then (some x7) else (spec_l08At.l0 k x1 x2 (wrap64 (x7 + 1)) x143000 x143001)) else (spec_l08At.l0 k x1 x2 (wrap64 (x7 + 1)) x143000 x143001))) else (none)) else (some (-1))
def spec_l08At.f (k : Nat) (a0_0 : Int) (l0_1 : List (S36)) (a1 : Int) (a2 : Int) : Option (Int):=spec_l08At.l0 k a1 a2 0 a0_0 l0_1
theorem spec_l08At.mono_l : ∀ k,(∀ y0 y1 y2 y3 y4,LeO (spec_l08At.l0 k y0 y1 y2 y3 y4) (spec_l08At.l0 (k + 1) y0 y1 y2 y3 y4))
  | 0=>fun _ _ _ _ _ r h=>by simp [spec_l08At.l0] at h
  | k + 1=>by
    have ih0:=spec_l08At.mono_l k
    · intro y0 y1 y2 y3 y4
      unfold spec_l08At.l0
      repeat' first
      | (with_reducible exact ih0 _ _ _ _ _)
      | (with_reducible exact LeO.refl _)
      | (with_reducible exact LeO.none _)
      | (with_reducible refine LeO.ite ?_ ?_)
      | (with_reducible refine LeO.bind ?_ (fun _=>?_))
      | exact ih0 _ _ _ _ _
      | exact LeO.none _
      | refine LeO.ite ?_ ?_
      | refine LeO.bind ?_ (fun _=>?_)
theorem spec_l08At.mono : ∀ a0 a1 a2 a3 k,LeO (spec_l08At.f k a0 a1 a2 a3) (spec_l08At.f (k + 1) a0 a1 a2 a3):=by
  intro a0 a1 a2 a3 k
  have ih0:=spec_l08At.mono_l k
  unfold spec_l08At.f
  repeat' first
      | (with_reducible exact ih0 _ _ _ _ _)
      | (with_reducible exact LeO.refl _)
      | (with_reducible exact LeO.none _)
      | (with_reducible refine LeO.ite ?_ ?_)
      | (with_reducible refine LeO.bind ?_ (fun _=>?_))
      | exact ih0 _ _ _ _ _
      | exact LeO.none _
      | refine LeO.ite ?_ ?_
      | refine LeO.bind ?_ (fun _=>?_)
set_option maxHeartbeats 8000000 in
set_option maxRecDepth 100000 in
theorem spec_l08At.calls (k : Nat) (a0_0 : Int) (A0_1 : Option Addr) (c0_1 : Nat) (l0_1 : List (S36)) (a1 : Int) (a2 : Int) (r : Int) (w : World) (hr0_1 : Kd.C k36 w A0_1 l0_1.length l0_1) (hc0_1 : l0_1.length ≤ c0_1) (h : spec_l08At.f k a0_0 l0_1 a1 a2 = some r) :
    Calls Try.prog 115 #[.agg #[.int .i64 a0_0,.slice A0_1 l0_1.length c0_1],.int .i64 a1,.int .i64 a2] w fun e w'=>e = .returned (.int .i64 r) ∧ Below w.heap.size w w':=by
  have hu26:=Try.underlying26
  have HR0_1:=qn.mk hr0_1
  have HC0_1:=qn.mk hc0_1
  clear hr0_1 hc0_1
  have HB:=qn.mk (Below.refl w.heap.size w)
  have H : (spec_l08At.l0 k a1 a2 0 a0_0 l0_1) = some r:=h
  clear h
  have H':=qn.mk H
  clear H
  go_enter Try.func115,Try.ntmps115
  go_wp2_with (first|((with_reducible refine gate_dst (N:=3) rfl ?_);refine box_event ?hg (N:=3) ?hd (cs:=#[.int .i64 a0_0,.slice A0_1 l0_1.length c0_1]) (t:=26) ?hr ?_;(case hd=>rfl);(case hg=>rfl);(case hr=>first|(go_simp;done)|(go_simp;rfl));intro gb142 hg w4 hbox hb;have n0_:=hs_ HB hb;have n1_:=qn.mk (hbox);have n2_:=qn.mk ((by rw [hg];exact (qj (by repeat (first|(with_reducible first|exact HB.out|apply qf|apply qa|apply qd)|exact HB.out))) : w.heap.size ≤ gb142));have n3_:=qn.mk ((by rw [hg];exact (qj (by repeat (first|(with_reducible first|exact HB.out|apply qf|apply qa|apply qd)|exact HB.out))) : w.heap.size ≤ gb142));clear HB;have HB:=n0_;have BK142:=n1_;have GW142:=n2_;have GE142:=n3_;clear n0_ n1_ n2_ n3_;clear hb hbox hg))
  go_loopg [7] k (fun kq v7 w'=>∃ (x7_1 : Int),v7 = .int .i64 x7_1 ∧ qn (spec_l08At.l0 kq a1 a2 x7_1 a0_0 l0_1 = some r) ∧ qn (kq ≤ k) ∧ qn (w'.heap[gb142]? = some (.cells #[.int .i64 a0_0,(.slice A0_1 l0_1.length c0_1)] 26 (0,0))) ∧ qn (Below w.heap.size w w'))
  case atStart=>exact ⟨(0),(by first|rfl|(simp;done)|(simp [*];done)),H',⟨Nat.le_refl _⟩,⟨by (with_reducible repeat (first|refine qb ?_ _|refine qe ?_|refine qc ?_ _));exact BK142.out⟩,⟨by repeat (first|(with_reducible first|exact HB.out|apply qf|apply qa|apply qd|refine qg ?_ GE142.out)|exact HB.out)⟩⟩
  case round =>
    clear H'
    try clear c1
    try clear p2
    obtain ⟨x7_1,rfl,HA,HK1,BK142,HB⟩:=hrel
    cases gk with
    | zero=>exact absurd HA.out (by simp [spec_l08At.l0])
    | succ k1 =>
      have H:=HA.out
      clear HA
      simp only [spec_l08At.l0] at H
      by_cases c5 : x7_1 < (l0_1.length : Int)
      · rw [if_pos c5] at H
        have c5b0 : decide (x7_1 < (l0_1.length : Int)) = true:=decide_eq_true c5
        clear c5
        by_cases c6 : 0 ≤ x7_1
        · rw [if_pos c6] at H
          have c6b0 : decide (0 ≤ x7_1) = true:=decide_eq_true c6
          clear c6
          by_cases c7 : ((rd_T36 l0_1 x7_1).f0) = a1
          · rw [if_pos c7] at H
            have c7b0 : (((rd_T36 l0_1 x7_1).f0) == a1) = true:=beq_iff_eq.mpr c7
            have c7b1 : (((rd_T36 l0_1 x7_1).f0) != a1) = false:=bne_eq_false_iff_eq.mpr c7
            clear c7
            by_cases c8 : ((rd_T36 l0_1 x7_1).f1) = a2
            · rw [if_pos c8] at H
              have c8b0 : (((rd_T36 l0_1 x7_1).f1) == a2) = true:=beq_iff_eq.mpr c8
              have c8b1 : (((rd_T36 l0_1 x7_1).f1) != a2) = false:=bne_eq_false_iff_eq.mpr c8
              clear c8
              obtain rfl:=Option.some.inj H
              have hcz9_0 : wr.cell? ⟨gb142,0,none⟩ = some (.int .i64 a0_0):=(qh BK142.out 0).trans rfl
              have hcz9_1 : wr.cell? ⟨gb142,1,none⟩ = some (.slice A0_1 l0_1.length c0_1):=(qh BK142.out 1).trans rfl
              have hfz9_0:=qi BK142.out 0
              have hfz9_1:=qi BK142.out 1
              have p143 : 0 ≤ (x7_1 : Int):=of_decide_eq_true (by first|(with_reducible assumption)|assumption)
              have q143 : x7_1 < (l0_1.length : Int):=of_decide_eq_true (by first|(with_reducible assumption)|assumption)
              obtain ⟨ad143,e143,hx143_0,hx143_1,hx143_2,hx143_3,hx143_4⟩:=at_T36 HR0_1.out x7_1 p143 q143
              cases e143
              replace hx143_0:=cb_ HB hx143_0
              replace hx143_1:=cb_ HB hx143_1
              replace hx143_2:=cb_ HB hx143_2
              replace hx143_3:=cb_ HB hx143_3
              replace hx143_4:=cb_ HB hx143_4
              replace p143:=eq_true p143
              replace q143:=eq_true q143
              have p144 : 0 ≤ (x7_1 : Int):=of_decide_eq_true (by first|(with_reducible assumption)|assumption)
              have q144 : x7_1 < (l0_1.length : Int):=of_decide_eq_true (by first|(with_reducible assumption)|assumption)
              obtain ⟨ad144,e144,hx144_0,hx144_1,hx144_2,hx144_3,hx144_4⟩:=at_T36 HR0_1.out x7_1 p144 q144
              obtain rfl : ad143 = ad144:=(by injection e144)
              replace hx144_0:=cb_ HB hx144_0
              replace hx144_1:=cb_ HB hx144_1
              replace hx144_2:=cb_ HB hx144_2
              replace hx144_3:=cb_ HB hx144_3
              replace hx144_4:=cb_ HB hx144_4
              replace p144:=eq_true p144
              replace q144:=eq_true q144
              go_wp2
              go_ret
              exact ⟨by first|rfl|(simp [errW_none,errW_some] <;> rfl)|(simp [*,errW_none,errW_some] <;> rfl),by repeat (first|(with_reducible first|exact HB.out|apply qf|apply qa|apply qd|refine qg ?_ GE142.out)|exact HB.out)⟩
            · rw [if_neg c8] at H
              have c8b0 : (((rd_T36 l0_1 x7_1).f1) == a2) = false:=beq_eq_false_iff_ne.mpr c8
              have c8b1 : (((rd_T36 l0_1 x7_1).f1) != a2) = true:=bne_iff_ne.mpr c8
              by_cases c10 : ((rd_T36 l0_1 x7_1).f0) = a2
              · rw [if_pos c10] at H
                have c10b0 : (((rd_T36 l0_1 x7_1).f0) == a2) = true:=beq_iff_eq.mpr c10
                have c10b1 : (((rd_T36 l0_1 x7_1).f0) != a2) = false:=bne_eq_false_iff_eq.mpr c10
                clear c10
                by_cases c11 : ((rd_T36 l0_1 x7_1).f1) = a1
                · rw [if_pos c11] at H
                  have c11b0 : (((rd_T36 l0_1 x7_1).f1) == a1) = true:=beq_iff_eq.mpr c11
                  have c11b1 : (((rd_T36 l0_1 x7_1).f1) != a1) = false:=bne_eq_false_iff_eq.mpr c11
                  clear c11
                  obtain rfl:=Option.some.inj H
                  have hcz12_0 : wr.cell? ⟨gb142,0,none⟩ = some (.int .i64 a0_0):=(qh BK142.out 0).trans rfl
                  have hcz12_1 : wr.cell? ⟨gb142,1,none⟩ = some (.slice A0_1 l0_1.length c0_1):=(qh BK142.out 1).trans rfl
                  have hfz12_0:=qi BK142.out 0
                  have hfz12_1:=qi BK142.out 1
                  have p143 : 0 ≤ (x7_1 : Int):=of_decide_eq_true (by first|(with_reducible assumption)|assumption)
                  have q143 : x7_1 < (l0_1.length : Int):=of_decide_eq_true (by first|(with_reducible assumption)|assumption)
                  obtain ⟨ad143,e143,hx143_0,hx143_1,hx143_2,hx143_3,hx143_4⟩:=at_T36 HR0_1.out x7_1 p143 q143
                  cases e143
                  replace hx143_0:=cb_ HB hx143_0
                  replace hx143_1:=cb_ HB hx143_1
                  replace hx143_2:=cb_ HB hx143_2
                  replace hx143_3:=cb_ HB hx143_3
                  replace hx143_4:=cb_ HB hx143_4
                  replace p143:=eq_true p143
                  replace q143:=eq_true q143
                  have p144 : 0 ≤ (x7_1 : Int):=of_decide_eq_true (by first|(with_reducible assumption)|assumption)
                  have q144 : x7_1 < (l0_1.length : Int):=of_decide_eq_true (by first|(with_reducible assumption)|assumption)
                  obtain ⟨ad144,e144,hx144_0,hx144_1,hx144_2,hx144_3,hx144_4⟩:=at_T36 HR0_1.out x7_1 p144 q144
                  obtain rfl : ad143 = ad144:=(by injection e144)
                  replace hx144_0:=cb_ HB hx144_0
                  replace hx144_1:=cb_ HB hx144_1
                  replace hx144_2:=cb_ HB hx144_2
                  replace hx144_3:=cb_ HB hx144_3
                  replace hx144_4:=cb_ HB hx144_4
                  replace p144:=eq_true p144
                  replace q144:=eq_true q144
                  have p145 : 0 ≤ (x7_1 : Int):=of_decide_eq_true (by first|(with_reducible assumption)|assumption)
                  have q145 : x7_1 < (l0_1.length : Int):=of_decide_eq_true (by first|(with_reducible assumption)|assumption)
                  obtain ⟨ad145,e145,hx145_0,hx145_1,hx145_2,hx145_3,hx145_4⟩:=at_T36 HR0_1.out x7_1 p145 q145
                  obtain rfl : ad143 = ad145:=(by injection e145)
                  replace hx145_0:=cb_ HB hx145_0
                  replace hx145_1:=cb_ HB hx145_1
                  replace hx145_2:=cb_ HB hx145_2
                  replace hx145_3:=cb_ HB hx145_3
                  replace hx145_4:=cb_ HB hx145_4
                  replace p145:=eq_true p145
                  replace q145:=eq_true q145
                  have p146 : 0 ≤ (x7_1 : Int):=of_decide_eq_true (by first|(with_reducible assumption)|assumption)
                  have q146 : x7_1 < (l0_1.length : Int):=of_decide_eq_true (by first|(with_reducible assumption)|assumption)
                  obtain ⟨ad146,e146,hx146_0,hx146_1,hx146_2,hx146_3,hx146_4⟩:=at_T36 HR0_1.out x7_1 p146 q146
                  obtain rfl : ad143 = ad146:=(by injection e146)
                  replace hx146_0:=cb_ HB hx146_0
                  replace hx146_1:=cb_ HB hx146_1
                  replace hx146_2:=cb_ HB hx146_2
                  replace hx146_3:=cb_ HB hx146_3
                  replace hx146_4:=cb_ HB hx146_4
                  replace p146:=eq_true p146
                  replace q146:=eq_true q146
                  go_wp2
                  go_ret
                  exact ⟨by first|rfl|(simp [errW_none,errW_some] <;> rfl)|(simp [*,errW_none,errW_some] <;> rfl),by repeat (first|(with_reducible first|exact HB.out|apply qf|apply qa|apply qd|refine qg ?_ GE142.out)|exact HB.out)⟩
                · rw [if_neg c11] at H
                  have c11b0 : (((rd_T36 l0_1 x7_1).f1) == a1) = false:=beq_eq_false_iff_ne.mpr c11
                  have c11b1 : (((rd_T36 l0_1 x7_1).f1) != a1) = true:=bne_iff_ne.mpr c11
                  have H':=qn.mk H
                  clear H
                  have hcz13_0 : wr.cell? ⟨gb142,0,none⟩ = some (.int .i64 a0_0):=(qh BK142.out 0).trans rfl
                  have hcz13_1 : wr.cell? ⟨gb142,1,none⟩ = some (.slice A0_1 l0_1.length c0_1):=(qh BK142.out 1).trans rfl
                  have hfz13_0:=qi BK142.out 0
                  have hfz13_1:=qi BK142.out 1
                  have p143 : 0 ≤ (x7_1 : Int):=of_decide_eq_true (by first|(with_reducible assumption)|assumption)
                  have q143 : x7_1 < (l0_1.length : Int):=of_decide_eq_true (by first|(with_reducible assumption)|assumption)
                  obtain ⟨ad143,e143,hx143_0,hx143_1,hx143_2,hx143_3,hx143_4⟩:=at_T36 HR0_1.out x7_1 p143 q143
                  cases e143
                  replace hx143_0:=cb_ HB hx143_0
                  replace hx143_1:=cb_ HB hx143_1
                  replace hx143_2:=cb_ HB hx143_2
                  replace hx143_3:=cb_ HB hx143_3
                  replace hx143_4:=cb_ HB hx143_4
                  replace p143:=eq_true p143
                  replace q143:=eq_true q143
                  have p144 : 0 ≤ (x7_1 : Int):=of_decide_eq_true (by first|(with_reducible assumption)|assumption)
                  have q144 : x7_1 < (l0_1.length : Int):=of_decide_eq_true (by first|(with_reducible assumption)|assumption)
                  obtain ⟨ad144,e144,hx144_0,hx144_1,hx144_2,hx144_3,hx144_4⟩:=at_T36 HR0_1.out x7_1 p144 q144
                  obtain rfl : ad143 = ad144:=(by injection e144)
                  replace hx144_0:=cb_ HB hx144_0
                  replace hx144_1:=cb_ HB hx144_1
                  replace hx144_2:=cb_ HB hx144_2
                  replace hx144_3:=cb_ HB hx144_3
                  replace hx144_4:=cb_ HB hx144_4
                  replace p144:=eq_true p144
                  replace q144:=eq_true q144
                  have p145 : 0 ≤ (x7_1 : Int):=of_decide_eq_true (by first|(with_reducible assumption)|assumption)
                  have q145 : x7_1 < (l0_1.length : Int):=of_decide_eq_true (by first|(with_reducible assumption)|assumption)
                  obtain ⟨ad145,e145,hx145_0,hx145_1,hx145_2,hx145_3,hx145_4⟩:=at_T36 HR0_1.out x7_1 p145 q145
                  obtain rfl : ad143 = ad145:=(by injection e145)
                  replace hx145_0:=cb_ HB hx145_0
                  replace hx145_1:=cb_ HB hx145_1
                  replace hx145_2:=cb_ HB hx145_2
                  replace hx145_3:=cb_ HB hx145_3
                  replace hx145_4:=cb_ HB hx145_4
                  replace p145:=eq_true p145
                  replace q145:=eq_true q145
                  have p146 : 0 ≤ (x7_1 : Int):=of_decide_eq_true (by first|(with_reducible assumption)|assumption)
                  have q146 : x7_1 < (l0_1.length : Int):=of_decide_eq_true (by first|(with_reducible assumption)|assumption)
                  obtain ⟨ad146,e146,hx146_0,hx146_1,hx146_2,hx146_3,hx146_4⟩:=at_T36 HR0_1.out x7_1 p146 q146
                  obtain rfl : ad143 = ad146:=(by injection e146)
                  replace hx146_0:=cb_ HB hx146_0
                  replace hx146_1:=cb_ HB hx146_1
                  replace hx146_2:=cb_ HB hx146_2
                  replace hx146_3:=cb_ HB hx146_3
                  replace hx146_4:=cb_ HB hx146_4
                  replace p146:=eq_true p146
                  replace q146:=eq_true q146
                  go_wp2
                  go_roundg k1
                  case measure=>have:=HK1.out;omega
                  case rel=>exact ⟨(wrap64 (x7_1 + 1)),(by first|rfl|(simp;done)|(simp [*];done)),H',⟨by have:=HK1.out;omega⟩,⟨by (with_reducible repeat (first|refine qb ?_ _|refine qe ?_|refine qc ?_ _));exact BK142.out⟩,⟨by repeat (first|(with_reducible first|exact HB.out|apply qf|apply qa|apply qd|refine qg ?_ GE142.out)|exact HB.out)⟩⟩
              · rw [if_neg c10] at H
                have c10b0 : (((rd_T36 l0_1 x7_1).f0) == a2) = false:=beq_eq_false_iff_ne.mpr c10
                have c10b1 : (((rd_T36 l0_1 x7_1).f0) != a2) = true:=bne_iff_ne.mpr c10
                have H':=qn.mk H
                clear H
                have hcz14_0 : wr.cell? ⟨gb142,0,none⟩ = some (.int .i64 a0_0):=(qh BK142.out 0).trans rfl
                have hcz14_1 : wr.cell? ⟨gb142,1,none⟩ = some (.slice A0_1 l0_1.length c0_1):=(qh BK142.out 1).trans rfl
                have hfz14_0:=qi BK142.out 0
                have hfz14_1:=qi BK142.out 1
                have p143 : 0 ≤ (x7_1 : Int):=of_decide_eq_true (by first|(with_reducible assumption)|assumption)
                have q143 : x7_1 < (l0_1.length : Int):=of_decide_eq_true (by first|(with_reducible assumption)|assumption)
                obtain ⟨ad143,e143,hx143_0,hx143_1,hx143_2,hx143_3,hx143_4⟩:=at_T36 HR0_1.out x7_1 p143 q143
                cases e143
                replace hx143_0:=cb_ HB hx143_0
                replace hx143_1:=cb_ HB hx143_1
                replace hx143_2:=cb_ HB hx143_2
                replace hx143_3:=cb_ HB hx143_3
                replace hx143_4:=cb_ HB hx143_4
                replace p143:=eq_true p143
                replace q143:=eq_true q143
                have p144 : 0 ≤ (x7_1 : Int):=of_decide_eq_true (by first|(with_reducible assumption)|assumption)
                have q144 : x7_1 < (l0_1.length : Int):=of_decide_eq_true (by first|(with_reducible assumption)|assumption)
                obtain ⟨ad144,e144,hx144_0,hx144_1,hx144_2,hx144_3,hx144_4⟩:=at_T36 HR0_1.out x7_1 p144 q144
                obtain rfl : ad143 = ad144:=(by injection e144)
                replace hx144_0:=cb_ HB hx144_0
                replace hx144_1:=cb_ HB hx144_1
                replace hx144_2:=cb_ HB hx144_2
                replace hx144_3:=cb_ HB hx144_3
                replace hx144_4:=cb_ HB hx144_4
                replace p144:=eq_true p144
                replace q144:=eq_true q144
                have p145 : 0 ≤ (x7_1 : Int):=of_decide_eq_true (by first|(with_reducible assumption)|assumption)
                have q145 : x7_1 < (l0_1.length : Int):=of_decide_eq_true (by first|(with_reducible assumption)|assumption)
                obtain ⟨ad145,e145,hx145_0,hx145_1,hx145_2,hx145_3,hx145_4⟩:=at_T36 HR0_1.out x7_1 p145 q145
                obtain rfl : ad143 = ad145:=(by injection e145)
                replace hx145_0:=cb_ HB hx145_0
                replace hx145_1:=cb_ HB hx145_1
                replace hx145_2:=cb_ HB hx145_2
                replace hx145_3:=cb_ HB hx145_3
                replace hx145_4:=cb_ HB hx145_4
                replace p145:=eq_true p145
                replace q145:=eq_true q145
                go_wp2
                go_roundg k1
                case measure=>have:=HK1.out;omega
                case rel=>exact ⟨(wrap64 (x7_1 + 1)),(by first|rfl|(simp;done)|(simp [*];done)),H',⟨by have:=HK1.out;omega⟩,⟨by (with_reducible repeat (first|refine qb ?_ _|refine qe ?_|refine qc ?_ _));exact BK142.out⟩,⟨by repeat (first|(with_reducible first|exact HB.out|apply qf|apply qa|apply qd|refine qg ?_ GE142.out)|exact HB.out)⟩⟩
          · rw [if_neg c7] at H
            have c7b0 : (((rd_T36 l0_1 x7_1).f0) == a1) = false:=beq_eq_false_iff_ne.mpr c7
            have c7b1 : (((rd_T36 l0_1 x7_1).f0) != a1) = true:=bne_iff_ne.mpr c7
            by_cases c15 : ((rd_T36 l0_1 x7_1).f0) = a2
            · rw [if_pos c15] at H
              have c15b0 : (((rd_T36 l0_1 x7_1).f0) == a2) = true:=beq_iff_eq.mpr c15
              have c15b1 : (((rd_T36 l0_1 x7_1).f0) != a2) = false:=bne_eq_false_iff_eq.mpr c15
              clear c15
              by_cases c16 : ((rd_T36 l0_1 x7_1).f1) = a1
              · rw [if_pos c16] at H
                have c16b0 : (((rd_T36 l0_1 x7_1).f1) == a1) = true:=beq_iff_eq.mpr c16
                have c16b1 : (((rd_T36 l0_1 x7_1).f1) != a1) = false:=bne_eq_false_iff_eq.mpr c16
                clear c16
                obtain rfl:=Option.some.inj H
                have hcz17_0 : wr.cell? ⟨gb142,0,none⟩ = some (.int .i64 a0_0):=(qh BK142.out 0).trans rfl
                have hcz17_1 : wr.cell? ⟨gb142,1,none⟩ = some (.slice A0_1 l0_1.length c0_1):=(qh BK142.out 1).trans rfl
                have hfz17_0:=qi BK142.out 0
                have hfz17_1:=qi BK142.out 1
                have p143 : 0 ≤ (x7_1 : Int):=of_decide_eq_true (by first|(with_reducible assumption)|assumption)
                have q143 : x7_1 < (l0_1.length : Int):=of_decide_eq_true (by first|(with_reducible assumption)|assumption)
                obtain ⟨ad143,e143,hx143_0,hx143_1,hx143_2,hx143_3,hx143_4⟩:=at_T36 HR0_1.out x7_1 p143 q143
                cases e143
                replace hx143_0:=cb_ HB hx143_0
                replace hx143_1:=cb_ HB hx143_1
                replace hx143_2:=cb_ HB hx143_2
                replace hx143_3:=cb_ HB hx143_3
                replace hx143_4:=cb_ HB hx143_4
                replace p143:=eq_true p143
                replace q143:=eq_true q143
                have p147 : 0 ≤ (x7_1 : Int):=of_decide_eq_true (by first|(with_reducible assumption)|assumption)
                have q147 : x7_1 < (l0_1.length : Int):=of_decide_eq_true (by first|(with_reducible assumption)|assumption)
                obtain ⟨ad147,e147,hx147_0,hx147_1,hx147_2,hx147_3,hx147_4⟩:=at_T36 HR0_1.out x7_1 p147 q147
                obtain rfl : ad143 = ad147:=(by injection e147)
                replace hx147_0:=cb_ HB hx147_0
                replace hx147_1:=cb_ HB hx147_1
                replace hx147_2:=cb_ HB hx147_2
                replace hx147_3:=cb_ HB hx147_3
                replace hx147_4:=cb_ HB hx147_4
                replace p147:=eq_true p147
                replace q147:=eq_true q147
                have p148 : 0 ≤ (x7_1 : Int):=of_decide_eq_true (by first|(with_reducible assumption)|assumption)
                have q148 : x7_1 < (l0_1.length : Int):=of_decide_eq_true (by first|(with_reducible assumption)|assumption)
                obtain ⟨ad148,e148,hx148_0,hx148_1,hx148_2,hx148_3,hx148_4⟩:=at_T36 HR0_1.out x7_1 p148 q148
                obtain rfl : ad143 = ad148:=(by injection e148)
                replace hx148_0:=cb_ HB hx148_0
                replace hx148_1:=cb_ HB hx148_1
                replace hx148_2:=cb_ HB hx148_2
                replace hx148_3:=cb_ HB hx148_3
                replace hx148_4:=cb_ HB hx148_4
                replace p148:=eq_true p148
                replace q148:=eq_true q148
                go_wp2
                go_ret
                exact ⟨by first|rfl|(simp [errW_none,errW_some] <;> rfl)|(simp [*,errW_none,errW_some] <;> rfl),by repeat (first|(with_reducible first|exact HB.out|apply qf|apply qa|apply qd|refine qg ?_ GE142.out)|exact HB.out)⟩
              · rw [if_neg c16] at H
                have c16b0 : (((rd_T36 l0_1 x7_1).f1) == a1) = false:=beq_eq_false_iff_ne.mpr c16
                have c16b1 : (((rd_T36 l0_1 x7_1).f1) != a1) = true:=bne_iff_ne.mpr c16
                have H':=qn.mk H
                clear H
                have hcz18_0 : wr.cell? ⟨gb142,0,none⟩ = some (.int .i64 a0_0):=(qh BK142.out 0).trans rfl
                have hcz18_1 : wr.cell? ⟨gb142,1,none⟩ = some (.slice A0_1 l0_1.length c0_1):=(qh BK142.out 1).trans rfl
                have hfz18_0:=qi BK142.out 0
                have hfz18_1:=qi BK142.out 1
                have p143 : 0 ≤ (x7_1 : Int):=of_decide_eq_true (by first|(with_reducible assumption)|assumption)
                have q143 : x7_1 < (l0_1.length : Int):=of_decide_eq_true (by first|(with_reducible assumption)|assumption)
                obtain ⟨ad143,e143,hx143_0,hx143_1,hx143_2,hx143_3,hx143_4⟩:=at_T36 HR0_1.out x7_1 p143 q143
                cases e143
                replace hx143_0:=cb_ HB hx143_0
                replace hx143_1:=cb_ HB hx143_1
                replace hx143_2:=cb_ HB hx143_2
                replace hx143_3:=cb_ HB hx143_3
                replace hx143_4:=cb_ HB hx143_4
                replace p143:=eq_true p143
                replace q143:=eq_true q143
                have p147 : 0 ≤ (x7_1 : Int):=of_decide_eq_true (by first|(with_reducible assumption)|assumption)
                have q147 : x7_1 < (l0_1.length : Int):=of_decide_eq_true (by first|(with_reducible assumption)|assumption)
                obtain ⟨ad147,e147,hx147_0,hx147_1,hx147_2,hx147_3,hx147_4⟩:=at_T36 HR0_1.out x7_1 p147 q147
                obtain rfl : ad143 = ad147:=(by injection e147)
                replace hx147_0:=cb_ HB hx147_0
                replace hx147_1:=cb_ HB hx147_1
                replace hx147_2:=cb_ HB hx147_2
                replace hx147_3:=cb_ HB hx147_3
                replace hx147_4:=cb_ HB hx147_4
                replace p147:=eq_true p147
                replace q147:=eq_true q147
                have p148 : 0 ≤ (x7_1 : Int):=of_decide_eq_true (by first|(with_reducible assumption)|assumption)
                have q148 : x7_1 < (l0_1.length : Int):=of_decide_eq_true (by first|(with_reducible assumption)|assumption)
                obtain ⟨ad148,e148,hx148_0,hx148_1,hx148_2,hx148_3,hx148_4⟩:=at_T36 HR0_1.out x7_1 p148 q148
                obtain rfl : ad143 = ad148:=(by injection e148)
                replace hx148_0:=cb_ HB hx148_0
                replace hx148_1:=cb_ HB hx148_1
                replace hx148_2:=cb_ HB hx148_2
                replace hx148_3:=cb_ HB hx148_3
                replace hx148_4:=cb_ HB hx148_4
                replace p148:=eq_true p148
                replace q148:=eq_true q148
                go_wp2
                go_roundg k1
                case measure=>have:=HK1.out;omega
                case rel=>exact ⟨(wrap64 (x7_1 + 1)),(by first|rfl|(simp;done)|(simp [*];done)),H',⟨by have:=HK1.out;omega⟩,⟨by (with_reducible repeat (first|refine qb ?_ _|refine qe ?_|refine qc ?_ _));exact BK142.out⟩,⟨by repeat (first|(with_reducible first|exact HB.out|apply qf|apply qa|apply qd|refine qg ?_ GE142.out)|exact HB.out)⟩⟩
            · rw [if_neg c15] at H
              have c15b0 : (((rd_T36 l0_1 x7_1).f0) == a2) = false:=beq_eq_false_iff_ne.mpr c15
              have c15b1 : (((rd_T36 l0_1 x7_1).f0) != a2) = true:=bne_iff_ne.mpr c15
              have H':=qn.mk H
              clear H
              have hcz19_0 : wr.cell? ⟨gb142,0,none⟩ = some (.int .i64 a0_0):=(qh BK142.out 0).trans rfl
              have hcz19_1 : wr.cell? ⟨gb142,1,none⟩ = some (.slice A0_1 l0_1.length c0_1):=(qh BK142.out 1).trans rfl
              have hfz19_0:=qi BK142.out 0
              have hfz19_1:=qi BK142.out 1
              have p143 : 0 ≤ (x7_1 : Int):=of_decide_eq_true (by first|(with_reducible assumption)|assumption)
              have q143 : x7_1 < (l0_1.length : Int):=of_decide_eq_true (by first|(with_reducible assumption)|assumption)
              obtain ⟨ad143,e143,hx143_0,hx143_1,hx143_2,hx143_3,hx143_4⟩:=at_T36 HR0_1.out x7_1 p143 q143
              cases e143
              replace hx143_0:=cb_ HB hx143_0
              replace hx143_1:=cb_ HB hx143_1
              replace hx143_2:=cb_ HB hx143_2
              replace hx143_3:=cb_ HB hx143_3
              replace hx143_4:=cb_ HB hx143_4
              replace p143:=eq_true p143
              replace q143:=eq_true q143
              have p147 : 0 ≤ (x7_1 : Int):=of_decide_eq_true (by first|(with_reducible assumption)|assumption)
              have q147 : x7_1 < (l0_1.length : Int):=of_decide_eq_true (by first|(with_reducible assumption)|assumption)
              obtain ⟨ad147,e147,hx147_0,hx147_1,hx147_2,hx147_3,hx147_4⟩:=at_T36 HR0_1.out x7_1 p147 q147
              obtain rfl : ad143 = ad147:=(by injection e147)
              replace hx147_0:=cb_ HB hx147_0
              replace hx147_1:=cb_ HB hx147_1
              replace hx147_2:=cb_ HB hx147_2
              replace hx147_3:=cb_ HB hx147_3
              replace hx147_4:=cb_ HB hx147_4
              replace p147:=eq_true p147
              replace q147:=eq_true q147
              go_wp2
              go_roundg k1
              case measure=>have:=HK1.out;omega
              case rel=>exact ⟨(wrap64 (x7_1 + 1)),(by first|rfl|(simp;done)|(simp [*];done)),H',⟨by have:=HK1.out;omega⟩,⟨by (with_reducible repeat (first|refine qb ?_ _|refine qe ?_|refine qc ?_ _));exact BK142.out⟩,⟨by repeat (first|(with_reducible first|exact HB.out|apply qf|apply qa|apply qd|refine qg ?_ GE142.out)|exact HB.out)⟩⟩
        · rw [if_neg c6] at H
          exact absurd H (by simp)
      · rw [if_neg c5] at H
        have c5b0 : decide (x7_1 < (l0_1.length : Int)) = false:=decide_eq_false c5
        clear c5
        obtain rfl:=Option.some.inj H
        have hcz20_0 : wr.cell? ⟨gb142,0,none⟩ = some (.int .i64 a0_0):=(qh BK142.out 0).trans rfl
        have hcz20_1 : wr.cell? ⟨gb142,1,none⟩ = some (.slice A0_1 l0_1.length c0_1):=(qh BK142.out 1).trans rfl
        have hfz20_0:=qi BK142.out 0
        have hfz20_1:=qi BK142.out 1
        go_wp2
        go_ret
        exact ⟨by first|rfl|(simp [errW_none,errW_some] <;> rfl)|(simp [*,errW_none,errW_some] <;> rfl),by repeat (first|(with_reducible first|exact HB.out|apply qf|apply qa|apply qd|refine qg ?_ GE142.out)|exact HB.out)⟩

/-! ### spec_Better: function 116 -/
def spec_Better.f (a0_0 : Int) (a0_1 : Int) (a0_2 : Int) (a1_0 : Int) (a1_1 : Int) (a1_2 : Int) : Option (Bool):=if a0_0 = a1_0 then (if a0_1 = a1_1 then (some (decide (a0_2 > a1_2))) else (some (decide (a0_1 > a1_1)))) else (some (decide (a0_0 > a1_0)))
set_option maxHeartbeats 8000000 in
set_option maxRecDepth 100000 in
theorem spec_Better.calls (a0_0 : Int) (a0_1 : Int) (a0_2 : Int) (a1_0 : Int) (a1_1 : Int) (a1_2 : Int) (r : Bool) (w : World) (h : spec_Better.f a0_0 a0_1 a0_2 a1_0 a1_1 a1_2 = some r) :
    Calls Try.prog 116 #[.agg #[.int .i64 a0_0,.int .i64 a0_1,.int .i64 a0_2],.agg #[.int .i64 a1_0,.int .i64 a1_1,.int .i64 a1_2]] w fun e w'=>e = .returned (.bool r) ∧ Below w.heap.size w w':=by
  have hu72:=Try.underlying72
  have HB:=qn.mk (Below.refl w.heap.size w)
  have H : (if a0_0 = a1_0 then (if a0_1 = a1_1 then (some (decide (a0_2 > a1_2))) else (some (decide (a0_1 > a1_1)))) else (some (decide (a0_0 > a1_0)))) = some r:=h
  clear h
  by_cases c3 : a0_0 = a1_0
  · rw [if_pos c3] at H
    have c3b0 : (a0_0 == a1_0) = true:=beq_iff_eq.mpr c3
    have c3b1 : (a0_0 != a1_0) = false:=bne_eq_false_iff_eq.mpr c3
    clear c3
    by_cases c4 : a0_1 = a1_1
    · rw [if_pos c4] at H
      have c4b0 : (a0_1 == a1_1) = true:=beq_iff_eq.mpr c4
      have c4b1 : (a0_1 != a1_1) = false:=bne_eq_false_iff_eq.mpr c4
      clear c4
      obtain rfl:=Option.some.inj H
      go_enter Try.func116,Try.ntmps116
      go_wp2_with (first|((with_reducible refine gate_dst (N:=2) rfl ?_);refine box_event ?hg (N:=2) ?hd (cs:=#[.int .i64 a0_0,.int .i64 a0_1,.int .i64 a0_2]) (t:=72) ?hr ?_;(case hd=>rfl);(case hg=>rfl);(case hr=>first|(go_simp;done)|(go_simp;rfl));intro gb149 hg w5 hbox hb;have n0_:=hs_ HB hb;have n1_:=qn.mk (hbox);have n2_:=qn.mk ((by rw [hg];exact (qj (by repeat (first|(with_reducible first|exact HB.out|apply qf|apply qa|apply qd)|exact HB.out))) : w.heap.size ≤ gb149));have n3_:=qn.mk ((by rw [hg];exact (qj (by repeat (first|(with_reducible first|exact HB.out|apply qf|apply qa|apply qd)|exact HB.out))) : w.heap.size ≤ gb149));clear HB;have HB:=n0_;have BK149:=n1_;have GW149:=n2_;have GE149:=n3_;clear n0_ n1_ n2_ n3_;clear hb hbox hg)|((with_reducible refine gate_dst (N:=3) rfl ?_);refine box_event ?hg (N:=3) ?hd (cs:=#[.int .i64 a1_0,.int .i64 a1_1,.int .i64 a1_2]) (t:=72) ?hr ?_;(case hd=>rfl);(case hg=>rfl);(case hr=>first|(go_simp;done)|(go_simp;rfl));intro gb150 hg w6 hbox hb;have n0_:=bb_ BK149 hb;have n1_:=hs_ HB hb;have n2_:=qn.mk (hbox);have n3_:=qn.mk ((by rw [hg];exact (qj (by repeat (first|(with_reducible first|exact HB.out|apply qf|apply qa|apply qd|refine qg ?_ GE149.out)|exact HB.out))) : w.heap.size ≤ gb150));have n4_:=qn.mk ((by rw [hg];exact (qj (by repeat (first|(with_reducible first|exact HB.out|apply qf|apply qa|apply qd|refine qg ?_ GE149.out)|exact HB.out))) : w.heap.size ≤ gb150));have n5_:=qn.mk ((by rw [hg];exact nl_ BK149 : gb149 ≠ gb150));have n6_:=qn.mk ((by rw [hg];exact ng_ BK149 : gb150 ≠ gb149));clear BK149;clear HB;have BK149:=n0_;have HB:=n1_;have BK150:=n2_;have GW150:=n3_;have GE150:=n4_;have NB149_150:=n5_;have NB150_149:=n6_;clear n0_ n1_ n2_ n3_ n4_ n5_ n6_;clear hb hbox hg;have hnb7:=NB149_150.out;have hnc7:=NB150_149.out;have hcz8_0 : w6.cell? ⟨gb149,0,none⟩ = some (.int .i64 a0_0):=(qh BK149.out 0).trans rfl;have hcz8_1 : w6.cell? ⟨gb149,1,none⟩ = some (.int .i64 a0_1):=(qh BK149.out 1).trans rfl;have hcz8_2 : w6.cell? ⟨gb149,2,none⟩ = some (.int .i64 a0_2):=(qh BK149.out 2).trans rfl;have hfz8_0:=qi BK149.out 0;have hfz8_1:=qi BK149.out 1;have hfz8_2:=qi BK149.out 2;have hcz9_0 : w6.cell? ⟨gb150,0,none⟩ = some (.int .i64 a1_0):=(qh BK150.out 0).trans rfl;have hcz9_1 : w6.cell? ⟨gb150,1,none⟩ = some (.int .i64 a1_1):=(qh BK150.out 1).trans rfl;have hcz9_2 : w6.cell? ⟨gb150,2,none⟩ = some (.int .i64 a1_2):=(qh BK150.out 2).trans rfl;have hfz9_0:=qi BK150.out 0;have hfz9_1:=qi BK150.out 1;have hfz9_2:=qi BK150.out 2))
      go_ret
      exact ⟨by first|rfl|(simp [errW_none,errW_some] <;> rfl)|(simp [*,errW_none,errW_some] <;> rfl),by repeat (first|(with_reducible first|exact HB.out|apply qf|apply qa|apply qd|refine qg ?_ GE149.out|refine qg ?_ GE150.out)|exact HB.out)⟩
    · rw [if_neg c4] at H
      have c4b0 : (a0_1 == a1_1) = false:=beq_eq_false_iff_ne.mpr c4
      have c4b1 : (a0_1 != a1_1) = true:=bne_iff_ne.mpr c4
      obtain rfl:=Option.some.inj H
      go_enter Try.func116,Try.ntmps116
      go_wp2_with (first|((with_reducible refine gate_dst (N:=2) rfl ?_);refine box_event ?hg (N:=2) ?hd (cs:=#[.int .i64 a0_0,.int .i64 a0_1,.int .i64 a0_2]) (t:=72) ?hr ?_;(case hd=>rfl);(case hg=>rfl);(case hr=>first|(go_simp;done)|(go_simp;rfl));intro gb149 hg w10 hbox hb;have n0_:=hs_ HB hb;have n1_:=qn.mk (hbox);have n2_:=qn.mk ((by rw [hg];exact (qj (by repeat (first|(with_reducible first|exact HB.out|apply qf|apply qa|apply qd)|exact HB.out))) : w.heap.size ≤ gb149));have n3_:=qn.mk ((by rw [hg];exact (qj (by repeat (first|(with_reducible first|exact HB.out|apply qf|apply qa|apply qd)|exact HB.out))) : w.heap.size ≤ gb149));clear HB;have HB:=n0_;have BK149:=n1_;have GW149:=n2_;have GE149:=n3_;clear n0_ n1_ n2_ n3_;clear hb hbox hg)|((with_reducible refine gate_dst (N:=3) rfl ?_);refine box_event ?hg (N:=3) ?hd (cs:=#[.int .i64 a1_0,.int .i64 a1_1,.int .i64 a1_2]) (t:=72) ?hr ?_;(case hd=>rfl);(case hg=>rfl);(case hr=>first|(go_simp;done)|(go_simp;rfl));intro gb150 hg w11 hbox hb;have n0_:=bb_ BK149 hb;have n1_:=hs_ HB hb;have n2_:=qn.mk (hbox);have n3_:=qn.mk ((by rw [hg];exact (qj (by repeat (first|(with_reducible first|exact HB.out|apply qf|apply qa|apply qd|refine qg ?_ GE149.out)|exact HB.out))) : w.heap.size ≤ gb150));have n4_:=qn.mk ((by rw [hg];exact (qj (by repeat (first|(with_reducible first|exact HB.out|apply qf|apply qa|apply qd|refine qg ?_ GE149.out)|exact HB.out))) : w.heap.size ≤ gb150));have n5_:=qn.mk ((by rw [hg];exact nl_ BK149 : gb149 ≠ gb150));have n6_:=qn.mk ((by rw [hg];exact ng_ BK149 : gb150 ≠ gb149));clear BK149;clear HB;have BK149:=n0_;have HB:=n1_;have BK150:=n2_;have GW150:=n3_;have GE150:=n4_;have NB149_150:=n5_;have NB150_149:=n6_;clear n0_ n1_ n2_ n3_ n4_ n5_ n6_;clear hb hbox hg;have hnb12:=NB149_150.out;have hnc12:=NB150_149.out;have hcz13_0 : w11.cell? ⟨gb149,0,none⟩ = some (.int .i64 a0_0):=(qh BK149.out 0).trans rfl;have hcz13_1 : w11.cell? ⟨gb149,1,none⟩ = some (.int .i64 a0_1):=(qh BK149.out 1).trans rfl;have hcz13_2 : w11.cell? ⟨gb149,2,none⟩ = some (.int .i64 a0_2):=(qh BK149.out 2).trans rfl;have hfz13_0:=qi BK149.out 0;have hfz13_1:=qi BK149.out 1;have hfz13_2:=qi BK149.out 2;have hcz14_0 : w11.cell? ⟨gb150,0,none⟩ = some (.int .i64 a1_0):=(qh BK150.out 0).trans rfl;have hcz14_1 : w11.cell? ⟨gb150,1,none⟩ = some (.int .i64 a1_1):=(qh BK150.out 1).trans rfl;have hcz14_2 : w11.cell? ⟨gb150,2,none⟩ = some (.int .i64 a1_2):=(qh BK150.out 2).trans rfl;have hfz14_0:=qi BK150.out 0;have hfz14_1:=qi BK150.out 1;have hfz14_2:=qi BK150.out 2))
      go_ret
      exact ⟨by first|rfl|(simp [errW_none,errW_some] <;> rfl)|(simp [*,errW_none,errW_some] <;> rfl),by repeat (first|(with_reducible first|exact HB.out|apply qf|apply qa|apply qd|refine qg ?_ GE149.out|refine qg ?_ GE150.out)|exact HB.out)⟩
  · rw [if_neg c3] at H
    have c3b0 : (a0_0 == a1_0) = false:=beq_eq_false_iff_ne.mpr c3
    have c3b1 : (a0_0 != a1_0) = true:=bne_iff_ne.mpr c3
    obtain rfl:=Option.some.inj H
    go_enter Try.func116,Try.ntmps116
    go_wp2_with (first|((with_reducible refine gate_dst (N:=2) rfl ?_);refine box_event ?hg (N:=2) ?hd (cs:=#[.int .i64 a0_0,.int .i64 a0_1,.int .i64 a0_2]) (t:=72) ?hr ?_;(case hd=>rfl);(case hg=>rfl);(case hr=>first|(go_simp;done)|(go_simp;rfl));intro gb149 hg w15 hbox hb;have n0_:=hs_ HB hb;have n1_:=qn.mk (hbox);have n2_:=qn.mk ((by rw [hg];exact (qj (by repeat (first|(with_reducible first|exact HB.out|apply qf|apply qa|apply qd)|exact HB.out))) : w.heap.size ≤ gb149));have n3_:=qn.mk ((by rw [hg];exact (qj (by repeat (first|(with_reducible first|exact HB.out|apply qf|apply qa|apply qd)|exact HB.out))) : w.heap.size ≤ gb149));clear HB;have HB:=n0_;have BK149:=n1_;have GW149:=n2_;have GE149:=n3_;clear n0_ n1_ n2_ n3_;clear hb hbox hg)|((with_reducible refine gate_dst (N:=3) rfl ?_);refine box_event ?hg (N:=3) ?hd (cs:=#[.int .i64 a1_0,.int .i64 a1_1,.int .i64 a1_2]) (t:=72) ?hr ?_;(case hd=>rfl);(case hg=>rfl);(case hr=>first|(go_simp;done)|(go_simp;rfl));intro gb150 hg w16 hbox hb;have n0_:=bb_ BK149 hb;have n1_:=hs_ HB hb;have n2_:=qn.mk (hbox);have n3_:=qn.mk ((by rw [hg];exact (qj (by repeat (first|(with_reducible first|exact HB.out|apply qf|apply qa|apply qd|refine qg ?_ GE149.out)|exact HB.out))) : w.heap.size ≤ gb150));have n4_:=qn.mk ((by rw [hg];exact (qj (by repeat (first|(with_reducible first|exact HB.out|apply qf|apply qa|apply qd|refine qg ?_ GE149.out)|exact HB.out))) : w.heap.size ≤ gb150));have n5_:=qn.mk ((by rw [hg];exact nl_ BK149 : gb149 ≠ gb150));have n6_:=qn.mk ((by rw [hg];exact ng_ BK149 : gb150 ≠ gb149));clear BK149;clear HB;have BK149:=n0_;have HB:=n1_;have BK150:=n2_;have GW150:=n3_;have GE150:=n4_;have NB149_150:=n5_;have NB150_149:=n6_;clear n0_ n1_ n2_ n3_ n4_ n5_ n6_;clear hb hbox hg;have hnb17:=NB149_150.out;have hnc17:=NB150_149.out;have hcz18_0 : w16.cell? ⟨gb149,0,none⟩ = some (.int .i64 a0_0):=(qh BK149.out 0).trans rfl;have hcz18_1 : w16.cell? ⟨gb149,1,none⟩ = some (.int .i64 a0_1):=(qh BK149.out 1).trans rfl;have hcz18_2 : w16.cell? ⟨gb149,2,none⟩ = some (.int .i64 a0_2):=(qh BK149.out 2).trans rfl;have hfz18_0:=qi BK149.out 0;have hfz18_1:=qi BK149.out 1;have hfz18_2:=qi BK149.out 2;have hcz19_0 : w16.cell? ⟨gb150,0,none⟩ = some (.int .i64 a1_0):=(qh BK150.out 0).trans rfl;have hcz19_1 : w16.cell? ⟨gb150,1,none⟩ = some (.int .i64 a1_1):=(qh BK150.out 1).trans rfl;have hcz19_2 : w16.cell? ⟨gb150,2,none⟩ = some (.int .i64 a1_2):=(qh BK150.out 2).trans rfl;have hfz19_0:=qi BK150.out 0;have hfz19_1:=qi BK150.out 1;have hfz19_2:=qi BK150.out 2))
    go_ret
    exact ⟨by first|rfl|(simp [errW_none,errW_some] <;> rfl)|(simp [*,errW_none,errW_some] <;> rfl),by repeat (first|(with_reducible first|exact HB.out|apply qf|apply qa|apply qd|refine qg ?_ GE149.out|refine qg ?_ GE150.out)|exact HB.out)⟩

end Go.Proofs.Ytfmemcffbfahhaa.QFnExactBestSums
