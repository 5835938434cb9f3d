/- Lean functions for the Go functions that the law FnExactInduced reaches, and that each Go function comes to just its Lean function's answer; by a program of this session. -/
import Derived.Test.YtbonjmnpcklciaaZFnExactInducedx0
namespace Go.Proofs.Ytbonjmnpcklciaa.QFnExactInduced
open Go.RowKit Go.Proofs.YtbonjmnpcklciaaW.PrintWords Go.Proofs.YtbonjmnpcklciaaW.PrintLast Go.Proofs.YtbonjmnpcklciaaW.PrintMore
attribute [local go_sem] max2_int min2_int max_two min_two max_three min_three max_four min_four   -- for this text's walks alone
set_option linter.unusedVariables false
set_option linter.unusedSimpArgs false

/-! ### impl_edgeAt: function 98 -/
def impl_edgeAt.l0 : Nat → Int → Int → List (S148) → Int → Int → Option (Int)
  | 0,_,_,_,_,_=>none
  | k + 1,x1,x2,x10,x11,x12=>if x12 < x11 then (if 0 ≤ x12 then (if x12 < (x10.length : Int) then (if ((rd_T148 x10 x12).f0) = x1 then (if ((rd_T148 x10 x12).f1) = x2 then (some x12) else (if ((rd_T148 x10 x12).f0) = x2 then (if ((rd_T148 x10 x12).f1) = x1 then (some x12) else (impl_edgeAt.l0 k x1 x2 x10 x11 (wrap64 (x12 + 1)))) else (impl_edgeAt.l0 k x1 x2 x10 x11 (wrap64 (x12 + 1))))) else (if ((rd_T148 x10 x12).f0) = x2 then (if ((rd_T148 x10 x12).f1) = x1 then (some x12) else (impl_edgeAt.l0 k x1 x2 x10 x11 (wrap64 (x12 + 1)))) else (impl_edgeAt.l0 k x1 x2 x10 x11 (wrap64 (x12 + 1))))) else (none)) else (none)) else (some (-1))
def impl_edgeAt.f (k : Nat) (a0_0 : Int) (l0_1 : List (S148)) (a1 : Int) (a2 : Int) : Option (Int):=impl_edgeAt.l0 k a1 a2 l0_1 (l0_1.length : Int) 0
theorem impl_edgeAt.mono_l : ∀ k,(∀ y0 y1 y2 y3 y4,LeO (impl_edgeAt.l0 k y0 y1 y2 y3 y4) (impl_edgeAt.l0 (k + 1) y0 y1 y2 y3 y4))
  | 0=>fun _ _ _ _ _ r h=>by simp [impl_edgeAt.l0] at h
  | k + 1=>by
    have ih0:=impl_edgeAt.mono_l k
    · intro y0 y1 y2 y3 y4
      unfold impl_edgeAt.l0
      repeat' first
      | (with_reducible exact ih0 _ _ _ _ _)
      | (with_reducible exact LeO.refl _)
      | (with_reducible exact LeO.none _)
      | (with_reducible refine LeO.ite ?_ ?_)
      | (with_reducible refine LeO.bind ?_ (fun _=>?_))
      | exact ih0 _ _ _ _ _
      | exact LeO.none _
      | refine LeO.ite ?_ ?_
      | refine LeO.bind ?_ (fun _=>?_)
theorem impl_edgeAt.mono : ∀ a0 a1 a2 a3 k,LeO (impl_edgeAt.f k a0 a1 a2 a3) (impl_edgeAt.f (k + 1) a0 a1 a2 a3):=by
  intro a0 a1 a2 a3 k
  have ih0:=impl_edgeAt.mono_l k
  unfold impl_edgeAt.f
  repeat' first
      | (with_reducible exact ih0 _ _ _ _ _)
      | (with_reducible exact LeO.refl _)
      | (with_reducible exact LeO.none _)
      | (with_reducible refine LeO.ite ?_ ?_)
      | (with_reducible refine LeO.bind ?_ (fun _=>?_))
      | exact ih0 _ _ _ _ _
      | exact LeO.none _
      | refine LeO.ite ?_ ?_
      | refine LeO.bind ?_ (fun _=>?_)
set_option maxHeartbeats 8000000 in
set_option maxRecDepth 100000 in
theorem impl_edgeAt.calls (k : Nat) (a0_0 : Int) (A0_1 : Option Addr) (c0_1 : Nat) (l0_1 : List (S148)) (a1 : Int) (a2 : Int) (r : Int) (w : World) (hr0_1 : Kd.C k148 w A0_1 l0_1.length l0_1) (hc0_1 : l0_1.length ≤ c0_1) (h : impl_edgeAt.f k a0_0 l0_1 a1 a2 = some r) :
    Calls Try.prog 98 #[.agg #[.int .i64 a0_0,.slice A0_1 l0_1.length c0_1],.int .i64 a1,.int .i64 a2] w fun e w'=>e = .returned (.int .i64 r) ∧ Below w.heap.size w w':=by
  have hu56:=Try.underlying56
  have hu148:=Try.underlying148
  have HR0_1:=qn.mk hr0_1
  have HC0_1:=qn.mk hc0_1
  clear hr0_1 hc0_1
  have HB:=qn.mk (Below.refl w.heap.size w)
  have H : (impl_edgeAt.l0 k a1 a2 l0_1 (l0_1.length : Int) 0) = some r:=h
  clear h
  have H':=qn.mk H
  clear H
  go_enter Try.func98,Try.ntmps98
  go_wp2_with (first|((with_reducible refine gate_dst (N:=3) rfl ?_);refine box_event ?hg (N:=3) ?hd (cs:=#[.int .i64 a0_0,.slice A0_1 l0_1.length c0_1]) (t:=56) ?hr ?_;(case hd=>rfl);(case hg=>rfl);(case hr=>first|(go_simp;done)|(go_simp;rfl));intro gb174 hg w4 hbox hb;have n0_:=hs_ HB hb;have n1_:=qn.mk (hbox);have n2_:=qn.mk ((by rw [hg];exact (qj (by repeat (first|(with_reducible first|exact HB.out|apply qf|apply qa|apply qd)|exact HB.out))) : w.heap.size ≤ gb174));have n3_:=qn.mk ((by rw [hg];exact (qj (by repeat (first|(with_reducible first|exact HB.out|apply qf|apply qa|apply qd)|exact HB.out))) : w.heap.size ≤ gb174));clear HB;have HB:=n0_;have BK174:=n1_;have GW174:=n2_;have GE174:=n3_;clear n0_ n1_ n2_ n3_;clear hb hbox hg;have hcz5_0 : w4.cell? ⟨gb174,0,none⟩ = some (.int .i64 a0_0):=(qh BK174.out 0).trans rfl;have hcz5_1 : w4.cell? ⟨gb174,1,none⟩ = some (.slice A0_1 l0_1.length c0_1):=(qh BK174.out 1).trans rfl;have hfz5_0:=qi BK174.out 0;have hfz5_1:=qi BK174.out 1))
  go_loopg [12] k (fun kq v12 w'=>∃ (x12_1 : Int),v12 = .int .i64 x12_1 ∧ qn (impl_edgeAt.l0 kq a1 a2 l0_1 (l0_1.length : Int) x12_1 = some r) ∧ qn (kq ≤ k) ∧ qn (w'.heap[gb174]? = some (.cells #[.int .i64 a0_0,(.slice A0_1 l0_1.length c0_1)] 56 (0,0))) ∧ qn (Below w.heap.size w w'))
  case atStart=>exact ⟨(0),(by first|rfl|(simp;done)|(simp [*];done)),H',⟨Nat.le_refl _⟩,⟨by (with_reducible repeat (first|refine qb ?_ _|refine qe ?_|refine qc ?_ _));exact BK174.out⟩,⟨by repeat (first|(with_reducible first|exact HB.out|apply qf|apply qa|apply qd|refine qg ?_ GE174.out)|exact HB.out)⟩⟩
  case round =>
    clear H'
    try clear p2
    try clear hcz5_0
    try clear hcz5_1
    try clear hfz5_0
    try clear hfz5_1
    obtain ⟨x12_1,rfl,HA,HK1,BK174,HB⟩:=hrel
    cases gk with
    | zero=>exact absurd HA.out (by simp [impl_edgeAt.l0])
    | succ k1 =>
      have H:=HA.out
      clear HA
      simp only [impl_edgeAt.l0] at H
      by_cases c6 : x12_1 < (l0_1.length : Int)
      · rw [if_pos c6] at H
        have c6b0 : decide (x12_1 < (l0_1.length : Int)) = true:=decide_eq_true c6
        clear c6
        by_cases c7 : 0 ≤ x12_1
        · rw [if_pos c7] at H
          have c7b0 : decide (0 ≤ x12_1) = true:=decide_eq_true c7
          clear c7
          by_cases c8 : x12_1 < (l0_1.length : Int)
          · rw [if_pos c8] at H
            have c8b0 : decide (x12_1 < (l0_1.length : Int)) = true:=decide_eq_true c8
            clear c8
            by_cases c9 : ((rd_T148 l0_1 x12_1).f0) = a1
            · rw [if_pos c9] at H
              have c9b0 : (((rd_T148 l0_1 x12_1).f0) == a1) = true:=beq_iff_eq.mpr c9
              have c9b1 : (((rd_T148 l0_1 x12_1).f0) != a1) = false:=bne_eq_false_iff_eq.mpr c9
              clear c9
              by_cases c10 : ((rd_T148 l0_1 x12_1).f1) = a2
              · rw [if_pos c10] at H
                have c10b0 : (((rd_T148 l0_1 x12_1).f1) == a2) = true:=beq_iff_eq.mpr c10
                have c10b1 : (((rd_T148 l0_1 x12_1).f1) != a2) = false:=bne_eq_false_iff_eq.mpr c10
                clear c10
                obtain rfl:=Option.some.inj H
                have p175 : 0 ≤ (x12_1 : Int):=of_decide_eq_true (by first|(with_reducible assumption)|assumption)
                have q175 : x12_1 < (l0_1.length : Int):=of_decide_eq_true (by first|(with_reducible assumption)|assumption)
                obtain ⟨ad175,e175,hx175_0,hx175_1,hx175_2,hx175_3,hx175_4⟩:=at_T148 HR0_1.out x12_1 p175 q175
                cases e175
                replace hx175_0:=cb_ HB hx175_0
                replace hx175_1:=cb_ HB hx175_1
                replace hx175_2:=cb_ HB hx175_2
                replace hx175_3:=cb_ HB hx175_3
                replace hx175_4:=cb_ HB hx175_4
                replace p175:=eq_true p175
                replace q175:=eq_true q175
                go_wp2_with (first|((with_reducible refine gate_dst (N:=8) rfl ?_);refine box_event ?hg (N:=8) ?hd (cs:=#[.int .i64 0,.int .i64 0,.int .i64 0,.int .i64 0,.int .i64 0]) (t:=148) ?hr ?_;(case hd=>rfl);(case hg=>rfl);(case hr=>first|(go_simp;done)|(go_simp;rfl));intro gb176 hg w11 hbox hb;have n0_:=bb_ BK174 hb;have n1_:=hs_ HB hb;have n2_:=qn.mk (hbox);have n3_:=qn.mk ((by rw [hg];exact (qj (by repeat (first|(with_reducible first|exact HB.out|apply qf|apply qa|apply qd|refine qg ?_ GE174.out)|exact HB.out))) : w.heap.size ≤ gb176));have n4_:=qn.mk ((by rw [hg];exact (qj (by repeat (first|(with_reducible first|exact HB.out|apply qf|apply qa|apply qd|refine qg ?_ GE174.out)|exact HB.out))) : w.heap.size ≤ gb176));have n5_:=qn.mk ((by rw [hg];exact nl_ BK174 : gb174 ≠ gb176));have n6_:=qn.mk ((by rw [hg];exact ng_ BK174 : gb176 ≠ gb174));clear BK174;clear HB;have BK174:=n0_;have HB:=n1_;have BK176:=n2_;have GW176:=n3_;have GE176:=n4_;have NB174_176:=n5_;have NB176_174:=n6_;clear n0_ n1_ n2_ n3_ n4_ n5_ n6_;clear hb hbox hg;have hnb12:=NB176_174.out;have hnc12:=NB174_176.out;have hcz13_0 : w11.cell? ⟨gb176,0,none⟩ = some (.int .i64 0):=(qh BK176.out 0).trans rfl;have hcz13_1 : w11.cell? ⟨gb176,1,none⟩ = some (.int .i64 0):=(qh BK176.out 1).trans rfl;have hcz13_2 : w11.cell? ⟨gb176,2,none⟩ = some (.int .i64 0):=(qh BK176.out 2).trans rfl;have hcz13_3 : w11.cell? ⟨gb176,3,none⟩ = some (.int .i64 0):=(qh BK176.out 3).trans rfl;have hcz13_4 : w11.cell? ⟨gb176,4,none⟩ = some (.int .i64 0):=(qh BK176.out 4).trans rfl;have hfz13_0:=qi BK176.out 0;have hfz13_1:=qi BK176.out 1;have hfz13_2:=qi BK176.out 2;have hfz13_3:=qi BK176.out 3;have hfz13_4:=qi BK176.out 4))
                go_ret
                exact ⟨by first|rfl|(simp [errW_none,errW_some] <;> rfl)|(simp [*,errW_none,errW_some] <;> rfl),by repeat (first|(with_reducible first|exact HB.out|apply qf|apply qa|apply qd|refine qg ?_ GE174.out|refine qg ?_ GE176.out)|exact HB.out)⟩
              · rw [if_neg c10] at H
                have c10b0 : (((rd_T148 l0_1 x12_1).f1) == a2) = false:=beq_eq_false_iff_ne.mpr c10
                have c10b1 : (((rd_T148 l0_1 x12_1).f1) != a2) = true:=bne_iff_ne.mpr c10
                by_cases c14 : ((rd_T148 l0_1 x12_1).f0) = a2
                · rw [if_pos c14] at H
                  have c14b0 : (((rd_T148 l0_1 x12_1).f0) == a2) = true:=beq_iff_eq.mpr c14
                  have c14b1 : (((rd_T148 l0_1 x12_1).f0) != a2) = false:=bne_eq_false_iff_eq.mpr c14
                  clear c14
                  by_cases c15 : ((rd_T148 l0_1 x12_1).f1) = a1
                  · rw [if_pos c15] at H
                    have c15b0 : (((rd_T148 l0_1 x12_1).f1) == a1) = true:=beq_iff_eq.mpr c15
                    have c15b1 : (((rd_T148 l0_1 x12_1).f1) != a1) = false:=bne_eq_false_iff_eq.mpr c15
                    clear c15
                    obtain rfl:=Option.some.inj H
                    have p175 : 0 ≤ (x12_1 : Int):=of_decide_eq_true (by first|(with_reducible assumption)|assumption)
                    have q175 : x12_1 < (l0_1.length : Int):=of_decide_eq_true (by first|(with_reducible assumption)|assumption)
                    obtain ⟨ad175,e175,hx175_0,hx175_1,hx175_2,hx175_3,hx175_4⟩:=at_T148 HR0_1.out x12_1 p175 q175
                    cases e175
                    replace hx175_0:=cb_ HB hx175_0
                    replace hx175_1:=cb_ HB hx175_1
                    replace hx175_2:=cb_ HB hx175_2
                    replace hx175_3:=cb_ HB hx175_3
                    replace hx175_4:=cb_ HB hx175_4
                    replace p175:=eq_true p175
                    replace q175:=eq_true q175
                    go_wp2_with (first|((with_reducible refine gate_dst (N:=8) rfl ?_);refine box_event ?hg (N:=8) ?hd (cs:=#[.int .i64 0,.int .i64 0,.int .i64 0,.int .i64 0,.int .i64 0]) (t:=148) ?hr ?_;(case hd=>rfl);(case hg=>rfl);(case hr=>first|(go_simp;done)|(go_simp;rfl));intro gb176 hg w16 hbox hb;have n0_:=bb_ BK174 hb;have n1_:=hs_ HB hb;have n2_:=qn.mk (hbox);have n3_:=qn.mk ((by rw [hg];exact (qj (by repeat (first|(with_reducible first|exact HB.out|apply qf|apply qa|apply qd|refine qg ?_ GE174.out)|exact HB.out))) : w.heap.size ≤ gb176));have n4_:=qn.mk ((by rw [hg];exact (qj (by repeat (first|(with_reducible first|exact HB.out|apply qf|apply qa|apply qd|refine qg ?_ GE174.out)|exact HB.out))) : w.heap.size ≤ gb176));have n5_:=qn.mk ((by rw [hg];exact nl_ BK174 : gb174 ≠ gb176));have n6_:=qn.mk ((by rw [hg];exact ng_ BK174 : gb176 ≠ gb174));clear BK174;clear HB;have BK174:=n0_;have HB:=n1_;have BK176:=n2_;have GW176:=n3_;have GE176:=n4_;have NB174_176:=n5_;have NB176_174:=n6_;clear n0_ n1_ n2_ n3_ n4_ n5_ n6_;clear hb hbox hg;have hnb17:=NB176_174.out;have hnc17:=NB174_176.out;have hcz18_0 : w16.cell? ⟨gb176,0,none⟩ = some (.int .i64 0):=(qh BK176.out 0).trans rfl;have hcz18_1 : w16.cell? ⟨gb176,1,none⟩ = some (.int .i64 0):=(qh BK176.out 1).trans rfl;have hcz18_2 : w16.cell? ⟨gb176,2,none⟩ = some (.int .i64 0):=(qh BK176.out 2).trans rfl;have hcz18_3 : w16.cell? ⟨gb176,3,none⟩ = some (.int .i64 0):=(qh BK176.out 3).trans rfl;have hcz18_4 : w16.cell? ⟨gb176,4,none⟩ = some (.int .i64 0):=(qh BK176.out 4).trans rfl;have hfz18_0:=qi BK176.out 0;have hfz18_1:=qi BK176.out 1;have hfz18_2:=qi BK176.out 2;have hfz18_3:=qi BK176.out 3;have hfz18_4:=qi BK176.out 4))
                    go_ret
                    exact ⟨by first|rfl|(simp [errW_none,errW_some] <;> rfl)|(simp [*,errW_none,errW_some] <;> rfl),by repeat (first|(with_reducible first|exact HB.out|apply qf|apply qa|apply qd|refine qg ?_ GE174.out|refine qg ?_ GE176.out)|exact HB.out)⟩
                  · rw [if_neg c15] at H
                    have c15b0 : (((rd_T148 l0_1 x12_1).f1) == a1) = false:=beq_eq_false_iff_ne.mpr c15
                    have c15b1 : (((rd_T148 l0_1 x12_1).f1) != a1) = true:=bne_iff_ne.mpr c15
                    have H':=qn.mk H
                    clear H
                    have p175 : 0 ≤ (x12_1 : Int):=of_decide_eq_true (by first|(with_reducible assumption)|assumption)
                    have q175 : x12_1 < (l0_1.length : Int):=of_decide_eq_true (by first|(with_reducible assumption)|assumption)
                    obtain ⟨ad175,e175,hx175_0,hx175_1,hx175_2,hx175_3,hx175_4⟩:=at_T148 HR0_1.out x12_1 p175 q175
                    cases e175
                    replace hx175_0:=cb_ HB hx175_0
                    replace hx175_1:=cb_ HB hx175_1
                    replace hx175_2:=cb_ HB hx175_2
                    replace hx175_3:=cb_ HB hx175_3
                    replace hx175_4:=cb_ HB hx175_4
                    replace p175:=eq_true p175
                    replace q175:=eq_true q175
                    go_wp2_with (first|((with_reducible refine gate_dst (N:=8) rfl ?_);refine box_event ?hg (N:=8) ?hd (cs:=#[.int .i64 0,.int .i64 0,.int .i64 0,.int .i64 0,.int .i64 0]) (t:=148) ?hr ?_;(case hd=>rfl);(case hg=>rfl);(case hr=>first|(go_simp;done)|(go_simp;rfl));intro gb176 hg w19 hbox hb;have n0_:=bb_ BK174 hb;have n1_:=hs_ HB hb;have n2_:=qn.mk (hbox);have n3_:=qn.mk ((by rw [hg];exact (qj (by repeat (first|(with_reducible first|exact HB.out|apply qf|apply qa|apply qd|refine qg ?_ GE174.out)|exact HB.out))) : w.heap.size ≤ gb176));have n4_:=qn.mk ((by rw [hg];exact (qj (by repeat (first|(with_reducible first|exact HB.out|apply qf|apply qa|apply qd|refine qg ?_ GE174.out)|exact HB.out))) : w.heap.size ≤ gb176));have n5_:=qn.mk ((by rw [hg];exact nl_ BK174 : gb174 ≠ gb176));have n6_:=qn.mk ((by rw [hg];exact ng_ BK174 : gb176 ≠ gb174));clear BK174;clear HB;have BK174:=n0_;have HB:=n1_;have BK176:=n2_;have GW176:=n3_;have GE176:=n4_;have NB174_176:=n5_;have NB176_174:=n6_;clear n0_ n1_ n2_ n3_ n4_ n5_ n6_;clear hb hbox hg;have hnb20:=NB176_174.out;have hnc20:=NB174_176.out;have hcz21_0 : w19.cell? ⟨gb176,0,none⟩ = some (.int .i64 0):=(qh BK176.out 0).trans rfl;have hcz21_1 : w19.cell? ⟨gb176,1,none⟩ = some (.int .i64 0):=(qh BK176.out 1).trans rfl;have hcz21_2 : w19.cell? ⟨gb176,2,none⟩ = some (.int .i64 0):=(qh BK176.out 2).trans rfl;have hcz21_3 : w19.cell? ⟨gb176,3,none⟩ = some (.int .i64 0):=(qh BK176.out 3).trans rfl;have hcz21_4 : w19.cell? ⟨gb176,4,none⟩ = some (.int .i64 0):=(qh BK176.out 4).trans rfl;have hfz21_0:=qi BK176.out 0;have hfz21_1:=qi BK176.out 1;have hfz21_2:=qi BK176.out 2;have hfz21_3:=qi BK176.out 3;have hfz21_4:=qi BK176.out 4))
                    go_roundg k1
                    case measure=>have:=HK1.out;omega
                    case rel=>exact ⟨(wrap64 (x12_1 + 1)),(by first|rfl|(simp;done)|(simp [*];done)),H',⟨by have:=HK1.out;omega⟩,⟨by (with_reducible repeat (first|refine qb ?_ _|refine qe ?_|refine qc ?_ _));refine blk_far ?_ NB174_176.out _;(with_reducible repeat (first|refine qb ?_ _|refine qe ?_|refine qc ?_ _));refine blk_far ?_ NB174_176.out _;(with_reducible repeat (first|refine qb ?_ _|refine qe ?_|refine qc ?_ _));refine blk_far ?_ NB174_176.out _;(with_reducible repeat (first|refine qb ?_ _|refine qe ?_|refine qc ?_ _));refine blk_far ?_ NB174_176.out _;(with_reducible repeat (first|refine qb ?_ _|refine qe ?_|refine qc ?_ _));refine blk_far ?_ NB174_176.out _;(with_reducible repeat (first|refine qb ?_ _|refine qe ?_|refine qc ?_ _));exact BK174.out⟩,⟨by repeat (first|(with_reducible first|exact HB.out|apply qf|apply qa|apply qd|refine qg ?_ GE174.out|refine qg ?_ GE176.out)|exact HB.out)⟩⟩
                · rw [if_neg c14] at H
                  have c14b0 : (((rd_T148 l0_1 x12_1).f0) == a2) = false:=beq_eq_false_iff_ne.mpr c14
                  have c14b1 : (((rd_T148 l0_1 x12_1).f0) != a2) = true:=bne_iff_ne.mpr c14
                  have H':=qn.mk H
                  clear H
                  have p175 : 0 ≤ (x12_1 : Int):=of_decide_eq_true (by first|(with_reducible assumption)|assumption)
                  have q175 : x12_1 < (l0_1.length : Int):=of_decide_eq_true (by first|(with_reducible assumption)|assumption)
                  obtain ⟨ad175,e175,hx175_0,hx175_1,hx175_2,hx175_3,hx175_4⟩:=at_T148 HR0_1.out x12_1 p175 q175
                  cases e175
                  replace hx175_0:=cb_ HB hx175_0
                  replace hx175_1:=cb_ HB hx175_1
                  replace hx175_2:=cb_ HB hx175_2
                  replace hx175_3:=cb_ HB hx175_3
                  replace hx175_4:=cb_ HB hx175_4
                  replace p175:=eq_true p175
                  replace q175:=eq_true q175
                  go_wp2_with (first|((with_reducible refine gate_dst (N:=8) rfl ?_);refine box_event ?hg (N:=8) ?hd (cs:=#[.int .i64 0,.int .i64 0,.int .i64 0,.int .i64 0,.int .i64 0]) (t:=148) ?hr ?_;(case hd=>rfl);(case hg=>rfl);(case hr=>first|(go_simp;done)|(go_simp;rfl));intro gb176 hg w22 hbox hb;have n0_:=bb_ BK174 hb;have n1_:=hs_ HB hb;have n2_:=qn.mk (hbox);have n3_:=qn.mk ((by rw [hg];exact (qj (by repeat (first|(with_reducible first|exact HB.out|apply qf|apply qa|apply qd|refine qg ?_ GE174.out)|exact HB.out))) : w.heap.size ≤ gb176));have n4_:=qn.mk ((by rw [hg];exact (qj (by repeat (first|(with_reducible first|exact HB.out|apply qf|apply qa|apply qd|refine qg ?_ GE174.out)|exact HB.out))) : w.heap.size ≤ gb176));have n5_:=qn.mk ((by rw [hg];exact nl_ BK174 : gb174 ≠ gb176));have n6_:=qn.mk ((by rw [hg];exact ng_ BK174 : gb176 ≠ gb174));clear BK174;clear HB;have BK174:=n0_;have HB:=n1_;have BK176:=n2_;have GW176:=n3_;have GE176:=n4_;have NB174_176:=n5_;have NB176_174:=n6_;clear n0_ n1_ n2_ n3_ n4_ n5_ n6_;clear hb hbox hg;have hnb23:=NB176_174.out;have hnc23:=NB174_176.out;have hcz24_0 : w22.cell? ⟨gb176,0,none⟩ = some (.int .i64 0):=(qh BK176.out 0).trans rfl;have hcz24_1 : w22.cell? ⟨gb176,1,none⟩ = some (.int .i64 0):=(qh BK176.out 1).trans rfl;have hcz24_2 : w22.cell? ⟨gb176,2,none⟩ = some (.int .i64 0):=(qh BK176.out 2).trans rfl;have hcz24_3 : w22.cell? ⟨gb176,3,none⟩ = some (.int .i64 0):=(qh BK176.out 3).trans rfl;have hcz24_4 : w22.cell? ⟨gb176,4,none⟩ = some (.int .i64 0):=(qh BK176.out 4).trans rfl;have hfz24_0:=qi BK176.out 0;have hfz24_1:=qi BK176.out 1;have hfz24_2:=qi BK176.out 2;have hfz24_3:=qi BK176.out 3;have hfz24_4:=qi BK176.out 4))
                  go_roundg k1
                  case measure=>have:=HK1.out;omega
                  case rel=>exact ⟨(wrap64 (x12_1 + 1)),(by first|rfl|(simp;done)|(simp [*];done)),H',⟨by have:=HK1.out;omega⟩,⟨by (with_reducible repeat (first|refine qb ?_ _|refine qe ?_|refine qc ?_ _));refine blk_far ?_ NB174_176.out _;(with_reducible repeat (first|refine qb ?_ _|refine qe ?_|refine qc ?_ _));refine blk_far ?_ NB174_176.out _;(with_reducible repeat (first|refine qb ?_ _|refine qe ?_|refine qc ?_ _));refine blk_far ?_ NB174_176.out _;(with_reducible repeat (first|refine qb ?_ _|refine qe ?_|refine qc ?_ _));refine blk_far ?_ NB174_176.out _;(with_reducible repeat (first|refine qb ?_ _|refine qe ?_|refine qc ?_ _));refine blk_far ?_ NB174_176.out _;(with_reducible repeat (first|refine qb ?_ _|refine qe ?_|refine qc ?_ _));exact BK174.out⟩,⟨by repeat (first|(with_reducible first|exact HB.out|apply qf|apply qa|apply qd|refine qg ?_ GE174.out|refine qg ?_ GE176.out)|exact HB.out)⟩⟩
            · rw [if_neg c9] at H
              have c9b0 : (((rd_T148 l0_1 x12_1).f0) == a1) = false:=beq_eq_false_iff_ne.mpr c9
              have c9b1 : (((rd_T148 l0_1 x12_1).f0) != a1) = true:=bne_iff_ne.mpr c9
              by_cases c25 : ((rd_T148 l0_1 x12_1).f0) = a2
              · rw [if_pos c25] at H
                have c25b0 : (((rd_T148 l0_1 x12_1).f0) == a2) = true:=beq_iff_eq.mpr c25
                have c25b1 : (((rd_T148 l0_1 x12_1).f0) != a2) = false:=bne_eq_false_iff_eq.mpr c25
                clear c25
                by_cases c26 : ((rd_T148 l0_1 x12_1).f1) = a1
                · rw [if_pos c26] at H
                  have c26b0 : (((rd_T148 l0_1 x12_1).f1) == a1) = true:=beq_iff_eq.mpr c26
                  have c26b1 : (((rd_T148 l0_1 x12_1).f1) != a1) = false:=bne_eq_false_iff_eq.mpr c26
                  clear c26
                  obtain rfl:=Option.some.inj H
                  have p175 : 0 ≤ (x12_1 : Int):=of_decide_eq_true (by first|(with_reducible assumption)|assumption)
                  have q175 : x12_1 < (l0_1.length : Int):=of_decide_eq_true (by first|(with_reducible assumption)|assumption)
                  obtain ⟨ad175,e175,hx175_0,hx175_1,hx175_2,hx175_3,hx175_4⟩:=at_T148 HR0_1.out x12_1 p175 q175
                  cases e175
                  replace hx175_0:=cb_ HB hx175_0
                  replace hx175_1:=cb_ HB hx175_1
                  replace hx175_2:=cb_ HB hx175_2
                  replace hx175_3:=cb_ HB hx175_3
                  replace hx175_4:=cb_ HB hx175_4
                  replace p175:=eq_true p175
                  replace q175:=eq_true q175
                  go_wp2_with (first|((with_reducible refine gate_dst (N:=8) rfl ?_);refine box_event ?hg (N:=8) ?hd (cs:=#[.int .i64 0,.int .i64 0,.int .i64 0,.int .i64 0,.int .i64 0]) (t:=148) ?hr ?_;(case hd=>rfl);(case hg=>rfl);(case hr=>first|(go_simp;done)|(go_simp;rfl));intro gb176 hg w27 hbox hb;have n0_:=bb_ BK174 hb;have n1_:=hs_ HB hb;have n2_:=qn.mk (hbox);have n3_:=qn.mk ((by rw [hg];exact (qj (by repeat (first|(with_reducible first|exact HB.out|apply qf|apply qa|apply qd|refine qg ?_ GE174.out)|exact HB.out))) : w.heap.size ≤ gb176));have n4_:=qn.mk ((by rw [hg];exact (qj (by repeat (first|(with_reducible first|exact HB.out|apply qf|apply qa|apply qd|refine qg ?_ GE174.out)|exact HB.out))) : w.heap.size ≤ gb176));have n5_:=qn.mk ((by rw [hg];exact nl_ BK174 : gb174 ≠ gb176));have n6_:=qn.mk ((by rw [hg];exact ng_ BK174 : gb176 ≠ gb174));clear BK174;clear HB;have BK174:=n0_;have HB:=n1_;have BK176:=n2_;have GW176:=n3_;have GE176:=n4_;have NB174_176:=n5_;have NB176_174:=n6_;clear n0_ n1_ n2_ n3_ n4_ n5_ n6_;clear hb hbox hg;have hnb28:=NB176_174.out;have hnc28:=NB174_176.out;have hcz29_0 : w27.cell? ⟨gb176,0,none⟩ = some (.int .i64 0):=(qh BK176.out 0).trans rfl;have hcz29_1 : w27.cell? ⟨gb176,1,none⟩ = some (.int .i64 0):=(qh BK176.out 1).trans rfl;have hcz29_2 : w27.cell? ⟨gb176,2,none⟩ = some (.int .i64 0):=(qh BK176.out 2).trans rfl;have hcz29_3 : w27.cell? ⟨gb176,3,none⟩ = some (.int .i64 0):=(qh BK176.out 3).trans rfl;have hcz29_4 : w27.cell? ⟨gb176,4,none⟩ = some (.int .i64 0):=(qh BK176.out 4).trans rfl;have hfz29_0:=qi BK176.out 0;have hfz29_1:=qi BK176.out 1;have hfz29_2:=qi BK176.out 2;have hfz29_3:=qi BK176.out 3;have hfz29_4:=qi BK176.out 4))
                  go_ret
                  exact ⟨by first|rfl|(simp [errW_none,errW_some] <;> rfl)|(simp [*,errW_none,errW_some] <;> rfl),by repeat (first|(with_reducible first|exact HB.out|apply qf|apply qa|apply qd|refine qg ?_ GE174.out|refine qg ?_ GE176.out)|exact HB.out)⟩
                · rw [if_neg c26] at H
                  have c26b0 : (((rd_T148 l0_1 x12_1).f1) == a1) = false:=beq_eq_false_iff_ne.mpr c26
                  have c26b1 : (((rd_T148 l0_1 x12_1).f1) != a1) = true:=bne_iff_ne.mpr c26
                  have H':=qn.mk H
                  clear H
                  have p175 : 0 ≤ (x12_1 : Int):=of_decide_eq_true (by first|(with_reducible assumption)|assumption)
                  have q175 : x12_1 < (l0_1.length : Int):=of_decide_eq_true (by first|(with_reducible assumption)|assumption)
                  obtain ⟨ad175,e175,hx175_0,hx175_1,hx175_2,hx175_3,hx175_4⟩:=at_T148 HR0_1.out x12_1 p175 q175
                  cases e175
                  replace hx175_0:=cb_ HB hx175_0
                  replace hx175_1:=cb_ HB hx175_1
                  replace hx175_2:=cb_ HB hx175_2
                  replace hx175_3:=cb_ HB hx175_3
                  replace hx175_4:=cb_ HB hx175_4
                  replace p175:=eq_true p175
                  replace q175:=eq_true q175
                  go_wp2_with (first|((with_reducible refine gate_dst (N:=8) rfl ?_);refine box_event ?hg (N:=8) ?hd (cs:=#[.int .i64 0,.int .i64 0,.int .i64 0,.int .i64 0,.int .i64 0]) (t:=148) ?hr ?_;(case hd=>rfl);(case hg=>rfl);(case hr=>first|(go_simp;done)|(go_simp;rfl));intro gb176 hg w30 hbox hb;have n0_:=bb_ BK174 hb;have n1_:=hs_ HB hb;have n2_:=qn.mk (hbox);have n3_:=qn.mk ((by rw [hg];exact (qj (by repeat (first|(with_reducible first|exact HB.out|apply qf|apply qa|apply qd|refine qg ?_ GE174.out)|exact HB.out))) : w.heap.size ≤ gb176));have n4_:=qn.mk ((by rw [hg];exact (qj (by repeat (first|(with_reducible first|exact HB.out|apply qf|apply qa|apply qd|refine qg ?_ GE174.out)|exact HB.out))) : w.heap.size ≤ gb176));have n5_:=qn.mk ((by rw [hg];exact nl_ BK174 : gb174 ≠ gb176));have n6_:=qn.mk ((by rw [hg];exact ng_ BK174 : gb176 ≠ gb174));clear BK174;clear HB;have BK174:=n0_;have HB:=n1_;have BK176:=n2_;have GW176:=n3_;have GE176:=n4_;have NB174_176:=n5_;have NB176_174:=n6_;clear n0_ n1_ n2_ n3_ n4_ n5_ n6_;clear hb hbox hg;have hnb31:=NB176_174.out;have hnc31:=NB174_176.out;have hcz32_0 : w30.cell? ⟨gb176,0,none⟩ = some (.int .i64 0):=(qh BK176.out 0).trans rfl;have hcz32_1 : w30.cell? ⟨gb176,1,none⟩ = some (.int .i64 0):=(qh BK176.out 1).trans rfl;have hcz32_2 : w30.cell? ⟨gb176,2,none⟩ = some (.int .i64 0):=(qh BK176.out 2).trans rfl;have hcz32_3 : w30.cell? ⟨gb176,3,none⟩ = some (.int .i64 0):=(qh BK176.out 3).trans rfl;have hcz32_4 : w30.cell? ⟨gb176,4,none⟩ = some (.int .i64 0):=(qh BK176.out 4).trans rfl;have hfz32_0:=qi BK176.out 0;have hfz32_1:=qi BK176.out 1;have hfz32_2:=qi BK176.out 2;have hfz32_3:=qi BK176.out 3;have hfz32_4:=qi BK176.out 4))
                  go_roundg k1
                  case measure=>have:=HK1.out;omega
                  case rel=>exact ⟨(wrap64 (x12_1 + 1)),(by first|rfl|(simp;done)|(simp [*];done)),H',⟨by have:=HK1.out;omega⟩,⟨by (with_reducible repeat (first|refine qb ?_ _|refine qe ?_|refine qc ?_ _));refine blk_far ?_ NB174_176.out _;(with_reducible repeat (first|refine qb ?_ _|refine qe ?_|refine qc ?_ _));refine blk_far ?_ NB174_176.out _;(with_reducible repeat (first|refine qb ?_ _|refine qe ?_|refine qc ?_ _));refine blk_far ?_ NB174_176.out _;(with_reducible repeat (first|refine qb ?_ _|refine qe ?_|refine qc ?_ _));refine blk_far ?_ NB174_176.out _;(with_reducible repeat (first|refine qb ?_ _|refine qe ?_|refine qc ?_ _));refine blk_far ?_ NB174_176.out _;(with_reducible repeat (first|refine qb ?_ _|refine qe ?_|refine qc ?_ _));exact BK174.out⟩,⟨by repeat (first|(with_reducible first|exact HB.out|apply qf|apply qa|apply qd|refine qg ?_ GE174.out|refine qg ?_ GE176.out)|exact HB.out)⟩⟩
              · rw [if_neg c25] at H
                have c25b0 : (((rd_T148 l0_1 x12_1).f0) == a2) = false:=beq_eq_false_iff_ne.mpr c25
                have c25b1 : (((rd_T148 l0_1 x12_1).f0) != a2) = true:=bne_iff_ne.mpr c25
                have H':=qn.mk H
                clear H
                have p175 : 0 ≤ (x12_1 : Int):=of_decide_eq_true (by first|(with_reducible assumption)|assumption)
                have q175 : x12_1 < (l0_1.length : Int):=of_decide_eq_true (by first|(with_reducible assumption)|assumption)
                obtain ⟨ad175,e175,hx175_0,hx175_1,hx175_2,hx175_3,hx175_4⟩:=at_T148 HR0_1.out x12_1 p175 q175
                cases e175
                replace hx175_0:=cb_ HB hx175_0
                replace hx175_1:=cb_ HB hx175_1
                replace hx175_2:=cb_ HB hx175_2
                replace hx175_3:=cb_ HB hx175_3
                replace hx175_4:=cb_ HB hx175_4
                replace p175:=eq_true p175
                replace q175:=eq_true q175
                go_wp2_with (first|((with_reducible refine gate_dst (N:=8) rfl ?_);refine box_event ?hg (N:=8) ?hd (cs:=#[.int .i64 0,.int .i64 0,.int .i64 0,.int .i64 0,.int .i64 0]) (t:=148) ?hr ?_;(case hd=>rfl);(case hg=>rfl);(case hr=>first|(go_simp;done)|(go_simp;rfl));intro gb176 hg w33 hbox hb;have n0_:=bb_ BK174 hb;have n1_:=hs_ HB hb;have n2_:=qn.mk (hbox);have n3_:=qn.mk ((by rw [hg];exact (qj (by repeat (first|(with_reducible first|exact HB.out|apply qf|apply qa|apply qd|refine qg ?_ GE174.out)|exact HB.out))) : w.heap.size ≤ gb176));have n4_:=qn.mk ((by rw [hg];exact (qj (by repeat (first|(with_reducible first|exact HB.out|apply qf|apply qa|apply qd|refine qg ?_ GE174.out)|exact HB.out))) : w.heap.size ≤ gb176));have n5_:=qn.mk ((by rw [hg];exact nl_ BK174 : gb174 ≠ gb176));have n6_:=qn.mk ((by rw [hg];exact ng_ BK174 : gb176 ≠ gb174));clear BK174;clear HB;have BK174:=n0_;have HB:=n1_;have BK176:=n2_;have GW176:=n3_;have GE176:=n4_;have NB174_176:=n5_;have NB176_174:=n6_;clear n0_ n1_ n2_ n3_ n4_ n5_ n6_;clear hb hbox hg;have hnb34:=NB176_174.out;have hnc34:=NB174_176.out;have hcz35_0 : w33.cell? ⟨gb176,0,none⟩ = some (.int .i64 0):=(qh BK176.out 0).trans rfl;have hcz35_1 : w33.cell? ⟨gb176,1,none⟩ = some (.int .i64 0):=(qh BK176.out 1).trans rfl;have hcz35_2 : w33.cell? ⟨gb176,2,none⟩ = some (.int .i64 0):=(qh BK176.out 2).trans rfl;have hcz35_3 : w33.cell? ⟨gb176,3,none⟩ = some (.int .i64 0):=(qh BK176.out 3).trans rfl;have hcz35_4 : w33.cell? ⟨gb176,4,none⟩ = some (.int .i64 0):=(qh BK176.out 4).trans rfl;have hfz35_0:=qi BK176.out 0;have hfz35_1:=qi BK176.out 1;have hfz35_2:=qi BK176.out 2;have hfz35_3:=qi BK176.out 3;have hfz35_4:=qi BK176.out 4))
                go_roundg k1
                case measure=>have:=HK1.out;omega
                case rel=>exact ⟨(wrap64 (x12_1 + 1)),(by first|rfl|(simp;done)|(simp [*];done)),H',⟨by have:=HK1.out;omega⟩,⟨by (with_reducible repeat (first|refine qb ?_ _|refine qe ?_|refine qc ?_ _));refine blk_far ?_ NB174_176.out _;(with_reducible repeat (first|refine qb ?_ _|refine qe ?_|refine qc ?_ _));refine blk_far ?_ NB174_176.out _;(with_reducible repeat (first|refine qb ?_ _|refine qe ?_|refine qc ?_ _));refine blk_far ?_ NB174_176.out _;(with_reducible repeat (first|refine qb ?_ _|refine qe ?_|refine qc ?_ _));refine blk_far ?_ NB174_176.out _;(with_reducible repeat (first|refine qb ?_ _|refine qe ?_|refine qc ?_ _));refine blk_far ?_ NB174_176.out _;(with_reducible repeat (first|refine qb ?_ _|refine qe ?_|refine qc ?_ _));exact BK174.out⟩,⟨by repeat (first|(with_reducible first|exact HB.out|apply qf|apply qa|apply qd|refine qg ?_ GE174.out|refine qg ?_ GE176.out)|exact HB.out)⟩⟩
          · rw [if_neg c8] at H
            exact absurd H (by simp)
        · rw [if_neg c7] at H
          exact absurd H (by simp)
      · rw [if_neg c6] at H
        have c6b0 : decide (x12_1 < (l0_1.length : Int)) = false:=decide_eq_false c6
        clear c6
        obtain rfl:=Option.some.inj H
        go_wp2
        go_ret
        exact ⟨by first|rfl|(simp [errW_none,errW_some] <;> rfl)|(simp [*,errW_none,errW_some] <;> rfl),by repeat (first|(with_reducible first|exact HB.out|apply qf|apply qa|apply qd|refine qg ?_ GE174.out)|exact HB.out)⟩

end Go.Proofs.Ytbonjmnpcklciaa.QFnExactInduced
