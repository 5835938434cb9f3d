/- Lean functions for the Go functions that the law FnBest reaches, and that each Go function comes to just its Lean function's answer; by a program of this session. -/
import Derived.Test.YtfmemcffbfahhaaZFnBestx0
namespace Go.Proofs.Ytfmemcffbfahhaa.QFnBest
open Go.RowKit Go.Proofs.YtfmemcffbfahhaaW.PrintWords Go.Proofs.YtfmemcffbfahhaaW.PrintLast Go.Proofs.YtfmemcffbfahhaaW.PrintMore
attribute [local go_sem] max2_int min2_int max_two min_two max_three min_three max_four min_four   -- for this text's walks alone
set_option linter.unusedVariables false
set_option linter.unusedSimpArgs false

/-! ### spec_l03In: function 114 -/
def spec_l03In.l0 : Nat → List Int → Int → Int → Option (Bool)
 | 0,_,_,_=>none
 | k + 1,x0,x1,x5=>if x5 < (x0.length : Int) then (if 0 ≤ x5 then (if (rd x0 x5) = x1 then (some true) else (spec_l03In.l0 k x0 x1 (wrap64 (x5 + 1)))) else (none)) else (some false)
def spec_l03In.f (k : Nat) (l0 : List Int) (a1 : Int) : Option (Bool):=spec_l03In.l0 k l0 a1 0
theorem spec_l03In.mono_l : ∀ k,(∀ y0 y1 y2,LeO (spec_l03In.l0 k y0 y1 y2) (spec_l03In.l0 (k + 1) y0 y1 y2))
 | 0=>fun _ _ _ r h=>by simp [spec_l03In.l0] at h
 | k + 1=>by
  have ih0:=spec_l03In.mono_l k
  ·intro y0 y1 y2
   unfold spec_l03In.l0
   repeat' first
   | (with_reducible exact ih0 _ _ _)
   | (with_reducible exact LeO.refl _)
   | (with_reducible exact LeO.none _)
   | (with_reducible refine LeO.ite ?_ ?_)
   | (with_reducible refine LeO.bind ?_ (fun _=>?_))
   | exact ih0 _ _ _
   | exact LeO.none _
   | refine LeO.ite ?_ ?_
   | refine LeO.bind ?_ (fun _=>?_)
theorem spec_l03In.mono : ∀ a0 a1 k,LeO (spec_l03In.f k a0 a1) (spec_l03In.f (k + 1) a0 a1):=by
 intro a0 a1 k
 have ih0:=spec_l03In.mono_l k
 unfold spec_l03In.f
 repeat' first
   | (with_reducible exact ih0 _ _ _)
   | (with_reducible exact LeO.refl _)
   | (with_reducible exact LeO.none _)
   | (with_reducible refine LeO.ite ?_ ?_)
   | (with_reducible refine LeO.bind ?_ (fun _=>?_))
   | exact ih0 _ _ _
   | exact LeO.none _
   | refine LeO.ite ?_ ?_
   | refine LeO.bind ?_ (fun _=>?_)
set_option maxHeartbeats 8000000 in
set_option maxRecDepth 100000 in
theorem spec_l03In.calls (k : Nat) (A0 : Option Addr) (c0 : Nat) (l0 : List Int) (a1 : Int) (r : Bool) (w : World) (hr0 : Kd.C (Kd.int .i64) w A0 l0.length l0) (hc0 : l0.length ≤ c0) (h : spec_l03In.f k l0 a1 = some r) :
  Calls Try.prog 114 #[.slice A0 l0.length c0,.int .i64 a1] w fun e w'=>e = .returned (.bool r) ∧ Drawn0 w w':=by
 have HR0:=qn.mk hr0
 have HC0:=qn.mk hc0
 clear hr0 hc0
 have H : (spec_l03In.l0 k l0 a1 0) = some r:=h
 clear h
 have H':=qn.mk H
 clear H
 go_enter Try.func114,Try.ntmps114
 go_wp2
 go_loopg [5] k (fun kq v5 w'=>∃ (x5_1 : Int),v5 = .int .i64 x5_1 ∧ qn (spec_l03In.l0 kq l0 a1 x5_1 = some r) ∧ qn (kq ≤ k) ∧ Drawn0 w w')
 case atStart=>exact ⟨(0),(by first|rfl|(simp;done)|(simp [*];done)),H',⟨Nat.le_refl _⟩,by repeat (first|exact Drawn0.refl _|apply Drawn0.step)⟩
 case round =>
  clear H'
  try clear c1
  try clear p2
  obtain ⟨x5_1,rfl,HA,HK1,⟨m1,rfl⟩⟩:=hrel
  cases gk with
  | zero=>exact absurd HA.out (by simp [spec_l03In.l0])
  | succ k1 =>
   have H:=HA.out
   clear HA
   simp only [spec_l03In.l0] at H
   by_cases c3 : x5_1 < (l0.length : Int)
   ·rw [if_pos c3] at H
    have c3b0 : decide (x5_1 < (l0.length : Int)) = true:=decide_eq_true c3
    clear c3
    by_cases c4 : 0 ≤ x5_1
    ·rw [if_pos c4] at H
     have c4b0 : decide (0 ≤ x5_1) = true:=decide_eq_true c4
     clear c4
     by_cases c5 : (rd l0 x5_1) = a1
     ·rw [if_pos c5] at H
      have c5b0 : ((rd l0 x5_1) == a1) = true:=beq_iff_eq.mpr c5
      have c5b1 : ((rd l0 x5_1) != a1) = false:=bne_eq_false_iff_eq.mpr c5
      clear c5
      obtain rfl:=Option.some.inj H
      have p112 : 0 ≤ (x5_1 : Int):=of_decide_eq_true (by first|(with_reducible assumption)|assumption)
      have q112 : x5_1 < (l0.length : Int):=of_decide_eq_true (by first|(with_reducible assumption)|assumption)
      obtain ⟨ad112,e112,hx112_0⟩:=Kd.at_int HR0.out x5_1 p112 q112
      cases e112
      replace p112:=eq_true p112
      replace q112:=eq_true q112
      go_wp2
      go_ret
      exact ⟨by first|rfl|(simp;done)|(simp [*];done),by repeat (first|exact Drawn0.refl _|apply Drawn0.step)⟩
     ·rw [if_neg c5] at H
      have c5b0 : ((rd l0 x5_1) == a1) = false:=beq_eq_false_iff_ne.mpr c5
      have c5b1 : ((rd l0 x5_1) != a1) = true:=bne_iff_ne.mpr c5
      have H':=qn.mk H
      clear H
      have p112 : 0 ≤ (x5_1 : Int):=of_decide_eq_true (by first|(with_reducible assumption)|assumption)
      have q112 : x5_1 < (l0.length : Int):=of_decide_eq_true (by first|(with_reducible assumption)|assumption)
      obtain ⟨ad112,e112,hx112_0⟩:=Kd.at_int HR0.out x5_1 p112 q112
      cases e112
      replace p112:=eq_true p112
      replace q112:=eq_true q112
      go_wp2
      go_roundg k1
      case measure=>have:=HK1.out;omega
      case rel=>exact ⟨(wrap64 (x5_1 + 1)),(by first|rfl|(simp;done)|(simp [*];done)),H',⟨by have:=HK1.out;omega⟩,by repeat (first|exact Drawn0.refl _|apply Drawn0.step)⟩
    ·rw [if_neg c4] at H
     exact absurd H (by simp)
   ·rw [if_neg c3] at H
    have c3b0 : decide (x5_1 < (l0.length : Int)) = false:=decide_eq_false c3
    clear c3
    obtain rfl:=Option.some.inj H
    go_wp2
    go_ret
    exact ⟨by first|rfl|(simp;done)|(simp [*];done),by repeat (first|exact Drawn0.refl _|apply Drawn0.step)⟩

/-! ### spec_l08At: function 115 -/
def spec_l08At.l0 : Nat → Int → Int → Int → Int → List (S36) → Option (Int)
 | 0,_,_,_,_,_=>none
 | k + 1,x1,x2,x7,x114000,x114001=>if x7 < (x114001.length : Int) then (if 0 ≤ x7 then (if ((rd_T36 x114001 x7).f0) = x1 then (if ((rd_T36 x114001 x7).f1) = x2 then (some x7) else (if ((rd_T36 x114001 x7).f0) = x2 then (if ((rd_T36 x114001 x7).f1) = x1 then (some x7) else (spec_l08At.l0 k x1 x2 (wrap64 (x7 + 1)) x114000 x114001)) else (spec_l08At.l0 k x1 x2 (wrap64 (x7 + 1)) x114000 x114001))) else (if ((rd_T36 x114001 x7).f0) = x2 then (if ((rd_T36 x114001 x7).f1) = x1 then (some x7) else (spec_l08At.l0 k x1 x2 (wrap64 (x7 + 1)) x114000 x114001)) else (spec_l08At.l0 k x1 x2 (wrap64 (x7 + 1)) x114000 x114001))) else (none)) else (some (-1))
def spec_l08At.f (k : Nat) (a0_0 : Int) (l0_1 : List (S36)) (a1 : Int) (a2 : Int) : Option (Int):=spec_l08At.l0 k a1 a2 0 a0_0 l0_1
theorem spec_l08At.mono_l : ∀ k,(∀ y0 y1 y2 y3 y4,LeO (spec_l08At.l0 k y0 y1 y2 y3 y4) (spec_l08At.l0 (k + 1) y0 y1 y2 y3 y4))
 | 0=>fun _ _ _ _ _ r h=>by simp [spec_l08At.l0] at h
 | k + 1=>by
  have ih0:=spec_l08At.mono_l k
  ·intro y0 y1 y2 y3 y4
   unfold spec_l08At.l0
   repeat' first
   | (with_reducible exact ih0 _ _ _ _ _)
   | (with_reducible exact LeO.refl _)
   | (with_reducible exact LeO.none _)
   | (with_reducible refine LeO.ite ?_ ?_)
   | (with_reducible refine LeO.bind ?_ (fun _=>?_))
   | exact ih0 _ _ _ _ _
   | exact LeO.none _
   | refine LeO.ite ?_ ?_
   | refine LeO.bind ?_ (fun _=>?_)
theorem spec_l08At.mono : ∀ a0 a1 a2 a3 k,LeO (spec_l08At.f k a0 a1 a2 a3) (spec_l08At.f (k + 1) a0 a1 a2 a3):=by
 intro a0 a1 a2 a3 k
 have ih0:=spec_l08At.mono_l k
 unfold spec_l08At.f
 repeat' first
   | (with_reducible exact ih0 _ _ _ _ _)
   | (with_reducible exact LeO.refl _)
   | (with_reducible exact LeO.none _)
   | (with_reducible refine LeO.ite ?_ ?_)
   | (with_reducible refine LeO.bind ?_ (fun _=>?_))
   | exact ih0 _ _ _ _ _
   | exact LeO.none _
   | refine LeO.ite ?_ ?_
   | refine LeO.bind ?_ (fun _=>?_)
set_option maxHeartbeats 8000000 in
set_option maxRecDepth 100000 in
theorem spec_l08At.calls (k : Nat) (a0_0 : Int) (A0_1 : Option Addr) (c0_1 : Nat) (l0_1 : List (S36)) (a1 : Int) (a2 : Int) (r : Int) (w : World) (hr0_1 : Kd.C k36 w A0_1 l0_1.length l0_1) (hc0_1 : l0_1.length ≤ c0_1) (h : spec_l08At.f k a0_0 l0_1 a1 a2 = some r) :
  Calls Try.prog 115 #[.agg #[.int .i64 a0_0,.slice A0_1 l0_1.length c0_1],.int .i64 a1,.int .i64 a2] w fun e w'=>e = .returned (.int .i64 r) ∧ Below w.heap.size w w':=by
 have hu26:=Try.underlying26
 have HR0_1:=qn.mk hr0_1
 have HC0_1:=qn.mk hc0_1
 clear hr0_1 hc0_1
 have HB:=qn.mk (Below.refl w.heap.size w)
 have H : (spec_l08At.l0 k a1 a2 0 a0_0 l0_1) = some r:=h
 clear h
 have H':=qn.mk H
 clear H
 go_enter Try.func115,Try.ntmps115
 go_wp2_with (first|((with_reducible refine gate_dst (N:=3) rfl ?_);refine box_event ?hg (N:=3) ?hd (cs:=#[.int .i64 a0_0,.slice A0_1 l0_1.length c0_1]) (t:=26) ?hr ?_;(case hd=>rfl);(case hg=>rfl);(case hr=>first|(go_simp;done)|(go_simp;rfl));intro gb113 hg w4 hbox hb;have n0_:=hs_ HB hb;have n1_:=qn.mk (hbox);have n2_:=qn.mk ((by rw [hg];exact (qj (by repeat (first|(with_reducible first|exact HB.out|apply qf|apply qa|apply qd)|exact HB.out))) : w.heap.size ≤ gb113));have n3_:=qn.mk ((by rw [hg];exact (qj (by repeat (first|(with_reducible first|exact HB.out|apply qf|apply qa|apply qd)|exact HB.out))) : w.heap.size ≤ gb113));clear HB;have HB:=n0_;have BK113:=n1_;have GW113:=n2_;have GE113:=n3_;clear n0_ n1_ n2_ n3_;clear hb hbox hg))
 go_loopg [7] k (fun kq v7 w'=>∃ (x7_1 : Int),v7 = .int .i64 x7_1 ∧ qn (spec_l08At.l0 kq a1 a2 x7_1 a0_0 l0_1 = some r) ∧ qn (kq ≤ k) ∧ qn (w'.heap[gb113]? = some (.cells #[.int .i64 a0_0,(.slice A0_1 l0_1.length c0_1)] 26 (0,0))) ∧ qn (Below w.heap.size w w'))
 case atStart=>exact ⟨(0),(by first|rfl|(simp;done)|(simp [*];done)),H',⟨Nat.le_refl _⟩,⟨by (with_reducible repeat (first|refine qb ?_ _|refine qe ?_|refine qc ?_ _));exact BK113.out⟩,⟨by repeat (first|(with_reducible first|exact HB.out|apply qf|apply qa|apply qd|refine qg ?_ GE113.out)|exact HB.out)⟩⟩
 case round =>
  clear H'
  try clear c1
  try clear p2
  obtain ⟨x7_1,rfl,HA,HK1,BK113,HB⟩:=hrel
  cases gk with
  | zero=>exact absurd HA.out (by simp [spec_l08At.l0])
  | succ k1 =>
   have H:=HA.out
   clear HA
   simp only [spec_l08At.l0] at H
   by_cases c5 : x7_1 < (l0_1.length : Int)
   ·rw [if_pos c5] at H
    have c5b0 : decide (x7_1 < (l0_1.length : Int)) = true:=decide_eq_true c5
    clear c5
    by_cases c6 : 0 ≤ x7_1
    ·rw [if_pos c6] at H
     have c6b0 : decide (0 ≤ x7_1) = true:=decide_eq_true c6
     clear c6
     by_cases c7 : ((rd_T36 l0_1 x7_1).f0) = a1
     ·rw [if_pos c7] at H
      have c7b0 : (((rd_T36 l0_1 x7_1).f0) == a1) = true:=beq_iff_eq.mpr c7
      have c7b1 : (((rd_T36 l0_1 x7_1).f0) != a1) = false:=bne_eq_false_iff_eq.mpr c7
      clear c7
      by_cases c8 : ((rd_T36 l0_1 x7_1).f1) = a2
      ·rw [if_pos c8] at H
       have c8b0 : (((rd_T36 l0_1 x7_1).f1) == a2) = true:=beq_iff_eq.mpr c8
       have c8b1 : (((rd_T36 l0_1 x7_1).f1) != a2) = false:=bne_eq_false_iff_eq.mpr c8
       clear c8
       obtain rfl:=Option.some.inj H
       have hcz9_0 : wr.cell? ⟨gb113,0,none⟩ = some (.int .i64 a0_0):=(qh BK113.out 0).trans rfl
       have hcz9_1 : wr.cell? ⟨gb113,1,none⟩ = some (.slice A0_1 l0_1.length c0_1):=(qh BK113.out 1).trans rfl
       have hfz9_0:=qi BK113.out 0
       have hfz9_1:=qi BK113.out 1
       have p114 : 0 ≤ (x7_1 : Int):=of_decide_eq_true (by first|(with_reducible assumption)|assumption)
       have q114 : x7_1 < (l0_1.length : Int):=of_decide_eq_true (by first|(with_reducible assumption)|assumption)
       obtain ⟨ad114,e114,hx114_0,hx114_1,hx114_2,hx114_3,hx114_4⟩:=at_T36 HR0_1.out x7_1 p114 q114
       cases e114
       replace hx114_0:=cb_ HB hx114_0
       replace hx114_1:=cb_ HB hx114_1
       replace hx114_2:=cb_ HB hx114_2
       replace hx114_3:=cb_ HB hx114_3
       replace hx114_4:=cb_ HB hx114_4
       replace p114:=eq_true p114
       replace q114:=eq_true q114
       have p115 : 0 ≤ (x7_1 : Int):=of_decide_eq_true (by first|(with_reducible assumption)|assumption)
       have q115 : x7_1 < (l0_1.length : Int):=of_decide_eq_true (by first|(with_reducible assumption)|assumption)
       obtain ⟨ad115,e115,hx115_0,hx115_1,hx115_2,hx115_3,hx115_4⟩:=at_T36 HR0_1.out x7_1 p115 q115
       obtain rfl : ad114 = ad115:=(by injection e115)
       replace hx115_0:=cb_ HB hx115_0
       replace hx115_1:=cb_ HB hx115_1
       replace hx115_2:=cb_ HB hx115_2
       replace hx115_3:=cb_ HB hx115_3
       replace hx115_4:=cb_ HB hx115_4
       replace p115:=eq_true p115
       replace q115:=eq_true q115
       go_wp2
       go_ret
       exact ⟨by first|rfl|(simp [errW_none,errW_some] <;> rfl)|(simp [*,errW_none,errW_some] <;> rfl),by repeat (first|(with_reducible first|exact HB.out|apply qf|apply qa|apply qd|refine qg ?_ GE113.out)|exact HB.out)⟩
      ·rw [if_neg c8] at H
       have c8b0 : (((rd_T36 l0_1 x7_1).f1) == a2) = false:=beq_eq_false_iff_ne.mpr c8
       have c8b1 : (((rd_T36 l0_1 x7_1).f1) != a2) = true:=bne_iff_ne.mpr c8
       by_cases c10 : ((rd_T36 l0_1 x7_1).f0) = a2
       ·rw [if_pos c10] at H
        have c10b0 : (((rd_T36 l0_1 x7_1).f0) == a2) = true:=beq_iff_eq.mpr c10
        have c10b1 : (((rd_T36 l0_1 x7_1).f0) != a2) = false:=bne_eq_false_iff_eq.mpr c10
        clear c10
        by_cases c11 : ((rd_T36 l0_1 x7_1).f1) = a1
        ·rw [if_pos c11] at H
         have c11b0 : (((rd_T36 l0_1 x7_1).f1) == a1) = true:=beq_iff_eq.mpr c11
         have c11b1 : (((rd_T36 l0_1 x7_1).f1) != a1) = false:=bne_eq_false_iff_eq.mpr c11
         clear c11
         obtain rfl:=Option.some.inj H
         have hcz12_0 : wr.cell? ⟨gb113,0,none⟩ = some (.int .i64 a0_0):=(qh BK113.out 0).trans rfl
         have hcz12_1 : wr.cell? ⟨gb113,1,none⟩ = some (.slice A0_1 l0_1.length c0_1):=(qh BK113.out 1).trans rfl
         have hfz12_0:=qi BK113.out 0
         have hfz12_1:=qi BK113.out 1
         have p114 : 0 ≤ (x7_1 : Int):=of_decide_eq_true (by first|(with_reducible assumption)|assumption)
         have q114 : x7_1 < (l0_1.length : Int):=of_decide_eq_true (by first|(with_reducible assumption)|assumption)
         obtain ⟨ad114,e114,hx114_0,hx114_1,hx114_2,hx114_3,hx114_4⟩:=at_T36 HR0_1.out x7_1 p114 q114
         cases e114
         replace hx114_0:=cb_ HB hx114_0
         replace hx114_1:=cb_ HB hx114_1
         replace hx114_2:=cb_ HB hx114_2
         replace hx114_3:=cb_ HB hx114_3
         replace hx114_4:=cb_ HB hx114_4
         replace p114:=eq_true p114
         replace q114:=eq_true q114
         have p115 : 0 ≤ (x7_1 : Int):=of_decide_eq_true (by first|(with_reducible assumption)|assumption)
         have q115 : x7_1 < (l0_1.length : Int):=of_decide_eq_true (by first|(with_reducible assumption)|assumption)
         obtain ⟨ad115,e115,hx115_0,hx115_1,hx115_2,hx115_3,hx115_4⟩:=at_T36 HR0_1.out x7_1 p115 q115
         obtain rfl : ad114 = ad115:=(by injection e115)
         replace hx115_0:=cb_ HB hx115_0
         replace hx115_1:=cb_ HB hx115_1
         replace hx115_2:=cb_ HB hx115_2
         replace hx115_3:=cb_ HB hx115_3
         replace hx115_4:=cb_ HB hx115_4
         replace p115:=eq_true p115
         replace q115:=eq_true q115
         have p116 : 0 ≤ (x7_1 : Int):=of_decide_eq_true (by first|(with_reducible assumption)|assumption)
         have q116 : x7_1 < (l0_1.length : Int):=of_decide_eq_true (by first|(with_reducible assumption)|assumption)
         obtain ⟨ad116,e116,hx116_0,hx116_1,hx116_2,hx116_3,hx116_4⟩:=at_T36 HR0_1.out x7_1 p116 q116
         obtain rfl : ad114 = ad116:=(by injection e116)
         replace hx116_0:=cb_ HB hx116_0
         replace hx116_1:=cb_ HB hx116_1
         replace hx116_2:=cb_ HB hx116_2
         replace hx116_3:=cb_ HB hx116_3
         replace hx116_4:=cb_ HB hx116_4
         replace p116:=eq_true p116
         replace q116:=eq_true q116
         have p117 : 0 ≤ (x7_1 : Int):=of_decide_eq_true (by first|(with_reducible assumption)|assumption)
         have q117 : x7_1 < (l0_1.length : Int):=of_decide_eq_true (by first|(with_reducible assumption)|assumption)
         obtain ⟨ad117,e117,hx117_0,hx117_1,hx117_2,hx117_3,hx117_4⟩:=at_T36 HR0_1.out x7_1 p117 q117
         obtain rfl : ad114 = ad117:=(by injection e117)
         replace hx117_0:=cb_ HB hx117_0
         replace hx117_1:=cb_ HB hx117_1
         replace hx117_2:=cb_ HB hx117_2
         replace hx117_3:=cb_ HB hx117_3
         replace hx117_4:=cb_ HB hx117_4
         replace p117:=eq_true p117
         replace q117:=eq_true q117
         go_wp2
         go_ret
         exact ⟨by first|rfl|(simp [errW_none,errW_some] <;> rfl)|(simp [*,errW_none,errW_some] <;> rfl),by repeat (first|(with_reducible first|exact HB.out|apply qf|apply qa|apply qd|refine qg ?_ GE113.out)|exact HB.out)⟩
        ·rw [if_neg c11] at H
         have c11b0 : (((rd_T36 l0_1 x7_1).f1) == a1) = false:=beq_eq_false_iff_ne.mpr c11
         have c11b1 : (((rd_T36 l0_1 x7_1).f1) != a1) = true:=bne_iff_ne.mpr c11
         have H':=qn.mk H
         clear H
         have hcz13_0 : wr.cell? ⟨gb113,0,none⟩ = some (.int .i64 a0_0):=(qh BK113.out 0).trans rfl
         have hcz13_1 : wr.cell? ⟨gb113,1,none⟩ = some (.slice A0_1 l0_1.length c0_1):=(qh BK113.out 1).trans rfl
         have hfz13_0:=qi BK113.out 0
         have hfz13_1:=qi BK113.out 1
         have p114 : 0 ≤ (x7_1 : Int):=of_decide_eq_true (by first|(with_reducible assumption)|assumption)
         have q114 : x7_1 < (l0_1.length : Int):=of_decide_eq_true (by first|(with_reducible assumption)|assumption)
         obtain ⟨ad114,e114,hx114_0,hx114_1,hx114_2,hx114_3,hx114_4⟩:=at_T36 HR0_1.out x7_1 p114 q114
         cases e114
         replace hx114_0:=cb_ HB hx114_0
         replace hx114_1:=cb_ HB hx114_1
         replace hx114_2:=cb_ HB hx114_2
         replace hx114_3:=cb_ HB hx114_3
         replace hx114_4:=cb_ HB hx114_4
         replace p114:=eq_true p114
         replace q114:=eq_true q114
         have p115 : 0 ≤ (x7_1 : Int):=of_decide_eq_true (by first|(with_reducible assumption)|assumption)
         have q115 : x7_1 < (l0_1.length : Int):=of_decide_eq_true (by first|(with_reducible assumption)|assumption)
         obtain ⟨ad115,e115,hx115_0,hx115_1,hx115_2,hx115_3,hx115_4⟩:=at_T36 HR0_1.out x7_1 p115 q115
         obtain rfl : ad114 = ad115:=(by injection e115)
         replace hx115_0:=cb_ HB hx115_0
         replace hx115_1:=cb_ HB hx115_1
         replace hx115_2:=cb_ HB hx115_2
         replace hx115_3:=cb_ HB hx115_3
         replace hx115_4:=cb_ HB hx115_4
         replace p115:=eq_true p115
         replace q115:=eq_true q115
         have p116 : 0 ≤ (x7_1 : Int):=of_decide_eq_true (by first|(with_reducible assumption)|assumption)
         have q116 : x7_1 < (l0_1.length : Int):=of_decide_eq_true (by first|(with_reducible assumption)|assumption)
         obtain ⟨ad116,e116,hx116_0,hx116_1,hx116_2,hx116_3,hx116_4⟩:=at_T36 HR0_1.out x7_1 p116 q116
         obtain rfl : ad114 = ad116:=(by injection e116)
         replace hx116_0:=cb_ HB hx116_0
         replace hx116_1:=cb_ HB hx116_1
         replace hx116_2:=cb_ HB hx116_2
         replace hx116_3:=cb_ HB hx116_3
         replace hx116_4:=cb_ HB hx116_4
         replace p116:=eq_true p116
         replace q116:=eq_true q116
         have p117 : 0 ≤ (x7_1 : Int):=of_decide_eq_true (by first|(with_reducible assumption)|assumption)
         have q117 : x7_1 < (l0_1.length : Int):=of_decide_eq_true (by first|(with_reducible assumption)|assumption)
         obtain ⟨ad117,e117,hx117_0,hx117_1,hx117_2,hx117_3,hx117_4⟩:=at_T36 HR0_1.out x7_1 p117 q117
         obtain rfl : ad114 = ad117:=(by injection e117)
         replace hx117_0:=cb_ HB hx117_0
         replace hx117_1:=cb_ HB hx117_1
         replace hx117_2:=cb_ HB hx117_2
         replace hx117_3:=cb_ HB hx117_3
         replace hx117_4:=cb_ HB hx117_4
         replace p117:=eq_true p117
         replace q117:=eq_true q117
         go_wp2
         go_roundg k1
         case measure=>have:=HK1.out;omega
         case rel=>exact ⟨(wrap64 (x7_1 + 1)),(by first|rfl|(simp;done)|(simp [*];done)),H',⟨by have:=HK1.out;omega⟩,⟨by (with_reducible repeat (first|refine qb ?_ _|refine qe ?_|refine qc ?_ _));exact BK113.out⟩,⟨by repeat (first|(with_reducible first|exact HB.out|apply qf|apply qa|apply qd|refine qg ?_ GE113.out)|exact HB.out)⟩⟩
       ·rw [if_neg c10] at H
        have c10b0 : (((rd_T36 l0_1 x7_1).f0) == a2) = false:=beq_eq_false_iff_ne.mpr c10
        have c10b1 : (((rd_T36 l0_1 x7_1).f0) != a2) = true:=bne_iff_ne.mpr c10
        have H':=qn.mk H
        clear H
        have hcz14_0 : wr.cell? ⟨gb113,0,none⟩ = some (.int .i64 a0_0):=(qh BK113.out 0).trans rfl
        have hcz14_1 : wr.cell? ⟨gb113,1,none⟩ = some (.slice A0_1 l0_1.length c0_1):=(qh BK113.out 1).trans rfl
        have hfz14_0:=qi BK113.out 0
        have hfz14_1:=qi BK113.out 1
        have p114 : 0 ≤ (x7_1 : Int):=of_decide_eq_true (by first|(with_reducible assumption)|assumption)
        have q114 : x7_1 < (l0_1.length : Int):=of_decide_eq_true (by first|(with_reducible assumption)|assumption)
        obtain ⟨ad114,e114,hx114_0,hx114_1,hx114_2,hx114_3,hx114_4⟩:=at_T36 HR0_1.out x7_1 p114 q114
        cases e114
        replace hx114_0:=cb_ HB hx114_0
        replace hx114_1:=cb_ HB hx114_1
        replace hx114_2:=cb_ HB hx114_2
        replace hx114_3:=cb_ HB hx114_3
        replace hx114_4:=cb_ HB hx114_4
        replace p114:=eq_true p114
        replace q114:=eq_true q114
        have p115 : 0 ≤ (x7_1 : Int):=of_decide_eq_true (by first|(with_reducible assumption)|assumption)
        have q115 : x7_1 < (l0_1.length : Int):=of_decide_eq_true (by first|(with_reducible assumption)|assumption)
        obtain ⟨ad115,e115,hx115_0,hx115_1,hx115_2,hx115_3,hx115_4⟩:=at_T36 HR0_1.out x7_1 p115 q115
        obtain rfl : ad114 = ad115:=(by injection e115)
        replace hx115_0:=cb_ HB hx115_0
        replace hx115_1:=cb_ HB hx115_1
        replace hx115_2:=cb_ HB hx115_2
        replace hx115_3:=cb_ HB hx115_3
        replace hx115_4:=cb_ HB hx115_4
        replace p115:=eq_true p115
        replace q115:=eq_true q115
        have p116 : 0 ≤ (x7_1 : Int):=of_decide_eq_true (by first|(with_reducible assumption)|assumption)
        have q116 : x7_1 < (l0_1.length : Int):=of_decide_eq_true (by first|(with_reducible assumption)|assumption)
        obtain ⟨ad116,e116,hx116_0,hx116_1,hx116_2,hx116_3,hx116_4⟩:=at_T36 HR0_1.out x7_1 p116 q116
        obtain rfl : ad114 = ad116:=(by injection e116)
        replace hx116_0:=cb_ HB hx116_0
        replace hx116_1:=cb_ HB hx116_1
        replace hx116_2:=cb_ HB hx116_2
        replace hx116_3:=cb_ HB hx116_3
        replace hx116_4:=cb_ HB hx116_4
        replace p116:=eq_true p116
        replace q116:=eq_true q116
        go_wp2
        go_roundg k1
        case measure=>have:=HK1.out;omega
        case rel=>exact ⟨(wrap64 (x7_1 + 1)),(by first|rfl|(simp;done)|(simp [*];done)),H',⟨by have:=HK1.out;omega⟩,⟨by (with_reducible repeat (first|refine qb ?_ _|refine qe ?_|refine qc ?_ _));exact BK113.out⟩,⟨by repeat (first|(with_reducible first|exact HB.out|apply qf|apply qa|apply qd|refine qg ?_ GE113.out)|exact HB.out)⟩⟩
     ·rw [if_neg c7] at H
      have c7b0 : (((rd_T36 l0_1 x7_1).f0) == a1) = false:=beq_eq_false_iff_ne.mpr c7
      have c7b1 : (((rd_T36 l0_1 x7_1).f0) != a1) = true:=bne_iff_ne.mpr c7
      by_cases c15 : ((rd_T36 l0_1 x7_1).f0) = a2
      ·rw [if_pos c15] at H
       have c15b0 : (((rd_T36 l0_1 x7_1).f0) == a2) = true:=beq_iff_eq.mpr c15
       have c15b1 : (((rd_T36 l0_1 x7_1).f0) != a2) = false:=bne_eq_false_iff_eq.mpr c15
       clear c15
       by_cases c16 : ((rd_T36 l0_1 x7_1).f1) = a1
       ·rw [if_pos c16] at H
        have c16b0 : (((rd_T36 l0_1 x7_1).f1) == a1) = true:=beq_iff_eq.mpr c16
        have c16b1 : (((rd_T36 l0_1 x7_1).f1) != a1) = false:=bne_eq_false_iff_eq.mpr c16
        clear c16
        obtain rfl:=Option.some.inj H
        have hcz17_0 : wr.cell? ⟨gb113,0,none⟩ = some (.int .i64 a0_0):=(qh BK113.out 0).trans rfl
        have hcz17_1 : wr.cell? ⟨gb113,1,none⟩ = some (.slice A0_1 l0_1.length c0_1):=(qh BK113.out 1).trans rfl
        have hfz17_0:=qi BK113.out 0
        have hfz17_1:=qi BK113.out 1
        have p114 : 0 ≤ (x7_1 : Int):=of_decide_eq_true (by first|(with_reducible assumption)|assumption)
        have q114 : x7_1 < (l0_1.length : Int):=of_decide_eq_true (by first|(with_reducible assumption)|assumption)
        obtain ⟨ad114,e114,hx114_0,hx114_1,hx114_2,hx114_3,hx114_4⟩:=at_T36 HR0_1.out x7_1 p114 q114
        cases e114
        replace hx114_0:=cb_ HB hx114_0
        replace hx114_1:=cb_ HB hx114_1
        replace hx114_2:=cb_ HB hx114_2
        replace hx114_3:=cb_ HB hx114_3
        replace hx114_4:=cb_ HB hx114_4
        replace p114:=eq_true p114
        replace q114:=eq_true q114
        have p118 : 0 ≤ (x7_1 : Int):=of_decide_eq_true (by first|(with_reducible assumption)|assumption)
        have q118 : x7_1 < (l0_1.length : Int):=of_decide_eq_true (by first|(with_reducible assumption)|assumption)
        obtain ⟨ad118,e118,hx118_0,hx118_1,hx118_2,hx118_3,hx118_4⟩:=at_T36 HR0_1.out x7_1 p118 q118
        obtain rfl : ad114 = ad118:=(by injection e118)
        replace hx118_0:=cb_ HB hx118_0
        replace hx118_1:=cb_ HB hx118_1
        replace hx118_2:=cb_ HB hx118_2
        replace hx118_3:=cb_ HB hx118_3
        replace hx118_4:=cb_ HB hx118_4
        replace p118:=eq_true p118
        replace q118:=eq_true q118
        have p119 : 0 ≤ (x7_1 : Int):=of_decide_eq_true (by first|(with_reducible assumption)|assumption)
        have q119 : x7_1 < (l0_1.length : Int):=of_decide_eq_true (by first|(with_reducible assumption)|assumption)
        obtain ⟨ad119,e119,hx119_0,hx119_1,hx119_2,hx119_3,hx119_4⟩:=at_T36 HR0_1.out x7_1 p119 q119
        obtain rfl : ad114 = ad119:=(by injection e119)
        replace hx119_0:=cb_ HB hx119_0
        replace hx119_1:=cb_ HB hx119_1
        replace hx119_2:=cb_ HB hx119_2
        replace hx119_3:=cb_ HB hx119_3
        replace hx119_4:=cb_ HB hx119_4
        replace p119:=eq_true p119
        replace q119:=eq_true q119
        go_wp2
        go_ret
        exact ⟨by first|rfl|(simp [errW_none,errW_some] <;> rfl)|(simp [*,errW_none,errW_some] <;> rfl),by repeat (first|(with_reducible first|exact HB.out|apply qf|apply qa|apply qd|refine qg ?_ GE113.out)|exact HB.out)⟩
       ·rw [if_neg c16] at H
        have c16b0 : (((rd_T36 l0_1 x7_1).f1) == a1) = false:=beq_eq_false_iff_ne.mpr c16
        have c16b1 : (((rd_T36 l0_1 x7_1).f1) != a1) = true:=bne_iff_ne.mpr c16
        have H':=qn.mk H
        clear H
        have hcz18_0 : wr.cell? ⟨gb113,0,none⟩ = some (.int .i64 a0_0):=(qh BK113.out 0).trans rfl
        have hcz18_1 : wr.cell? ⟨gb113,1,none⟩ = some (.slice A0_1 l0_1.length c0_1):=(qh BK113.out 1).trans rfl
        have hfz18_0:=qi BK113.out 0
        have hfz18_1:=qi BK113.out 1
        have p114 : 0 ≤ (x7_1 : Int):=of_decide_eq_true (by first|(with_reducible assumption)|assumption)
        have q114 : x7_1 < (l0_1.length : Int):=of_decide_eq_true (by first|(with_reducible assumption)|assumption)
        obtain ⟨ad114,e114,hx114_0,hx114_1,hx114_2,hx114_3,hx114_4⟩:=at_T36 HR0_1.out x7_1 p114 q114
        cases e114
        replace hx114_0:=cb_ HB hx114_0
        replace hx114_1:=cb_ HB hx114_1
        replace hx114_2:=cb_ HB hx114_2
        replace hx114_3:=cb_ HB hx114_3
        replace hx114_4:=cb_ HB hx114_4
        replace p114:=eq_true p114
        replace q114:=eq_true q114
        have p118 : 0 ≤ (x7_1 : Int):=of_decide_eq_true (by first|(with_reducible assumption)|assumption)
        have q118 : x7_1 < (l0_1.length : Int):=of_decide_eq_true (by first|(with_reducible assumption)|assumption)
        obtain ⟨ad118,e118,hx118_0,hx118_1,hx118_2,hx118_3,hx118_4⟩:=at_T36 HR0_1.out x7_1 p118 q118
        obtain rfl : ad114 = ad118:=(by injection e118)
        replace hx118_0:=cb_ HB hx118_0
        replace hx118_1:=cb_ HB hx118_1
        replace hx118_2:=cb_ HB hx118_2
        replace hx118_3:=cb_ HB hx118_3
        replace hx118_4:=cb_ HB hx118_4
        replace p118:=eq_true p118
        replace q118:=eq_true q118
        have p119 : 0 ≤ (x7_1 : Int):=of_decide_eq_true (by first|(with_reducible assumption)|assumption)
        have q119 : x7_1 < (l0_1.length : Int):=of_decide_eq_true (by first|(with_reducible assumption)|assumption)
        obtain ⟨ad119,e119,hx119_0,hx119_1,hx119_2,hx119_3,hx119_4⟩:=at_T36 HR0_1.out x7_1 p119 q119
        obtain rfl : ad114 = ad119:=(by injection e119)
        replace hx119_0:=cb_ HB hx119_0
        replace hx119_1:=cb_ HB hx119_1
        replace hx119_2:=cb_ HB hx119_2
        replace hx119_3:=cb_ HB hx119_3
        replace hx119_4:=cb_ HB hx119_4
        replace p119:=eq_true p119
        replace q119:=eq_true q119
        go_wp2
        go_roundg k1
        case measure=>have:=HK1.out;omega
        case rel=>exact ⟨(wrap64 (x7_1 + 1)),(by first|rfl|(simp;done)|(simp [*];done)),H',⟨by have:=HK1.out;omega⟩,⟨by (with_reducible repeat (first|refine qb ?_ _|refine qe ?_|refine qc ?_ _));exact BK113.out⟩,⟨by repeat (first|(with_reducible first|exact HB.out|apply qf|apply qa|apply qd|refine qg ?_ GE113.out)|exact HB.out)⟩⟩
      ·rw [if_neg c15] at H
       have c15b0 : (((rd_T36 l0_1 x7_1).f0) == a2) = false:=beq_eq_false_iff_ne.mpr c15
       have c15b1 : (((rd_T36 l0_1 x7_1).f0) != a2) = true:=bne_iff_ne.mpr c15
       have H':=qn.mk H
       clear H
       have hcz19_0 : wr.cell? ⟨gb113,0,none⟩ = some (.int .i64 a0_0):=(qh BK113.out 0).trans rfl
       have hcz19_1 : wr.cell? ⟨gb113,1,none⟩ = some (.slice A0_1 l0_1.length c0_1):=(qh BK113.out 1).trans rfl
       have hfz19_0:=qi BK113.out 0
       have hfz19_1:=qi BK113.out 1
       have p114 : 0 ≤ (x7_1 : Int):=of_decide_eq_true (by first|(with_reducible assumption)|assumption)
       have q114 : x7_1 < (l0_1.length : Int):=of_decide_eq_true (by first|(with_reducible assumption)|assumption)
       obtain ⟨ad114,e114,hx114_0,hx114_1,hx114_2,hx114_3,hx114_4⟩:=at_T36 HR0_1.out x7_1 p114 q114
       cases e114
       replace hx114_0:=cb_ HB hx114_0
       replace hx114_1:=cb_ HB hx114_1
       replace hx114_2:=cb_ HB hx114_2
       replace hx114_3:=cb_ HB hx114_3
       replace hx114_4:=cb_ HB hx114_4
       replace p114:=eq_true p114
       replace q114:=eq_true q114
       have p118 : 0 ≤ (x7_1 : Int):=of_decide_eq_true (by first|(with_reducible assumption)|assumption)
       have q118 : x7_1 < (l0_1.length : Int):=of_decide_eq_true (by first|(with_reducible assumption)|assumption)
       obtain ⟨ad118,e118,hx118_0,hx118_1,hx118_2,hx118_3,hx118_4⟩:=at_T36 HR0_1.out x7_1 p118 q118
       obtain rfl : ad114 = ad118:=(by injection e118)
       replace hx118_0:=cb_ HB hx118_0
       replace hx118_1:=cb_ HB hx118_1
       replace hx118_2:=cb_ HB hx118_2
       replace hx118_3:=cb_ HB hx118_3
       replace hx118_4:=cb_ HB hx118_4
       replace p118:=eq_true p118
       replace q118:=eq_true q118
       go_wp2
       go_roundg k1
       case measure=>have:=HK1.out;omega
       case rel=>exact ⟨(wrap64 (x7_1 + 1)),(by first|rfl|(simp;done)|(simp [*];done)),H',⟨by have:=HK1.out;omega⟩,⟨by (with_reducible repeat (first|refine qb ?_ _|refine qe ?_|refine qc ?_ _));exact BK113.out⟩,⟨by repeat (first|(with_reducible first|exact HB.out|apply qf|apply qa|apply qd|refine qg ?_ GE113.out)|exact HB.out)⟩⟩
    ·rw [if_neg c6] at H
     exact absurd H (by simp)
   ·rw [if_neg c5] at H
    have c5b0 : decide (x7_1 < (l0_1.length : Int)) = false:=decide_eq_false c5
    clear c5
    obtain rfl:=Option.some.inj H
    have hcz20_0 : wr.cell? ⟨gb113,0,none⟩ = some (.int .i64 a0_0):=(qh BK113.out 0).trans rfl
    have hcz20_1 : wr.cell? ⟨gb113,1,none⟩ = some (.slice A0_1 l0_1.length c0_1):=(qh BK113.out 1).trans rfl
    have hfz20_0:=qi BK113.out 0
    have hfz20_1:=qi BK113.out 1
    go_wp2
    go_ret
    exact ⟨by first|rfl|(simp [errW_none,errW_some] <;> rfl)|(simp [*,errW_none,errW_some] <;> rfl),by repeat (first|(with_reducible first|exact HB.out|apply qf|apply qa|apply qd|refine qg ?_ GE113.out)|exact HB.out)⟩

/-! ### spec_Better: function 116 -/
def spec_Better.f (a0_0 : Int) (a0_1 : Int) (a0_2 : Int) (a1_0 : Int) (a1_1 : Int) (a1_2 : Int) : Option (Bool):=if a0_0 = a1_0 then (if a0_1 = a1_1 then (some (decide (a0_2 > a1_2))) else (some (decide (a0_1 > a1_1)))) else (some (decide (a0_0 > a1_0)))
set_option maxHeartbeats 8000000 in
set_option maxRecDepth 100000 in
theorem spec_Better.calls (a0_0 : Int) (a0_1 : Int) (a0_2 : Int) (a1_0 : Int) (a1_1 : Int) (a1_2 : Int) (r : Bool) (w : World) (h : spec_Better.f a0_0 a0_1 a0_2 a1_0 a1_1 a1_2 = some r) :
  Calls Try.prog 116 #[.agg #[.int .i64 a0_0,.int .i64 a0_1,.int .i64 a0_2],.agg #[.int .i64 a1_0,.int .i64 a1_1,.int .i64 a1_2]] w fun e w'=>e = .returned (.bool r) ∧ Below w.heap.size w w':=by
 have hu72:=Try.underlying72
 have HB:=qn.mk (Below.refl w.heap.size w)
 have H : (if a0_0 = a1_0 then (if a0_1 = a1_1 then (some (decide (a0_2 > a1_2))) else (some (decide (a0_1 > a1_1)))) else (some (decide (a0_0 > a1_0)))) = some r:=h
 clear h
 by_cases c3 : a0_0 = a1_0
 ·rw [if_pos c3] at H
  have c3b0 : (a0_0 == a1_0) = true:=beq_iff_eq.mpr c3
  have c3b1 : (a0_0 != a1_0) = false:=bne_eq_false_iff_eq.mpr c3
  clear c3
  by_cases c4 : a0_1 = a1_1
  ·rw [if_pos c4] at H
   have c4b0 : (a0_1 == a1_1) = true:=beq_iff_eq.mpr c4
   have c4b1 : (a0_1 != a1_1) = false:=bne_eq_false_iff_eq.mpr c4
   clear c4
   obtain rfl:=Option.some.inj H
   go_enter Try.func116,Try.ntmps116
   go_wp2_with (first|((with_reducible refine gate_dst (N:=2) rfl ?_);refine box_event ?hg (N:=2) ?hd (cs:=#[.int .i64 a0_0,.int .i64 a0_1,.int .i64 a0_2]) (t:=72) ?hr ?_;(case hd=>rfl);(case hg=>rfl);(case hr=>first|(go_simp;done)|(go_simp;rfl));intro gb120 hg w5 hbox hb;have n0_:=hs_ HB hb;have n1_:=qn.mk (hbox);have n2_:=qn.mk ((by rw [hg];exact (qj (by repeat (first|(with_reducible first|exact HB.out|apply qf|apply qa|apply qd)|exact HB.out))) : w.heap.size ≤ gb120));have n3_:=qn.mk ((by rw [hg];exact (qj (by repeat (first|(with_reducible first|exact HB.out|apply qf|apply qa|apply qd)|exact HB.out))) : w.heap.size ≤ gb120));clear HB;have HB:=n0_;have BK120:=n1_;have GW120:=n2_;have GE120:=n3_;clear n0_ n1_ n2_ n3_;clear hb hbox hg)|((with_reducible refine gate_dst (N:=3) rfl ?_);refine box_event ?hg (N:=3) ?hd (cs:=#[.int .i64 a1_0,.int .i64 a1_1,.int .i64 a1_2]) (t:=72) ?hr ?_;(case hd=>rfl);(case hg=>rfl);(case hr=>first|(go_simp;done)|(go_simp;rfl));intro gb121 hg w6 hbox hb;have n0_:=bb_ BK120 hb;have n1_:=hs_ HB hb;have n2_:=qn.mk (hbox);have n3_:=qn.mk ((by rw [hg];exact (qj (by repeat (first|(with_reducible first|exact HB.out|apply qf|apply qa|apply qd|refine qg ?_ GE120.out)|exact HB.out))) : w.heap.size ≤ gb121));have n4_:=qn.mk ((by rw [hg];exact (qj (by repeat (first|(with_reducible first|exact HB.out|apply qf|apply qa|apply qd|refine qg ?_ GE120.out)|exact HB.out))) : w.heap.size ≤ gb121));have n5_:=qn.mk ((by rw [hg];exact nl_ BK120 : gb120 ≠ gb121));have n6_:=qn.mk ((by rw [hg];exact ng_ BK120 : gb121 ≠ gb120));clear BK120;clear HB;have BK120:=n0_;have HB:=n1_;have BK121:=n2_;have GW121:=n3_;have GE121:=n4_;have NB120_121:=n5_;have NB121_120:=n6_;clear n0_ n1_ n2_ n3_ n4_ n5_ n6_;clear hb hbox hg;have hnb7:=NB120_121.out;have hnc7:=NB121_120.out;have hcz8_0 : w6.cell? ⟨gb120,0,none⟩ = some (.int .i64 a0_0):=(qh BK120.out 0).trans rfl;have hcz8_1 : w6.cell? ⟨gb120,1,none⟩ = some (.int .i64 a0_1):=(qh BK120.out 1).trans rfl;have hcz8_2 : w6.cell? ⟨gb120,2,none⟩ = some (.int .i64 a0_2):=(qh BK120.out 2).trans rfl;have hfz8_0:=qi BK120.out 0;have hfz8_1:=qi BK120.out 1;have hfz8_2:=qi BK120.out 2;have hcz9_0 : w6.cell? ⟨gb121,0,none⟩ = some (.int .i64 a1_0):=(qh BK121.out 0).trans rfl;have hcz9_1 : w6.cell? ⟨gb121,1,none⟩ = some (.int .i64 a1_1):=(qh BK121.out 1).trans rfl;have hcz9_2 : w6.cell? ⟨gb121,2,none⟩ = some (.int .i64 a1_2):=(qh BK121.out 2).trans rfl;have hfz9_0:=qi BK121.out 0;have hfz9_1:=qi BK121.out 1;have hfz9_2:=qi BK121.out 2))
   go_ret
   exact ⟨by first|rfl|(simp [errW_none,errW_some] <;> rfl)|(simp [*,errW_none,errW_some] <;> rfl),by repeat (first|(with_reducible first|exact HB.out|apply qf|apply qa|apply qd|refine qg ?_ GE120.out|refine qg ?_ GE121.out)|exact HB.out)⟩
  ·rw [if_neg c4] at H
   have c4b0 : (a0_1 == a1_1) = false:=beq_eq_false_iff_ne.mpr c4
   have c4b1 : (a0_1 != a1_1) = true:=bne_iff_ne.mpr c4
   obtain rfl:=Option.some.inj H
   go_enter Try.func116,Try.ntmps116
   go_wp2_with (first|((with_reducible refine gate_dst (N:=2) rfl ?_);refine box_event ?hg (N:=2) ?hd (cs:=#[.int .i64 a0_0,.int .i64 a0_1,.int .i64 a0_2]) (t:=72) ?hr ?_;(case hd=>rfl);(case hg=>rfl);(case hr=>first|(go_simp;done)|(go_simp;rfl));intro gb120 hg w10 hbox hb;have n0_:=hs_ HB hb;have n1_:=qn.mk (hbox);have n2_:=qn.mk ((by rw [hg];exact (qj (by repeat (first|(with_reducible first|exact HB.out|apply qf|apply qa|apply qd)|exact HB.out))) : w.heap.size ≤ gb120));have n3_:=qn.mk ((by rw [hg];exact (qj (by repeat (first|(with_reducible first|exact HB.out|apply qf|apply qa|apply qd)|exact HB.out))) : w.heap.size ≤ gb120));clear HB;have HB:=n0_;have BK120:=n1_;have GW120:=n2_;have GE120:=n3_;clear n0_ n1_ n2_ n3_;clear hb hbox hg)|((with_reducible refine gate_dst (N:=3) rfl ?_);refine box_event ?hg (N:=3) ?hd (cs:=#[.int .i64 a1_0,.int .i64 a1_1,.int .i64 a1_2]) (t:=72) ?hr ?_;(case hd=>rfl);(case hg=>rfl);(case hr=>first|(go_simp;done)|(go_simp;rfl));intro gb121 hg w11 hbox hb;have n0_:=bb_ BK120 hb;have n1_:=hs_ HB hb;have n2_:=qn.mk (hbox);have n3_:=qn.mk ((by rw [hg];exact (qj (by repeat (first|(with_reducible first|exact HB.out|apply qf|apply qa|apply qd|refine qg ?_ GE120.out)|exact HB.out))) : w.heap.size ≤ gb121));have n4_:=qn.mk ((by rw [hg];exact (qj (by repeat (first|(with_reducible first|exact HB.out|apply qf|apply qa|apply qd|refine qg ?_ GE120.out)|exact HB.out))) : w.heap.size ≤ gb121));have n5_:=qn.mk ((by rw [hg];exact nl_ BK120 : gb120 ≠ gb121));have n6_:=qn.mk ((by rw [hg];exact ng_ BK120 : gb121 ≠ gb120));clear BK120;clear HB;have BK120:=n0_;have HB:=n1_;have BK121:=n2_;have GW121:=n3_;have GE121:=n4_;have NB120_121:=n5_;have NB121_120:=n6_;clear n0_ n1_ n2_ n3_ n4_ n5_ n6_;clear hb hbox hg;have hnb12:=NB120_121.out;have hnc12:=NB121_120.out;have hcz13_0 : w11.cell? ⟨gb120,0,none⟩ = some (.int .i64 a0_0):=(qh BK120.out 0).trans rfl;have hcz13_1 : w11.cell? ⟨gb120,1,none⟩ = some (.int .i64 a0_1):=(qh BK120.out 1).trans rfl;have hcz13_2 : w11.cell? ⟨gb120,2,none⟩ = some (.int .i64 a0_2):=(qh BK120.out 2).trans rfl;have hfz13_0:=qi BK120.out 0;have hfz13_1:=qi BK120.out 1;have hfz13_2:=qi BK120.out 2;have hcz14_0 : w11.cell? ⟨gb121,0,none⟩ = some (.int .i64 a1_0):=(qh BK121.out 0).trans rfl;have hcz14_1 : w11.cell? ⟨gb121,1,none⟩ = some (.int .i64 a1_1):=(qh BK121.out 1).trans rfl;have hcz14_2 : w11.cell? ⟨gb121,2,none⟩ = some (.int .i64 a1_2):=(qh BK121.out 2).trans rfl;have hfz14_0:=qi BK121.out 0;have hfz14_1:=qi BK121.out 1;have hfz14_2:=qi BK121.out 2))
   go_ret
   exact ⟨by first|rfl|(simp [errW_none,errW_some] <;> rfl)|(simp [*,errW_none,errW_some] <;> rfl),by repeat (first|(with_reducible first|exact HB.out|apply qf|apply qa|apply qd|refine qg ?_ GE120.out|refine qg ?_ GE121.out)|exact HB.out)⟩
 ·rw [if_neg c3] at H
  have c3b0 : (a0_0 == a1_0) = false:=beq_eq_false_iff_ne.mpr c3
  have c3b1 : (a0_0 != a1_0) = true:=bne_iff_ne.mpr c3
  obtain rfl:=Option.some.inj H
  go_enter Try.func116,Try.ntmps116
  go_wp2_with (first|((with_reducible refine gate_dst (N:=2) rfl ?_);refine box_event ?hg (N:=2) ?hd (cs:=#[.int .i64 a0_0,.int .i64 a0_1,.int .i64 a0_2]) (t:=72) ?hr ?_;(case hd=>rfl);(case hg=>rfl);(case hr=>first|(go_simp;done)|(go_simp;rfl));intro gb120 hg w15 hbox hb;have n0_:=hs_ HB hb;have n1_:=qn.mk (hbox);have n2_:=qn.mk ((by rw [hg];exact (qj (by repeat (first|(with_reducible first|exact HB.out|apply qf|apply qa|apply qd)|exact HB.out))) : w.heap.size ≤ gb120));have n3_:=qn.mk ((by rw [hg];exact (qj (by repeat (first|(with_reducible first|exact HB.out|apply qf|apply qa|apply qd)|exact HB.out))) : w.heap.size ≤ gb120));clear HB;have HB:=n0_;have BK120:=n1_;have GW120:=n2_;have GE120:=n3_;clear n0_ n1_ n2_ n3_;clear hb hbox hg)|((with_reducible refine gate_dst (N:=3) rfl ?_);refine box_event ?hg (N:=3) ?hd (cs:=#[.int .i64 a1_0,.int .i64 a1_1,.int .i64 a1_2]) (t:=72) ?hr ?_;(case hd=>rfl);(case hg=>rfl);(case hr=>first|(go_simp;done)|(go_simp;rfl));intro gb121 hg w16 hbox hb;have n0_:=bb_ BK120 hb;have n1_:=hs_ HB hb;have n2_:=qn.mk (hbox);have n3_:=qn.mk ((by rw [hg];exact (qj (by repeat (first|(with_reducible first|exact HB.out|apply qf|apply qa|apply qd|refine qg ?_ GE120.out)|exact HB.out))) : w.heap.size ≤ gb121));have n4_:=qn.mk ((by rw [hg];exact (qj (by repeat (first|(with_reducible first|exact HB.out|apply qf|apply qa|apply qd|refine qg ?_ GE120.out)|exact HB.out))) : w.heap.size ≤ gb121));have n5_:=qn.mk ((by rw [hg];exact nl_ BK120 : gb120 ≠ gb121));have n6_:=qn.mk ((by rw [hg];exact ng_ BK120 : gb121 ≠ gb120));clear BK120;clear HB;have BK120:=n0_;have HB:=n1_;have BK121:=n2_;have GW121:=n3_;have GE121:=n4_;have NB120_121:=n5_;have NB121_120:=n6_;clear n0_ n1_ n2_ n3_ n4_ n5_ n6_;clear hb hbox hg;have hnb17:=NB120_121.out;have hnc17:=NB121_120.out;have hcz18_0 : w16.cell? ⟨gb120,0,none⟩ = some (.int .i64 a0_0):=(qh BK120.out 0).trans rfl;have hcz18_1 : w16.cell? ⟨gb120,1,none⟩ = some (.int .i64 a0_1):=(qh BK120.out 1).trans rfl;have hcz18_2 : w16.cell? ⟨gb120,2,none⟩ = some (.int .i64 a0_2):=(qh BK120.out 2).trans rfl;have hfz18_0:=qi BK120.out 0;have hfz18_1:=qi BK120.out 1;have hfz18_2:=qi BK120.out 2;have hcz19_0 : w16.cell? ⟨gb121,0,none⟩ = some (.int .i64 a1_0):=(qh BK121.out 0).trans rfl;have hcz19_1 : w16.cell? ⟨gb121,1,none⟩ = some (.int .i64 a1_1):=(qh BK121.out 1).trans rfl;have hcz19_2 : w16.cell? ⟨gb121,2,none⟩ = some (.int .i64 a1_2):=(qh BK121.out 2).trans rfl;have hfz19_0:=qi BK121.out 0;have hfz19_1:=qi BK121.out 1;have hfz19_2:=qi BK121.out 2))
  go_ret
  exact ⟨by first|rfl|(simp [errW_none,errW_some] <;> rfl)|(simp [*,errW_none,errW_some] <;> rfl),by repeat (first|(with_reducible first|exact HB.out|apply qf|apply qa|apply qd|refine qg ?_ GE120.out|refine qg ?_ GE121.out)|exact HB.out)⟩

end Go.Proofs.Ytfmemcffbfahhaa.QFnBest
