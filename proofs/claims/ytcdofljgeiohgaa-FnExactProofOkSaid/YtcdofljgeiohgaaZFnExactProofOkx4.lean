/- Lean functions for the Go functions that the law FnExactProofOk reaches, and that each Go function comes to just its Lean function's answer; by a program of this session. -/
import Derived.Test.YtcdofljgeiohgaaZFnExactProofOkx0
import Derived.Test.YtcdofljgeiohgaaZFnExactProofOkx2
import Derived.Test.YtcdofljgeiohgaaZFnExactProofOkx3
namespace Go.Proofs.Ytcdofljgeiohgaa.QFnExactProofOk
open Go.RowKit Go.Proofs.YtcdofljgeiohgaaW.PrintWords Go.Proofs.YtcdofljgeiohgaaW.PrintLast Go.Proofs.YtcdofljgeiohgaaW.PrintMore
attribute [local go_sem] max2_int min2_int max_two min_two max_three min_three max_four min_four   -- for this text's walks alone
set_option linter.unusedVariables false
set_option linter.unusedSimpArgs false

/-! ### spec_l11Slack: function 53 -/
def spec_l11Slack.l0 : Nat → Int → Int → List Int → List (S97) → Int → Int → Int → Int → Int → Option (Int)
  | 0,_,_,_,_,_,_,_,_,_=>none
  | k + 1,x5,x6,x126000,x126001,x127000,x127001,x127002,x127003,x127004=>if x6 < (x126001.length : Int) then (if 0 ≤ x6 then ((spec_l03In.f k ((rd_T97 x126001 x6).f0) x127000).bind fun t131=>(if t131 = true then ((spec_l03In.f k ((rd_T97 x126001 x6).f0) x127001).bind fun t133=>(if t133 = true then (spec_l11Slack.l0 k (wrap64 (x5 + ((rd_T97 x126001 x6).f1))) (wrap64 (x6 + 1)) x126000 x126001 x127000 x127001 x127002 x127003 x127004) else (spec_l11Slack.l0 k x5 (wrap64 (x6 + 1)) x126000 x126001 x127000 x127001 x127002 x127003 x127004))) else (spec_l11Slack.l0 k x5 (wrap64 (x6 + 1)) x126000 x126001 x127000 x127001 x127002 x127003 x127004))) else (none)) else (some x5)
def spec_l11Slack.f (k : Nat) (l0_0 : List Int) (l0_1 : List (S97)) (a1_0 : Int) (a1_1 : Int) (a1_2 : Int) (a1_3 : Int) (a1_4 : Int) : Option (Int):=if 0 ≤ a1_0 then (if a1_0 < (l0_0.length : Int) then (if 0 ≤ a1_1 then (if a1_1 < (l0_0.length : Int) then ((spec_Scalar.f a1_0 a1_1 a1_2 a1_3 a1_4).bind fun t129=>(spec_l11Slack.l0 k (wrap64 ((wrap64 ((rd l0_0 a1_0) + (rd l0_0 a1_1))) - (wrap64 (2 * t129)))) 0 l0_0 l0_1 a1_0 a1_1 a1_2 a1_3 a1_4)) else (none)) else (none)) else (none)) else (none)
theorem spec_l11Slack.mono_l : ∀ k,(∀ y0 y1 y2 y3 y4 y5 y6 y7 y8,LeO (spec_l11Slack.l0 k y0 y1 y2 y3 y4 y5 y6 y7 y8) (spec_l11Slack.l0 (k + 1) y0 y1 y2 y3 y4 y5 y6 y7 y8))
  | 0=>fun _ _ _ _ _ _ _ _ _ r h=>by simp [spec_l11Slack.l0] at h
  | k + 1=>by
    have ih0:=spec_l11Slack.mono_l k
    · intro y0 y1 y2 y3 y4 y5 y6 y7 y8
      unfold spec_l11Slack.l0
      repeat' first
      | (with_reducible exact ih0 _ _ _ _ _ _ _ _ _)
      | (with_reducible exact spec_l03In.mono _ _ _)
      | (with_reducible exact LeO.refl _)
      | (with_reducible exact LeO.none _)
      | (with_reducible refine LeO.ite ?_ ?_)
      | (with_reducible refine LeO.bind ?_ (fun _=>?_))
      | exact ih0 _ _ _ _ _ _ _ _ _
      | exact spec_l03In.mono _ _ _
      | exact LeO.none _
      | refine LeO.ite ?_ ?_
      | refine LeO.bind ?_ (fun _=>?_)
theorem spec_l11Slack.mono : ∀ a0 a1 a2 a3 a4 a5 a6 k,LeO (spec_l11Slack.f k a0 a1 a2 a3 a4 a5 a6) (spec_l11Slack.f (k + 1) a0 a1 a2 a3 a4 a5 a6):=by
  intro a0 a1 a2 a3 a4 a5 a6 k
  have ih0:=spec_l11Slack.mono_l k
  unfold spec_l11Slack.f
  repeat' first
      | (with_reducible exact ih0 _ _ _ _ _ _ _ _ _)
      | (with_reducible exact spec_l03In.mono _ _ _)
      | (with_reducible exact LeO.refl _)
      | (with_reducible exact LeO.none _)
      | (with_reducible refine LeO.ite ?_ ?_)
      | (with_reducible refine LeO.bind ?_ (fun _=>?_))
      | exact ih0 _ _ _ _ _ _ _ _ _
      | exact spec_l03In.mono _ _ _
      | exact LeO.none _
      | refine LeO.ite ?_ ?_
      | refine LeO.bind ?_ (fun _=>?_)
def spec_l11Slack.T1 : Bool × List (List Nat × List Nat):=(true,[([],[]),([0],[0]),([],[]),([2],[2]),([1,3],[1,3]),([4],[4]),([],[]),([6],[6]),([],[]),([8],[8]),([7,9],[7,9]),([10],[10]),([5,11],[5,11]),([],[]),([13],[13]),([14],[14]),([12,15],[12,15]),([16,14,0,1,2,3,4,5,6,7,8,9,10,11,12,13,14,15,16],[16])])
def spec_l11Slack.B1 : List Nat:=[0,1,0,4,15,31,0,64,0,256,960,1984,4095,0,8192,24576,65535,131071]
theorem spec_l11Slack.tab1 : rtab .any (opsOf Try.f53 1) = spec_l11Slack.T1:=by kernel_rfl
theorem spec_l11Slack.bits1 : waitsOk spec_l11Slack.T1.2 spec_l11Slack.B1 = true:=by kernel_rfl
def spec_l11Slack.T5 : Bool × List (List Nat × List Nat):=(true,[([],[]),([0],[0]),([],[]),([1,2],[1,2]),([3],[3]),([4],[4]),([],[]),([6],[6]),([5,7],[5,7]),([8,8],[8]),([9],[9]),([10,9],[9,10]),([9],[9]),([11,12,9],[9,11,12]),([13,9],[9,13]),([14,9],[9,14]),([9],[9]),([16,9],[9,16]),([15,17,9,9],[9,15,17]),([9,18],[9,18])])
def spec_l11Slack.B5 : List Nat:=[0,1,0,7,15,31,0,64,255,511,1023,2047,1023,8191,16383,32767,1023,66559,262143,524287]
theorem spec_l11Slack.tab5 : rtab .any (opsOf Try.f53 5) = spec_l11Slack.T5:=by kernel_rfl
theorem spec_l11Slack.bits5 : waitsOk spec_l11Slack.T5.2 spec_l11Slack.B5 = true:=by kernel_rfl
set_option maxHeartbeats 8000000 in
set_option maxRecDepth 100000 in
theorem spec_l11Slack.calls (k : Nat) (A0_0 : Option Addr) (c0_0 : Nat) (l0_0 : List Int) (A0_1 : Option Addr) (c0_1 : Nat) (l0_1 : List (S97)) (a1_0 : Int) (a1_1 : Int) (a1_2 : Int) (a1_3 : Int) (a1_4 : Int) (r : Int) (w : World) (hr0_0 : Kd.C (Kd.int .i64) w A0_0 l0_0.length l0_0) (hc0_0 : l0_0.length ≤ c0_0) (hr0_1 : Kd.C k97 w A0_1 l0_1.length l0_1) (hc0_1 : l0_1.length ≤ c0_1) (h : spec_l11Slack.f k l0_0 l0_1 a1_0 a1_1 a1_2 a1_3 a1_4 = some r) :
    Calls Try.prog 53 #[.agg #[.slice A0_0 l0_0.length c0_0,.slice A0_1 l0_1.length c0_1],.agg #[.int .i64 a1_0,.int .i64 a1_1,.int .i64 a1_2,.int .i64 a1_3,.int .i64 a1_4]] w fun e w'=>e = .returned (.int .i64 r) ∧ Below w.heap.size w w':=by
  have hu65:=Try.underlying65
  have hu101:=Try.underlying101
  have HR0_0:=qn.mk hr0_0
  have HC0_0:=qn.mk hc0_0
  clear hr0_0 hc0_0
  have HR0_1:=qn.mk hr0_1
  have HC0_1:=qn.mk hc0_1
  clear hr0_1 hc0_1
  have HB:=qn.mk (Below.refl w.heap.size w)
  have H : (if 0 ≤ a1_0 then (if a1_0 < (l0_0.length : Int) then (if 0 ≤ a1_1 then (if a1_1 < (l0_0.length : Int) then ((spec_Scalar.f a1_0 a1_1 a1_2 a1_3 a1_4).bind fun t129=>(spec_l11Slack.l0 k (wrap64 ((wrap64 ((rd l0_0 a1_0) + (rd l0_0 a1_1))) - (wrap64 (2 * t129)))) 0 l0_0 l0_1 a1_0 a1_1 a1_2 a1_3 a1_4)) else (none)) else (none)) else (none)) else (none)) = some r:=h
  clear h
  by_cases c3 : 0 ≤ a1_0
  · rw [if_pos c3] at H
    have c3b0 : decide (0 ≤ a1_0) = true:=decide_eq_true c3
    clear c3
    by_cases c4 : a1_0 < (l0_0.length : Int)
    · rw [if_pos c4] at H
      have c4b0 : decide (a1_0 < (l0_0.length : Int)) = true:=decide_eq_true c4
      clear c4
      by_cases c5 : 0 ≤ a1_1
      · rw [if_pos c5] at H
        have c5b0 : decide (0 ≤ a1_1) = true:=decide_eq_true c5
        clear c5
        by_cases c6 : a1_1 < (l0_0.length : Int)
        · rw [if_pos c6] at H
          have c6b0 : decide (a1_1 < (l0_0.length : Int)) = true:=decide_eq_true c6
          clear c6
          replace H:=Option.bind_eq_some_iff.mp H
          obtain ⟨t129,A70,H⟩:=H
          replace H : (spec_l11Slack.l0 k (wrap64 ((wrap64 ((rd l0_0 a1_0) + (rd l0_0 a1_1))) - (wrap64 (2 * t129)))) 0 l0_0 l0_1 a1_0 a1_1 a1_2 a1_3 a1_4) = some r:=H
          have A7:=qn.mk A70
          clear A70
          have H':=qn.mk H
          clear H
          go_enter Try.func53,Try.ntmps53
          try go_wp2_with (first|((with_reducible refine gate_dst (N:=2) rfl ?_);refine box_event ?hg (N:=2) ?hd (cs:=#[.slice A0_0 l0_0.length c0_0,.slice A0_1 l0_1.length c0_1]) (t:=65) ?hr ?_;(case hd=>rfl);(case hg=>rfl);(case hr=>first|(go_simp;done)|(go_simp;rfl));intro gb125 hg w8 hbox hb;have n0_:=hs_ HB hb;have n1_:=qn.mk (hbox);have n2_:=qn.mk ((by rw [hg];exact (qj (by repeat (first|(with_reducible first|exact HB.out|apply qf|apply qa|apply qd)|exact HB.out))) : w.heap.size ≤ gb125));have n3_:=qn.mk ((by rw [hg];exact (qj (by repeat (first|(with_reducible first|exact HB.out|apply qf|apply qa|apply qd)|exact HB.out))) : w.heap.size ≤ gb125));clear HB;have HB:=n0_;have BK125:=n1_;have GW125:=n2_;have GE125:=n3_;clear n0_ n1_ n2_ n3_;clear hb hbox hg)|((with_reducible refine gate_dst (N:=3) rfl ?_);refine box_event ?hg (N:=3) ?hd (cs:=#[.int .i64 a1_0,.int .i64 a1_1,.int .i64 a1_2,.int .i64 a1_3,.int .i64 a1_4]) (t:=101) ?hr ?_;(case hd=>rfl);(case hg=>rfl);(case hr=>first|(go_simp;done)|(go_simp;rfl));intro gb126 hg w9 hbox hb;have n0_:=bb_ BK125 hb;have n1_:=hs_ HB hb;have n2_:=qn.mk (hbox);have n3_:=qn.mk ((by rw [hg];exact (qj (by repeat (first|(with_reducible first|exact HB.out|apply qf|apply qa|apply qd|refine qg ?_ GE125.out)|exact HB.out))) : w.heap.size ≤ gb126));have n4_:=qn.mk ((by rw [hg];exact (qj (by repeat (first|(with_reducible first|exact HB.out|apply qf|apply qa|apply qd|refine qg ?_ GE125.out)|exact HB.out))) : w.heap.size ≤ gb126));have n5_:=qn.mk ((by rw [hg];exact nl_ BK125 : gb125 ≠ gb126));have n6_:=qn.mk ((by rw [hg];exact ng_ BK125 : gb126 ≠ gb125));clear BK125;clear HB;have BK125:=n0_;have HB:=n1_;have BK126:=n2_;have GW126:=n3_;have GE126:=n4_;have NB125_126:=n5_;have NB126_125:=n6_;clear n0_ n1_ n2_ n3_ n4_ n5_ n6_;clear hb hbox hg))
          have n0_:=qn.mk (qe BK125.out)
          have n1_:=qn.mk (qe BK126.out)
          have n2_:=qn.mk (qd HB.out)
          clear BK125
          clear BK126
          clear HB
          have BK125:=n0_
          have BK126:=n1_
          have HB:=n2_
          clear n0_ n1_ n2_
          have p127 : 0 ≤ (a1_0 : Int):=of_decide_eq_true (by first|(with_reducible assumption)|assumption)
          have q127 : a1_0 < (l0_0.length : Int):=of_decide_eq_true (by first|(with_reducible assumption)|assumption)
          obtain ⟨ad127,e127,hx127_0⟩:=Kd.at_int HR0_0.out a1_0 p127 q127
          have hw127_0:=hx127_0
          cases e127
          replace hx127_0:=cb_ HB hx127_0
          replace p127:=eq_true p127
          replace q127:=eq_true q127
          have p128 : 0 ≤ (a1_1 : Int):=of_decide_eq_true (by first|(with_reducible assumption)|assumption)
          have q128 : a1_1 < (l0_0.length : Int):=of_decide_eq_true (by first|(with_reducible assumption)|assumption)
          obtain ⟨ad128,e128,hx128_0⟩:=Kd.at_int HR0_0.out a1_1 p128 q128
          have hw128_0:=hx128_0
          obtain rfl : ad127 = ad128:=(by injection e128)
          replace hx128_0:=cb_ HB hx128_0
          replace p128:=eq_true p128
          replace q128:=eq_true q128
          refine start_ (n:=18) (S:=fun w'=>w'.cell? ⟨gb125,0,none⟩ = some (.slice (some ad127) l0_0.length c0_0) ∧ w'.cell? ⟨gb125,1,none⟩ = some (.slice A0_1 l0_1.length c0_1) ∧ w'.cell? ⟨gb126,0,none⟩ = some (.int .i64 a1_0) ∧ w'.cell? ⟨gb126,1,none⟩ = some (.int .i64 a1_1) ∧ w'.cell? ⟨gb126,2,none⟩ = some (.int .i64 a1_2) ∧ w'.cell? ⟨gb126,3,none⟩ = some (.int .i64 a1_3) ∧ w'.cell? ⟨gb126,4,none⟩ = some (.int .i64 a1_4) ∧ w'.cell? (ad127.add (a1_0).toNat) = some (.int .i64 (rd l0_0 a1_0)) ∧ w'.cell? (ad127.add (a1_1).toNat) = some (.int .i64 (rd l0_0 a1_1))) (ds:=[]) #[false,false,false,false,false,false,false,false,false,false,false,false,false,false,false,false,false,false] (by kernel_rfl) rfl rfl ⟨(qh BK125.out 0).trans rfl,(qh BK125.out 1).trans rfl,(qh BK126.out 0).trans rfl,(qh BK126.out 1).trans rfl,(qh BK126.out 2).trans rfl,(qh BK126.out 3).trans rfl,(qh BK126.out 4).trans rfl,(cb_ HB hw127_0:),(cb_ HB hw128_0:)⟩ (fun hHeld=>?_);refine with_tabW spec_l11Slack.tab1 spec_l11Slack.bits1 (fun HT_ HW_=>?_)
          generalize w9.drew = w10 at BK125 BK126 HB hx127_0 hx128_0 hHeld ⊢
          refine pure_ (i:=0) (N:=some 7) (v:=?_) (a':=?_) #[true,false,false,false,false,false,false,false,false,false,false,false,false,false,false,false,false,false] rfl rfl (any_of HT_.out (by kernel_rfl)) (fun _ _ _ h=>h) (Or.inl ⟨by rfl,?_⟩) ?_ ?_
          rotate_left
          · intro w'
            go_simp
            with_reducible rfl
          rotate_left
          · simp only [Act.put,List.setIfInBounds_toArray,List.set_cons_zero,List.set_cons_succ,i64_w,i32_w]
            rfl
          refine pure_ (i:=2) (N:=some 9) (v:=?_) (a':=?_) #[true,false,true,false,false,false,false,false,false,false,false,false,false,false,false,false,false,false] rfl rfl (any_of HT_.out (by kernel_rfl)) (fun _ _ _ h=>h) (Or.inl ⟨by rfl,?_⟩) ?_ ?_
          rotate_left
          · intro w'
            go_simp
            with_reducible rfl
          rotate_left
          · simp only [Act.put,List.setIfInBounds_toArray,List.set_cons_zero,List.set_cons_succ,i64_w,i32_w]
            rfl
          refine pure_ (i:=6) (N:=some 13) (v:=?_) (a':=?_) #[true,false,true,false,false,false,true,false,false,false,false,false,false,false,false,false,false,false] rfl rfl (any_of HT_.out (by kernel_rfl)) (fun _ _ _ h=>h) (Or.inl ⟨by rfl,?_⟩) ?_ ?_
          rotate_left
          · intro w'
            go_simp
            with_reducible rfl
          rotate_left
          · simp only [Act.put,List.setIfInBounds_toArray,List.set_cons_zero,List.set_cons_succ,i64_w,i32_w]
            rfl
          refine pure_ (i:=8) (N:=some 15) (v:=?_) (a':=?_) #[true,false,true,false,false,false,true,false,true,false,false,false,false,false,false,false,false,false] rfl rfl (any_of HT_.out (by kernel_rfl)) (fun _ _ _ h=>h) (Or.inl ⟨by rfl,?_⟩) ?_ ?_
          rotate_left
          · intro w'
            go_simp
            with_reducible rfl
          rotate_left
          · simp only [Act.put,List.setIfInBounds_toArray,List.set_cons_zero,List.set_cons_succ,i64_w,i32_w]
            rfl
          refine take_ (i:=1) (N:=some 8) (v:=?_) (a':=?_) #[true,true,true,false,false,false,true,false,true,false,false,false,false,false,false,false,false,false] rfl rfl (take_ofW HT_.out HW_.out (by kernel_rfl)) (fun _ _ _ h=>h) (Or.inl ⟨by rfl,?_⟩) hHeld ?_ ?_
          rotate_left
          · rintro w' ⟨s0,s1,s2,s3,s4,s5,s6,s7,s8⟩
            go_simp
            with_reducible rfl
          rotate_left
          · simp only [Act.put,List.setIfInBounds_toArray,List.set_cons_zero,List.set_cons_succ,i64_w,i32_w]
            rfl
          refine take_ (i:=3) (N:=some 10) (v:=?_) (a':=?_) #[true,true,true,true,false,false,true,false,true,false,false,false,false,false,false,false,false,false] rfl rfl (take_ofW HT_.out HW_.out (by kernel_rfl)) (fun _ _ _ h=>h) (Or.inl ⟨by rfl,?_⟩) hHeld ?_ ?_
          rotate_left
          · rintro w' ⟨s0,s1,s2,s3,s4,s5,s6,s7,s8⟩
            go_simp
            with_reducible rfl
          rotate_left
          · simp only [Act.put,List.setIfInBounds_toArray,List.set_cons_zero,List.set_cons_succ,i64_w,i32_w]
            rfl
          refine pure_ (i:=4) (N:=some 11) (v:=?_) (a':=?_) #[true,true,true,true,true,false,true,false,true,false,false,false,false,false,false,false,false,false] rfl rfl (any_of HT_.out (by kernel_rfl)) (fun _ _ _ h=>h) (Or.inl ⟨by rfl,?_⟩) ?_ ?_
          rotate_left
          · intro w'
            go_simp
            with_reducible rfl
          rotate_left
          · simp only [Act.put,List.setIfInBounds_toArray,List.set_cons_zero,List.set_cons_succ,i64_w,i32_w]
            rfl
          refine take_ (i:=5) (N:=some 12) (v:=?_) (a':=?_) #[true,true,true,true,true,true,true,false,true,false,false,false,false,false,false,false,false,false] rfl rfl (take_ofW HT_.out HW_.out (by kernel_rfl)) (fun _ _ _ h=>h) (Or.inl ⟨by rfl,?_⟩) hHeld ?_ ?_
          rotate_left
          · rintro w' ⟨s0,s1,s2,s3,s4,s5,s6,s7,s8⟩
            go_simp
            with_reducible rfl
          rotate_left
          · simp only [Act.put,List.setIfInBounds_toArray,List.set_cons_zero,List.set_cons_succ,i64_w,i32_w]
            rfl
          refine take_ (i:=7) (N:=some 14) (v:=?_) (a':=?_) #[true,true,true,true,true,true,true,true,true,false,false,false,false,false,false,false,false,false] rfl rfl (take_ofW HT_.out HW_.out (by kernel_rfl)) (fun _ _ _ h=>h) (Or.inl ⟨by rfl,?_⟩) hHeld ?_ ?_
          rotate_left
          · rintro w' ⟨s0,s1,s2,s3,s4,s5,s6,s7,s8⟩
            go_simp
            with_reducible rfl
          rotate_left
          · simp only [Act.put,List.setIfInBounds_toArray,List.set_cons_zero,List.set_cons_succ,i64_w,i32_w]
            rfl
          refine take_ (i:=9) (N:=some 16) (v:=?_) (a':=?_) #[true,true,true,true,true,true,true,true,true,true,false,false,false,false,false,false,false,false] rfl rfl (take_ofW HT_.out HW_.out (by kernel_rfl)) (fun _ _ _ h=>h) (Or.inl ⟨by rfl,?_⟩) hHeld ?_ ?_
          rotate_left
          · rintro w' ⟨s0,s1,s2,s3,s4,s5,s6,s7,s8⟩
            go_simp
            with_reducible rfl
          rotate_left
          · simp only [Act.put,List.setIfInBounds_toArray,List.set_cons_zero,List.set_cons_succ,i64_w,i32_w]
            rfl
          refine pure_ (i:=10) (N:=some 17) (v:=?_) (a':=?_) #[true,true,true,true,true,true,true,true,true,true,true,false,false,false,false,false,false,false] rfl rfl (any_of HT_.out (by kernel_rfl)) (fun _ _ _ h=>h) (Or.inl ⟨by rfl,?_⟩) ?_ ?_
          rotate_left
          · intro w'
            go_simp
            with_reducible rfl
          rotate_left
          · simp only [Act.put,List.setIfInBounds_toArray,List.set_cons_zero,List.set_cons_succ,i64_w,i32_w]
            rfl
          refine take_ (i:=11) (N:=some 18) (v:=?_) (a':=?_) #[true,true,true,true,true,true,true,true,true,true,true,true,false,false,false,false,false,false] rfl rfl (take_ofW HT_.out HW_.out (by kernel_rfl)) (fun _ _ _ h=>h) (Or.inl ⟨by rfl,?_⟩) hHeld ?_ ?_
          rotate_left
          · rintro w' ⟨s0,s1,s2,s3,s4,s5,s6,s7,s8⟩
            go_simp
            with_reducible rfl
          rotate_left
          · simp only [Act.put,List.setIfInBounds_toArray,List.set_cons_zero,List.set_cons_succ,i64_w,i32_w]
            rfl
          refine pure_ (i:=12) (N:=some 19) (v:=?_) (a':=?_) #[true,true,true,true,true,true,true,true,true,true,true,true,true,false,false,false,false,false] rfl rfl (any_of HT_.out (by kernel_rfl)) (fun _ _ _ h=>h) (Or.inl ⟨by rfl,?_⟩) ?_ ?_
          rotate_left
          · intro w'
            go_simp
            with_reducible rfl
          rotate_left
          · simp only [Act.put,List.setIfInBounds_toArray,List.set_cons_zero,List.set_cons_succ,i64_w,i32_w]
            rfl
          refine take_ (i:=13) (N:=some 20) (v:=?_) (a':=?_) #[true,true,true,true,true,true,true,true,true,true,true,true,true,true,false,false,false,false] rfl rfl (take_ofW HT_.out HW_.out (by kernel_rfl)) (fun _ _ _ h=>h) (Or.inl ⟨by rfl,?_⟩) hHeld ?_ ?_
          rotate_left
          · rintro w' ⟨s0,s1,s2,s3,s4,s5,s6,s7,s8⟩
            go_simp
            with_reducible rfl
          rotate_left
          · simp only [Act.put,List.setIfInBounds_toArray,List.set_cons_zero,List.set_cons_succ,i64_w,i32_w]
            rfl
          refine one_ (i:=14) (N:=some 21) #[true,true,true,true,true,true,true,true,true,true,true,true,true,true,true,false,false,false] rfl rfl (one_of HT_.out (by kernel_rfl)) (by decide) (fun K hK=>?_)
          refine goes_ Try.func75 (by kernel_rfl) rfl #[.agg #[.int .i64 a1_0,.int .i64 a1_1,.int .i64 a1_2,.int .i64 a1_3,.int .i64 a1_4]] (by rfl) rfl rfl (by (try simp only [List.map_toArray,List.map_cons,List.map_nil]);first|done|rfl|(simp only [List.length_drop,List.length_take];rfl)) ?_
          with_reducible refine (spec_Scalar.calls a1_0 a1_1 a1_2 a1_3 a1_4 t129 _ A7.out).mono ?_
          rintro e w11 ⟨rfl,hb⟩
          refine ⟨_,rfl,?_⟩
          have n0_:=bb_ BK125 hb
          have n1_:=bb_ BK126 hb
          have n2_:=hs_ HB hb
          clear BK125
          clear BK126
          clear HB
          have BK125:=n0_
          have BK126:=n1_
          have HB:=n2_
          clear n0_ n1_ n2_
          (try clear hb)
          (try clear hb2)
          (try clear hk)
          (try clear hi)
          refine hK.out _ _ ⟨(qh BK125.out 0).trans rfl,(qh BK125.out 1).trans rfl,(qh BK126.out 0).trans rfl,(qh BK126.out 1).trans rfl,(qh BK126.out 2).trans rfl,(qh BK126.out 3).trans rfl,(qh BK126.out 4).trans rfl,(cb_ HB hw127_0:),(cb_ HB hw128_0:)⟩ (fun hHeld=>?_)
          clear hK K
          refine norm_ (a':=?_) ?_ ?_
          rotate_left
          · show Act.put _ (some 21) _ = _
            simp only [Act.put,List.setIfInBounds_toArray,List.set_cons_zero,List.set_cons_succ,i64_w,i32_w]
            rfl
          refine pure_ (i:=15) (N:=some 22) (v:=?_) (a':=?_) #[true,true,true,true,true,true,true,true,true,true,true,true,true,true,true,true,false,false] rfl rfl (any_of HT_.out (by kernel_rfl)) (fun _ _ _ h=>h) (Or.inl ⟨by rfl,?_⟩) ?_ ?_
          rotate_left
          · intro w'
            go_simp
            with_reducible rfl
          rotate_left
          · simp only [Act.put,List.setIfInBounds_toArray,List.set_cons_zero,List.set_cons_succ,i64_w,i32_w]
            rfl
          refine pure_ (i:=16) (N:=some 23) (v:=?_) (a':=?_) #[true,true,true,true,true,true,true,true,true,true,true,true,true,true,true,true,true,false] rfl rfl (any_of HT_.out (by kernel_rfl)) (fun _ _ _ h=>h) (Or.inl ⟨by rfl,?_⟩) ?_ ?_
          rotate_left
          · intro w'
            go_simp
            with_reducible rfl
          rotate_left
          · simp only [Act.put,List.setIfInBounds_toArray,List.set_cons_zero,List.set_cons_succ,i64_w,i32_w]
            rfl
          refine pure_ (i:=17) (N:=some 5) (v:=?_) (a':=?_) #[true,true,true,true,true,true,true,true,true,true,true,true,true,true,true,true,true,true] rfl rfl (any_of HT_.out (by kernel_rfl)) (fun _ _ _ h=>h) (Or.inl ⟨by rfl,?_⟩) ?_ ?_
          rotate_left
          · intro w'
            go_simp
            with_reducible rfl
          rotate_left
          · simp only [Act.put,List.setIfInBounds_toArray,List.set_cons_zero,List.set_cons_succ,i64_w,i32_w]
            rfl
          refine done_ (done_of HT_.out (by kernel_rfl)) ?_
          try go_wp2
          go_loopg [5,6] k (fun kq v5 v6 w'=>∃ (x5_1 : Int) (x6_1 : Int),v5 = .int .i64 x5_1 ∧ v6 = .int .i64 x6_1 ∧ qn (spec_l11Slack.l0 kq x5_1 x6_1 l0_0 l0_1 a1_0 a1_1 a1_2 a1_3 a1_4 = some r) ∧ qn (kq ≤ k) ∧ qn (w'.heap[gb125]? = some (.cells #[(.slice (some ad127) l0_0.length c0_0),(.slice A0_1 l0_1.length c0_1)] 65 (0,0))) ∧ qn (w'.heap[gb126]? = some (.cells #[.int .i64 a1_0,.int .i64 a1_1,.int .i64 a1_2,.int .i64 a1_3,.int .i64 a1_4] 101 (0,0))) ∧ qn (Below w.heap.size w w'))
          case atStart=>exact ⟨(wrap64 ((wrap64 ((rd l0_0 a1_0) + (rd l0_0 a1_1))) - (wrap64 (2 * t129)))),(0),(by first|rfl|(simp;done)|(simp [*];done)),(by first|rfl|(simp;done)|(simp [*];done)),H',⟨Nat.le_refl _⟩,⟨by (with_reducible repeat (first|refine qb ?_ _|refine qe ?_|refine qc ?_ _));exact BK125.out⟩,⟨by (with_reducible repeat (first|refine qb ?_ _|refine qe ?_|refine qc ?_ _));exact BK126.out⟩,⟨by repeat (first|(with_reducible first|exact HB.out|apply qf|apply qa|apply qd|refine qg ?_ GE125.out|refine qg ?_ GE126.out)|exact HB.out)⟩⟩
          case round =>
            clear H'
            try clear p1
            try clear q1
            try clear hx1
            try clear p2
            try clear c3
            try clear c3b0
            try clear c4
            try clear c4b0
            try clear c5
            try clear c5b0
            try clear c6
            try clear c6b0
            try clear p6
            try clear c7
            try clear hx127_0
            try clear hx128_0
            try clear p127
            try clear p128
            try clear q127
            try clear q128
            obtain ⟨x5_1,x6_1,rfl,rfl,HA,HK1,BK125,BK126,HB⟩:=hrel
            cases gk with
            | zero=>exact absurd HA.out (by simp [spec_l11Slack.l0])
            | succ k1 =>
              have H:=HA.out
              clear HA
              simp only [spec_l11Slack.l0] at H
              by_cases c12 : x6_1 < (l0_1.length : Int)
              · rw [if_pos c12] at H
                have c12b0 : decide (x6_1 < (l0_1.length : Int)) = true:=decide_eq_true c12
                clear c12
                by_cases c13 : 0 ≤ x6_1
                · rw [if_pos c13] at H
                  have c13b0 : decide (0 ≤ x6_1) = true:=decide_eq_true c13
                  clear c13
                  replace H:=Option.bind_eq_some_iff.mp H
                  obtain ⟨t131,A140,H⟩:=H
                  replace H : (if t131 = true then ((spec_l03In.f k1 ((rd_T97 l0_1 x6_1).f0) a1_1).bind fun t133=>(if t133 = true then (spec_l11Slack.l0 k1 (wrap64 (x5_1 + ((rd_T97 l0_1 x6_1).f1))) (wrap64 (x6_1 + 1)) l0_0 l0_1 a1_0 a1_1 a1_2 a1_3 a1_4) else (spec_l11Slack.l0 k1 x5_1 (wrap64 (x6_1 + 1)) l0_0 l0_1 a1_0 a1_1 a1_2 a1_3 a1_4))) else (spec_l11Slack.l0 k1 x5_1 (wrap64 (x6_1 + 1)) l0_0 l0_1 a1_0 a1_1 a1_2 a1_3 a1_4)) = some r:=H
                  have A14:=qn.mk A140
                  clear A140
                  by_cases c15 : t131 = true
                  · subst c15
                    have H1 : ((spec_l03In.f k1 ((rd_T97 l0_1 x6_1).f0) a1_1).bind fun t133=>(if t133 = true then (spec_l11Slack.l0 k1 (wrap64 (x5_1 + ((rd_T97 l0_1 x6_1).f1))) (wrap64 (x6_1 + 1)) l0_0 l0_1 a1_0 a1_1 a1_2 a1_3 a1_4) else (spec_l11Slack.l0 k1 x5_1 (wrap64 (x6_1 + 1)) l0_0 l0_1 a1_0 a1_1 a1_2 a1_3 a1_4))) = some r:=by rw [if_pos rfl] at H;exact H
                    clear H
                    have H:=H1
                    clear H1
                    replace H:=Option.bind_eq_some_iff.mp H
                    obtain ⟨t133,A160,H⟩:=H
                    replace H : (if t133 = true then (spec_l11Slack.l0 k1 (wrap64 (x5_1 + ((rd_T97 l0_1 x6_1).f1))) (wrap64 (x6_1 + 1)) l0_0 l0_1 a1_0 a1_1 a1_2 a1_3 a1_4) else (spec_l11Slack.l0 k1 x5_1 (wrap64 (x6_1 + 1)) l0_0 l0_1 a1_0 a1_1 a1_2 a1_3 a1_4)) = some r:=H
                    have A16:=qn.mk A160
                    clear A160
                    by_cases c17 : t133 = true
                    · subst c17
                      have H1 : (spec_l11Slack.l0 k1 (wrap64 (x5_1 + ((rd_T97 l0_1 x6_1).f1))) (wrap64 (x6_1 + 1)) l0_0 l0_1 a1_0 a1_1 a1_2 a1_3 a1_4) = some r:=by rw [if_pos rfl] at H;exact H
                      clear H
                      have H:=H1
                      clear H1
                      have H':=qn.mk H
                      clear H
                      have hnb18:=NB125_126.out
                      have hnc18:=NB126_125.out
                      have hcz19_0 : wr.cell? ⟨gb125,0,none⟩ = some (.slice (some ad127) l0_0.length c0_0):=(qh BK125.out 0).trans rfl
                      have hcz19_1 : wr.cell? ⟨gb125,1,none⟩ = some (.slice A0_1 l0_1.length c0_1):=(qh BK125.out 1).trans rfl
                      have hfz19_0:=qi BK125.out 0
                      have hfz19_1:=qi BK125.out 1
                      try go_wp2
                      have n0_:=qn.mk (qe BK125.out)
                      have n1_:=qn.mk (qe BK126.out)
                      have n2_:=qn.mk (qd HB.out)
                      clear BK125
                      clear BK126
                      clear HB
                      have BK125:=n0_
                      have BK126:=n1_
                      have HB:=n2_
                      clear n0_ n1_ n2_
                      have p130 : 0 ≤ (x6_1 : Int):=of_decide_eq_true (by first|(with_reducible assumption)|assumption)
                      have q130 : x6_1 < (l0_1.length : Int):=of_decide_eq_true (by first|(with_reducible assumption)|assumption)
                      obtain ⟨ad130,A130_0,c130_0,e130,hx130_0,hx130_1,hl130_0,hi130_0⟩:=at_T97 HR0_1.out x6_1 p130 q130
                      have hw130_1:=hx130_1
                      have hw130_0:=hx130_0
                      cases e130
                      replace hx130_0:=cb_ HB hx130_0
                      replace hx130_1:=cb_ HB hx130_1
                      have HR130_0:=qn.mk hi130_0
                      have HC130_0:=qn.mk hl130_0
                      clear hi130_0 hl130_0
                      replace p130:=eq_true p130
                      replace q130:=eq_true q130
                      have p132 : 0 ≤ (x6_1 : Int):=of_decide_eq_true (by first|(with_reducible assumption)|assumption)
                      have q132 : x6_1 < (l0_1.length : Int):=of_decide_eq_true (by first|(with_reducible assumption)|assumption)
                      obtain ⟨ad132,A132_0,c132_0,e132,hx132_0,hx132_1,hl132_0,hi132_0⟩:=at_T97 HR0_1.out x6_1 p132 q132
                      have hw132_1:=hx132_1
                      have hw132_0:=hx132_0
                      obtain rfl : ad130 = ad132:=(by injection e132)
                      replace hx132_0:=cb_ HB hx132_0
                      replace hx132_1:=cb_ HB hx132_1
                      have HR132_0:=qn.mk hi132_0
                      have HC132_0:=qn.mk hl132_0
                      clear hi132_0 hl132_0
                      replace p132:=eq_true p132
                      replace q132:=eq_true q132
                      have ea_:=Option.some.inj (hx130_0.symm.trans hx132_0)
                      injection ea_ with ea_ en_ ec_
                      subst ea_
                      subst ec_
                      clear en_
                      refine start_ (n:=20) (S:=fun w'=>w'.cell? ⟨gb125,0,none⟩ = some (.slice (some ad127) l0_0.length c0_0) ∧ w'.cell? ⟨gb125,1,none⟩ = some (.slice (some ad130) l0_1.length c0_1) ∧ w'.cell? ⟨gb126,0,none⟩ = some (.int .i64 a1_0) ∧ w'.cell? ⟨gb126,1,none⟩ = some (.int .i64 a1_1) ∧ w'.cell? ⟨gb126,2,none⟩ = some (.int .i64 a1_2) ∧ w'.cell? ⟨gb126,3,none⟩ = some (.int .i64 a1_3) ∧ w'.cell? ⟨gb126,4,none⟩ = some (.int .i64 a1_4) ∧ w'.cell? (ad130.add ((x6_1).toNat * 2)) = some (.slice A130_0 ((rd_T97 l0_1 x6_1).f0).length c130_0) ∧ w'.cell? ⟨(ad130.add ((x6_1).toNat * 2)).block,(ad130.add ((x6_1).toNat * 2)).off + 1,none⟩ = some (.int .i64 ((rd_T97 l0_1 x6_1).f1)) ∧ w'.cell? (ad130.add ((x6_1).toNat * 2)) = some (.slice A130_0 ((rd_T97 l0_1 x6_1).f0).length c130_0) ∧ w'.cell? ⟨(ad130.add ((x6_1).toNat * 2)).block,(ad130.add ((x6_1).toNat * 2)).off + 1,none⟩ = some (.int .i64 ((rd_T97 l0_1 x6_1).f1))) (ds:=[]) #[false,false,false,false,false,false,false,false,false,false,false,false,false,false,false,false,false,false,false,false] (by kernel_rfl) rfl rfl ⟨(qh BK125.out 0).trans rfl,(qh BK125.out 1).trans rfl,(qh BK126.out 0).trans rfl,(qh BK126.out 1).trans rfl,(qh BK126.out 2).trans rfl,(qh BK126.out 3).trans rfl,(qh BK126.out 4).trans rfl,(cb_ HB hw130_0:),(cb_ HB hw130_1:),(cb_ HB hw132_0:),(cb_ HB hw132_1:)⟩ (fun hHeld=>?_);refine with_tabW spec_l11Slack.tab5 spec_l11Slack.bits5 (fun HT_ HW_=>?_)
                      generalize wr.drew = w20 at BK125 BK126 HB HR130_0 HR132_0 hx130_0 hx130_1 hx132_0 hx132_1 hHeld ⊢
                      refine pure_ (i:=0) (N:=some 31) (v:=?_) (a':=?_) #[true,false,false,false,false,false,false,false,false,false,false,false,false,false,false,false,false,false,false,false] rfl rfl (any_of HT_.out (by kernel_rfl)) (fun _ _ _ h=>h) (Or.inl ⟨by rfl,?_⟩) ?_ ?_
                      rotate_left
                      · intro w'
                        go_simp
                        with_reducible rfl
                      rotate_left
                      · simp only [Act.put,List.setIfInBounds_toArray,List.set_cons_zero,List.set_cons_succ,i64_w,i32_w]
                        rfl
                      refine pure_ (i:=2) (N:=some 33) (v:=?_) (a':=?_) #[true,false,true,false,false,false,false,false,false,false,false,false,false,false,false,false,false,false,false,false] rfl rfl (any_of HT_.out (by kernel_rfl)) (fun _ _ _ h=>h) (Or.inl ⟨by rfl,?_⟩) ?_ ?_
                      rotate_left
                      · intro w'
                        go_simp
                        with_reducible rfl
                      rotate_left
                      · simp only [Act.put,List.setIfInBounds_toArray,List.set_cons_zero,List.set_cons_succ,i64_w,i32_w]
                        rfl
                      refine pure_ (i:=6) (N:=some 37) (v:=?_) (a':=?_) #[true,false,true,false,false,false,true,false,false,false,false,false,false,false,false,false,false,false,false,false] rfl rfl (any_of HT_.out (by kernel_rfl)) (fun _ _ _ h=>h) (Or.inl ⟨by rfl,?_⟩) ?_ ?_
                      rotate_left
                      · intro w'
                        go_simp
                        with_reducible rfl
                      rotate_left
                      · simp only [Act.put,List.setIfInBounds_toArray,List.set_cons_zero,List.set_cons_succ,i64_w,i32_w]
                        rfl
                      refine take_ (i:=1) (N:=some 32) (v:=?_) (a':=?_) #[true,true,true,false,false,false,true,false,false,false,false,false,false,false,false,false,false,false,false,false] rfl rfl (take_ofW HT_.out HW_.out (by kernel_rfl)) (fun _ _ _ h=>h) (Or.inl ⟨by rfl,?_⟩) hHeld ?_ ?_
                      rotate_left
                      · rintro w' ⟨s0,s1,s2,s3,s4,s5,s6,s7,s8,s9,s10⟩
                        go_simp
                        with_reducible rfl
                      rotate_left
                      · simp only [Act.put,List.setIfInBounds_toArray,List.set_cons_zero,List.set_cons_succ,i64_w,i32_w]
                        rfl
                      refine pure_ (i:=3) (N:=some 34) (v:=?_) (a':=?_) #[true,true,true,true,false,false,true,false,false,false,false,false,false,false,false,false,false,false,false,false] rfl rfl (any_of HT_.out (by kernel_rfl)) (fun _ _ _ h=>h) (Or.inl ⟨by rfl,?_⟩) ?_ ?_
                      rotate_left
                      · intro w'
                        go_simp
                        with_reducible rfl
                      rotate_left
                      · simp only [Act.put,List.setIfInBounds_toArray,List.set_cons_zero,List.set_cons_succ,i64_w,i32_w]
                        rfl
                      refine pure_ (i:=4) (N:=some 35) (v:=?_) (a':=?_) #[true,true,true,true,true,false,true,false,false,false,false,false,false,false,false,false,false,false,false,false] rfl rfl (any_of HT_.out (by kernel_rfl)) (fun _ _ _ h=>h) (Or.inl ⟨by rfl,?_⟩) ?_ ?_
                      rotate_left
                      · intro w'
                        go_simp
                        with_reducible rfl
                      rotate_left
                      · simp only [Act.put,List.setIfInBounds_toArray,List.set_cons_zero,List.set_cons_succ,i64_w,i32_w]
                        rfl
                      refine take_ (i:=5) (N:=some 36) (v:=?_) (a':=?_) #[true,true,true,true,true,true,true,false,false,false,false,false,false,false,false,false,false,false,false,false] rfl rfl (take_ofW HT_.out HW_.out (by kernel_rfl)) (fun _ _ _ h=>h) (Or.inl ⟨by rfl,?_⟩) hHeld ?_ ?_
                      rotate_left
                      · rintro w' ⟨s0,s1,s2,s3,s4,s5,s6,s7,s8,s9,s10⟩
                        go_simp
                        with_reducible rfl
                      rotate_left
                      · simp only [Act.put,List.setIfInBounds_toArray,List.set_cons_zero,List.set_cons_succ,i64_w,i32_w]
                        rfl
                      refine take_ (i:=7) (N:=some 38) (v:=?_) (a':=?_) #[true,true,true,true,true,true,true,true,false,false,false,false,false,false,false,false,false,false,false,false] rfl rfl (take_ofW HT_.out HW_.out (by kernel_rfl)) (fun _ _ _ h=>h) (Or.inl ⟨by rfl,?_⟩) hHeld ?_ ?_
                      rotate_left
                      · rintro w' ⟨s0,s1,s2,s3,s4,s5,s6,s7,s8,s9,s10⟩
                        go_simp
                        with_reducible rfl
                      rotate_left
                      · simp only [Act.put,List.setIfInBounds_toArray,List.set_cons_zero,List.set_cons_succ,i64_w,i32_w]
                        rfl
                      refine one_ (i:=8) (N:=some 39) #[true,true,true,true,true,true,true,true,true,false,false,false,false,false,false,false,false,false,false,false] rfl rfl (one_of HT_.out (by kernel_rfl)) (by decide) (fun K hK=>?_)
                      refine goes_ Try.func74 (by kernel_rfl) rfl #[.slice A130_0 ((rd_T97 l0_1 x6_1).f0).length c130_0,.int .i64 a1_0] (by rfl) rfl rfl (by (try simp only [List.map_toArray,List.map_cons,List.map_nil]);first|done|rfl|(simp only [List.length_drop,List.length_take];rfl)) ?_
                      with_reducible refine (spec_l03In.calls k1 _ _ ((rd_T97 l0_1 x6_1).f0) a1_0 true _ ?side1 ?side2 A14.out).mono ?_
                      (case side1=>repeat (first|exact (Kd.C_below HR130_0.out HB.out)|(with_reducible refine Kd.C_alloc ?_ _)|(with_reducible refine Kd.C_drewN ?_ _)|(with_reducible refine Kd.C_drew ?_)))
                      (case side2=>exact HC130_0.out)
                      rintro e w' ⟨rfl,⟨nd,rfl⟩⟩
                      refine ⟨_,rfl,?_⟩
                      refine hK.out _ _ ⟨(qh BK125.out 0).trans rfl,(qh BK125.out 1).trans rfl,(qh BK126.out 0).trans rfl,(qh BK126.out 1).trans rfl,(qh BK126.out 2).trans rfl,(qh BK126.out 3).trans rfl,(qh BK126.out 4).trans rfl,(cb_ HB hw130_0:),(cb_ HB hw130_1:),(cb_ HB hw132_0:),(cb_ HB hw132_1:)⟩ (fun hHeld=>?_)
                      clear hK K
                      refine norm_ (a':=?_) ?_ ?_
                      rotate_left
                      · show Act.put _ (some 39) _ = _
                        simp only [Act.put,List.setIfInBounds_toArray,List.set_cons_zero,List.set_cons_succ,i64_w,i32_w]
                        rfl
                      refine pure_ (i:=9) (N:=some 40) (v:=?_) (a':=?_) #[true,true,true,true,true,true,true,true,true,true,false,false,false,false,false,false,false,false,false,false] rfl rfl (any_of HT_.out (by kernel_rfl)) (fun _ _ _ h=>h) (Or.inl ⟨by rfl,?_⟩) ?_ ?_
                      rotate_left
                      · intro w'
                        go_simp
                        with_reducible rfl
                      rotate_left
                      · simp only [Act.put,List.setIfInBounds_toArray,List.set_cons_zero,List.set_cons_succ,i64_w,i32_w]
                        rfl
                      refine pure_ (i:=10) (N:=some 41) (v:=?_) (a':=?_) #[true,true,true,true,true,true,true,true,true,true,true,false,false,false,false,false,false,false,false,false] rfl rfl (any_of HT_.out (by kernel_rfl)) (fun _ _ _ h=>h) (Or.inl ⟨by rfl,?_⟩) ?_ ?_
                      rotate_left
                      · intro w'
                        go_simp
                        with_reducible rfl
                      rotate_left
                      · simp only [Act.put,List.setIfInBounds_toArray,List.set_cons_zero,List.set_cons_succ,i64_w,i32_w]
                        rfl
                      refine pure_ (i:=12) (N:=some 43) (v:=?_) (a':=?_) #[true,true,true,true,true,true,true,true,true,true,true,false,true,false,false,false,false,false,false,false] rfl rfl (any_of HT_.out (by kernel_rfl)) (fun _ _ _ h=>h) (Or.inl ⟨by rfl,?_⟩) ?_ ?_
                      rotate_left
                      · intro w'
                        go_simp
                        with_reducible rfl
                      rotate_left
                      · simp only [Act.put,List.setIfInBounds_toArray,List.set_cons_zero,List.set_cons_succ,i64_w,i32_w]
                        rfl
                      refine pure_ (i:=16) (N:=some 47) (v:=?_) (a':=?_) #[true,true,true,true,true,true,true,true,true,true,true,false,true,false,false,false,true,false,false,false] rfl rfl (any_of HT_.out (by kernel_rfl)) (fun _ _ _ h=>h) (Or.inl ⟨by rfl,?_⟩) ?_ ?_
                      rotate_left
                      · intro w'
                        go_simp
                        with_reducible rfl
                      rotate_left
                      · simp only [Act.put,List.setIfInBounds_toArray,List.set_cons_zero,List.set_cons_succ,i64_w,i32_w]
                        rfl
                      refine take_ (i:=11) (N:=some 42) (v:=?_) (a':=?_) #[true,true,true,true,true,true,true,true,true,true,true,true,true,false,false,false,true,false,false,false] rfl rfl (take_ofW HT_.out HW_.out (by kernel_rfl)) (fun _ _ _ h=>h) (Or.inl ⟨by rfl,?_⟩) hHeld ?_ ?_
                      rotate_left
                      · rintro w' ⟨s0,s1,s2,s3,s4,s5,s6,s7,s8,s9,s10⟩
                        go_simp
                        with_reducible rfl
                      rotate_left
                      · simp only [Act.put,List.setIfInBounds_toArray,List.set_cons_zero,List.set_cons_succ,i64_w,i32_w]
                        rfl
                      refine pure_ (i:=13) (N:=some 44) (v:=?_) (a':=?_) #[true,true,true,true,true,true,true,true,true,true,true,true,true,true,false,false,true,false,false,false] rfl rfl (any_of HT_.out (by kernel_rfl)) (fun _ _ _ h=>h) (Or.inl ⟨by rfl,?_⟩) ?_ ?_
                      rotate_left
                      · intro w'
                        go_simp
                        with_reducible rfl
                      rotate_left
                      · simp only [Act.put,List.setIfInBounds_toArray,List.set_cons_zero,List.set_cons_succ,i64_w,i32_w]
                        rfl
                      refine pure_ (i:=14) (N:=some 45) (v:=?_) (a':=?_) #[true,true,true,true,true,true,true,true,true,true,true,true,true,true,true,false,true,false,false,false] rfl rfl (any_of HT_.out (by kernel_rfl)) (fun _ _ _ h=>h) (Or.inl ⟨by rfl,?_⟩) ?_ ?_
                      rotate_left
                      · intro w'
                        go_simp
                        with_reducible rfl
                      rotate_left
                      · simp only [Act.put,List.setIfInBounds_toArray,List.set_cons_zero,List.set_cons_succ,i64_w,i32_w]
                        rfl
                      refine take_ (i:=15) (N:=some 46) (v:=?_) (a':=?_) #[true,true,true,true,true,true,true,true,true,true,true,true,true,true,true,true,true,false,false,false] rfl rfl (take_ofW HT_.out HW_.out (by kernel_rfl)) (fun _ _ _ h=>h) (Or.inl ⟨by rfl,?_⟩) hHeld ?_ ?_
                      rotate_left
                      · rintro w' ⟨s0,s1,s2,s3,s4,s5,s6,s7,s8,s9,s10⟩
                        go_simp
                        with_reducible rfl
                      rotate_left
                      · simp only [Act.put,List.setIfInBounds_toArray,List.set_cons_zero,List.set_cons_succ,i64_w,i32_w]
                        rfl
                      refine take_ (i:=17) (N:=some 48) (v:=?_) (a':=?_) #[true,true,true,true,true,true,true,true,true,true,true,true,true,true,true,true,true,true,false,false] rfl rfl (take_ofW HT_.out HW_.out (by kernel_rfl)) (fun _ _ _ h=>h) (Or.inl ⟨by rfl,?_⟩) hHeld ?_ ?_
                      rotate_left
                      · rintro w' ⟨s0,s1,s2,s3,s4,s5,s6,s7,s8,s9,s10⟩
                        go_simp
                        with_reducible rfl
                      rotate_left
                      · simp only [Act.put,List.setIfInBounds_toArray,List.set_cons_zero,List.set_cons_succ,i64_w,i32_w]
                        rfl
                      refine one_ (i:=18) (N:=some 49) #[true,true,true,true,true,true,true,true,true,true,true,true,true,true,true,true,true,true,true,false] rfl rfl (one_of HT_.out (by kernel_rfl)) (by decide) (fun K hK=>?_)
                      refine goes_ Try.func74 (by kernel_rfl) rfl #[.slice A130_0 ((rd_T97 l0_1 x6_1).f0).length c130_0,.int .i64 a1_1] (by rfl) rfl rfl (by (try simp only [List.map_toArray,List.map_cons,List.map_nil]);first|done|rfl|(simp only [List.length_drop,List.length_take];rfl)) ?_
                      with_reducible refine (spec_l03In.calls k1 _ _ ((rd_T97 l0_1 x6_1).f0) a1_1 true _ ?side1 ?side2 A16.out).mono ?_
                      (case side1=>repeat (first|exact (Kd.C_below HR132_0.out (by repeat (first|(with_reducible first|exact HB.out|apply qf|apply qa|apply qd|refine qg ?_ GE125.out|refine qg ?_ GE126.out)|exact HB.out)))|(with_reducible refine Kd.C_alloc ?_ _)|(with_reducible refine Kd.C_drewN ?_ _)|(with_reducible refine Kd.C_drew ?_)))
                      (case side2=>exact HC132_0.out)
                      rintro e w' ⟨rfl,⟨nd,rfl⟩⟩
                      refine ⟨_,rfl,?_⟩
                      refine hK.out _ _ ⟨(qh BK125.out 0).trans rfl,(qh BK125.out 1).trans rfl,(qh BK126.out 0).trans rfl,(qh BK126.out 1).trans rfl,(qh BK126.out 2).trans rfl,(qh BK126.out 3).trans rfl,(qh BK126.out 4).trans rfl,(cb_ HB hw130_0:),(cb_ HB hw130_1:),(cb_ HB hw132_0:),(cb_ HB hw132_1:)⟩ (fun hHeld=>?_)
                      clear hK K
                      refine norm_ (a':=?_) ?_ ?_
                      rotate_left
                      · show Act.put _ (some 49) _ = _
                        simp only [Act.put,List.setIfInBounds_toArray,List.set_cons_zero,List.set_cons_succ,i64_w,i32_w]
                        rfl
                      refine pure_ (i:=19) (N:=some 50) (v:=?_) (a':=?_) #[true,true,true,true,true,true,true,true,true,true,true,true,true,true,true,true,true,true,true,true] rfl rfl (any_of HT_.out (by kernel_rfl)) (fun _ _ _ h=>h) (Or.inl ⟨by rfl,?_⟩) ?_ ?_
                      rotate_left
                      · intro w'
                        go_simp
                        with_reducible rfl
                      rotate_left
                      · simp only [Act.put,List.setIfInBounds_toArray,List.set_cons_zero,List.set_cons_succ,i64_w,i32_w]
                        rfl
                      refine done_ (done_of HT_.out (by kernel_rfl)) ?_
                      have hcz21_0 : w20.cell? ⟨gb125,0,none⟩ = some (.slice (some ad127) l0_0.length c0_0):=(qh BK125.out 0).trans rfl
                      have hcz21_1 : w20.cell? ⟨gb125,1,none⟩ = some (.slice (some ad130) l0_1.length c0_1):=(qh BK125.out 1).trans rfl
                      have hfz21_0:=qi BK125.out 0
                      have hfz21_1:=qi BK125.out 1
                      have p134 : 0 ≤ (x6_1 : Int):=of_decide_eq_true (by first|(with_reducible assumption)|assumption)
                      have q134 : x6_1 < (l0_1.length : Int):=of_decide_eq_true (by first|(with_reducible assumption)|assumption)
                      obtain ⟨ad134,A134_0,c134_0,e134,hx134_0,hx134_1,hl134_0,hi134_0⟩:=at_T97 HR0_1.out x6_1 p134 q134
                      obtain rfl : ad130 = ad134:=(by injection e134)
                      replace hx134_0:=cb_ HB hx134_0
                      replace hx134_1:=cb_ HB hx134_1
                      have HR134_0:=qn.mk hi134_0
                      have HC134_0:=qn.mk hl134_0
                      clear hi134_0 hl134_0
                      replace p134:=eq_true p134
                      replace q134:=eq_true q134
                      have ea_:=Option.some.inj (hx130_0.symm.trans hx134_0)
                      injection ea_ with ea_ en_ ec_
                      subst ea_
                      subst ec_
                      clear en_
                      try go_wp2
                      go_roundg k1
                      case measure=>have:=HK1.out;omega
                      case rel=>exact ⟨(wrap64 (x5_1 + ((rd_T97 l0_1 x6_1).f1))),(wrap64 (x6_1 + 1)),(by first|rfl|(simp;done)|(simp [*];done)),(by first|rfl|(simp;done)|(simp [*];done)),H',⟨by have:=HK1.out;omega⟩,⟨by (with_reducible repeat (first|refine qb ?_ _|refine qe ?_|refine qc ?_ _));exact BK125.out⟩,⟨by (with_reducible repeat (first|refine qb ?_ _|refine qe ?_|refine qc ?_ _));exact BK126.out⟩,⟨by repeat (first|(with_reducible first|exact HB.out|apply qf|apply qa|apply qd|refine qg ?_ GE125.out|refine qg ?_ GE126.out)|exact HB.out)⟩⟩
                    · replace c17:=Bool.eq_false_iff.mpr c17
                      subst c17
                      have H1 : (spec_l11Slack.l0 k1 x5_1 (wrap64 (x6_1 + 1)) l0_0 l0_1 a1_0 a1_1 a1_2 a1_3 a1_4) = some r:=by rw [if_neg (show ¬ (false = true) by decide)] at H;exact H
                      clear H
                      have H:=H1
                      clear H1
                      have H':=qn.mk H
                      clear H
                      have hnb22:=NB125_126.out
                      have hnc22:=NB126_125.out
                      have hcz23_0 : wr.cell? ⟨gb125,0,none⟩ = some (.slice (some ad127) l0_0.length c0_0):=(qh BK125.out 0).trans rfl
                      have hcz23_1 : wr.cell? ⟨gb125,1,none⟩ = some (.slice A0_1 l0_1.length c0_1):=(qh BK125.out 1).trans rfl
                      have hfz23_0:=qi BK125.out 0
                      have hfz23_1:=qi BK125.out 1
                      try go_wp2
                      have n0_:=qn.mk (qe BK125.out)
                      have n1_:=qn.mk (qe BK126.out)
                      have n2_:=qn.mk (qd HB.out)
                      clear BK125
                      clear BK126
                      clear HB
                      have BK125:=n0_
                      have BK126:=n1_
                      have HB:=n2_
                      clear n0_ n1_ n2_
                      have p130 : 0 ≤ (x6_1 : Int):=of_decide_eq_true (by first|(with_reducible assumption)|assumption)
                      have q130 : x6_1 < (l0_1.length : Int):=of_decide_eq_true (by first|(with_reducible assumption)|assumption)
                      obtain ⟨ad130,A130_0,c130_0,e130,hx130_0,hx130_1,hl130_0,hi130_0⟩:=at_T97 HR0_1.out x6_1 p130 q130
                      have hw130_1:=hx130_1
                      have hw130_0:=hx130_0
                      cases e130
                      replace hx130_0:=cb_ HB hx130_0
                      replace hx130_1:=cb_ HB hx130_1
                      have HR130_0:=qn.mk hi130_0
                      have HC130_0:=qn.mk hl130_0
                      clear hi130_0 hl130_0
                      replace p130:=eq_true p130
                      replace q130:=eq_true q130
                      have p132 : 0 ≤ (x6_1 : Int):=of_decide_eq_true (by first|(with_reducible assumption)|assumption)
                      have q132 : x6_1 < (l0_1.length : Int):=of_decide_eq_true (by first|(with_reducible assumption)|assumption)
                      obtain ⟨ad132,A132_0,c132_0,e132,hx132_0,hx132_1,hl132_0,hi132_0⟩:=at_T97 HR0_1.out x6_1 p132 q132
                      have hw132_1:=hx132_1
                      have hw132_0:=hx132_0
                      obtain rfl : ad130 = ad132:=(by injection e132)
                      replace hx132_0:=cb_ HB hx132_0
                      replace hx132_1:=cb_ HB hx132_1
                      have HR132_0:=qn.mk hi132_0
                      have HC132_0:=qn.mk hl132_0
                      clear hi132_0 hl132_0
                      replace p132:=eq_true p132
                      replace q132:=eq_true q132
                      have ea_:=Option.some.inj (hx130_0.symm.trans hx132_0)
                      injection ea_ with ea_ en_ ec_
                      subst ea_
                      subst ec_
                      clear en_
                      refine start_ (n:=20) (S:=fun w'=>w'.cell? ⟨gb125,0,none⟩ = some (.slice (some ad127) l0_0.length c0_0) ∧ w'.cell? ⟨gb125,1,none⟩ = some (.slice (some ad130) l0_1.length c0_1) ∧ w'.cell? ⟨gb126,0,none⟩ = some (.int .i64 a1_0) ∧ w'.cell? ⟨gb126,1,none⟩ = some (.int .i64 a1_1) ∧ w'.cell? ⟨gb126,2,none⟩ = some (.int .i64 a1_2) ∧ w'.cell? ⟨gb126,3,none⟩ = some (.int .i64 a1_3) ∧ w'.cell? ⟨gb126,4,none⟩ = some (.int .i64 a1_4) ∧ w'.cell? (ad130.add ((x6_1).toNat * 2)) = some (.slice A130_0 ((rd_T97 l0_1 x6_1).f0).length c130_0) ∧ w'.cell? ⟨(ad130.add ((x6_1).toNat * 2)).block,(ad130.add ((x6_1).toNat * 2)).off + 1,none⟩ = some (.int .i64 ((rd_T97 l0_1 x6_1).f1)) ∧ w'.cell? (ad130.add ((x6_1).toNat * 2)) = some (.slice A130_0 ((rd_T97 l0_1 x6_1).f0).length c130_0) ∧ w'.cell? ⟨(ad130.add ((x6_1).toNat * 2)).block,(ad130.add ((x6_1).toNat * 2)).off + 1,none⟩ = some (.int .i64 ((rd_T97 l0_1 x6_1).f1))) (ds:=[]) #[false,false,false,false,false,false,false,false,false,false,false,false,false,false,false,false,false,false,false,false] (by kernel_rfl) rfl rfl ⟨(qh BK125.out 0).trans rfl,(qh BK125.out 1).trans rfl,(qh BK126.out 0).trans rfl,(qh BK126.out 1).trans rfl,(qh BK126.out 2).trans rfl,(qh BK126.out 3).trans rfl,(qh BK126.out 4).trans rfl,(cb_ HB hw130_0:),(cb_ HB hw130_1:),(cb_ HB hw132_0:),(cb_ HB hw132_1:)⟩ (fun hHeld=>?_);refine with_tabW spec_l11Slack.tab5 spec_l11Slack.bits5 (fun HT_ HW_=>?_)
                      generalize wr.drew = w24 at BK125 BK126 HB HR130_0 HR132_0 hx130_0 hx130_1 hx132_0 hx132_1 hHeld ⊢
                      refine pure_ (i:=0) (N:=some 31) (v:=?_) (a':=?_) #[true,false,false,false,false,false,false,false,false,false,false,false,false,false,false,false,false,false,false,false] rfl rfl (any_of HT_.out (by kernel_rfl)) (fun _ _ _ h=>h) (Or.inl ⟨by rfl,?_⟩) ?_ ?_
                      rotate_left
                      · intro w'
                        go_simp
                        with_reducible rfl
                      rotate_left
                      · simp only [Act.put,List.setIfInBounds_toArray,List.set_cons_zero,List.set_cons_succ,i64_w,i32_w]
                        rfl
                      refine pure_ (i:=2) (N:=some 33) (v:=?_) (a':=?_) #[true,false,true,false,false,false,false,false,false,false,false,false,false,false,false,false,false,false,false,false] rfl rfl (any_of HT_.out (by kernel_rfl)) (fun _ _ _ h=>h) (Or.inl ⟨by rfl,?_⟩) ?_ ?_
                      rotate_left
                      · intro w'
                        go_simp
                        with_reducible rfl
                      rotate_left
                      · simp only [Act.put,List.setIfInBounds_toArray,List.set_cons_zero,List.set_cons_succ,i64_w,i32_w]
                        rfl
                      refine pure_ (i:=6) (N:=some 37) (v:=?_) (a':=?_) #[true,false,true,false,false,false,true,false,false,false,false,false,false,false,false,false,false,false,false,false] rfl rfl (any_of HT_.out (by kernel_rfl)) (fun _ _ _ h=>h) (Or.inl ⟨by rfl,?_⟩) ?_ ?_
                      rotate_left
                      · intro w'
                        go_simp
                        with_reducible rfl
                      rotate_left
                      · simp only [Act.put,List.setIfInBounds_toArray,List.set_cons_zero,List.set_cons_succ,i64_w,i32_w]
                        rfl
                      refine take_ (i:=1) (N:=some 32) (v:=?_) (a':=?_) #[true,true,true,false,false,false,true,false,false,false,false,false,false,false,false,false,false,false,false,false] rfl rfl (take_ofW HT_.out HW_.out (by kernel_rfl)) (fun _ _ _ h=>h) (Or.inl ⟨by rfl,?_⟩) hHeld ?_ ?_
                      rotate_left
                      · rintro w' ⟨s0,s1,s2,s3,s4,s5,s6,s7,s8,s9,s10⟩
                        go_simp
                        with_reducible rfl
                      rotate_left
                      · simp only [Act.put,List.setIfInBounds_toArray,List.set_cons_zero,List.set_cons_succ,i64_w,i32_w]
                        rfl
                      refine pure_ (i:=3) (N:=some 34) (v:=?_) (a':=?_) #[true,true,true,true,false,false,true,false,false,false,false,false,false,false,false,false,false,false,false,false] rfl rfl (any_of HT_.out (by kernel_rfl)) (fun _ _ _ h=>h) (Or.inl ⟨by rfl,?_⟩) ?_ ?_
                      rotate_left
                      · intro w'
                        go_simp
                        with_reducible rfl
                      rotate_left
                      · simp only [Act.put,List.setIfInBounds_toArray,List.set_cons_zero,List.set_cons_succ,i64_w,i32_w]
                        rfl
                      refine pure_ (i:=4) (N:=some 35) (v:=?_) (a':=?_) #[true,true,true,true,true,false,true,false,false,false,false,false,false,false,false,false,false,false,false,false] rfl rfl (any_of HT_.out (by kernel_rfl)) (fun _ _ _ h=>h) (Or.inl ⟨by rfl,?_⟩) ?_ ?_
                      rotate_left
                      · intro w'
                        go_simp
                        with_reducible rfl
                      rotate_left
                      · simp only [Act.put,List.setIfInBounds_toArray,List.set_cons_zero,List.set_cons_succ,i64_w,i32_w]
                        rfl
                      refine take_ (i:=5) (N:=some 36) (v:=?_) (a':=?_) #[true,true,true,true,true,true,true,false,false,false,false,false,false,false,false,false,false,false,false,false] rfl rfl (take_ofW HT_.out HW_.out (by kernel_rfl)) (fun _ _ _ h=>h) (Or.inl ⟨by rfl,?_⟩) hHeld ?_ ?_
                      rotate_left
                      · rintro w' ⟨s0,s1,s2,s3,s4,s5,s6,s7,s8,s9,s10⟩
                        go_simp
                        with_reducible rfl
                      rotate_left
                      · simp only [Act.put,List.setIfInBounds_toArray,List.set_cons_zero,List.set_cons_succ,i64_w,i32_w]
                        rfl
                      refine take_ (i:=7) (N:=some 38) (v:=?_) (a':=?_) #[true,true,true,true,true,true,true,true,false,false,false,false,false,false,false,false,false,false,false,false] rfl rfl (take_ofW HT_.out HW_.out (by kernel_rfl)) (fun _ _ _ h=>h) (Or.inl ⟨by rfl,?_⟩) hHeld ?_ ?_
                      rotate_left
                      · rintro w' ⟨s0,s1,s2,s3,s4,s5,s6,s7,s8,s9,s10⟩
                        go_simp
                        with_reducible rfl
                      rotate_left
                      · simp only [Act.put,List.setIfInBounds_toArray,List.set_cons_zero,List.set_cons_succ,i64_w,i32_w]
                        rfl
                      refine one_ (i:=8) (N:=some 39) #[true,true,true,true,true,true,true,true,true,false,false,false,false,false,false,false,false,false,false,false] rfl rfl (one_of HT_.out (by kernel_rfl)) (by decide) (fun K hK=>?_)
                      refine goes_ Try.func74 (by kernel_rfl) rfl #[.slice A130_0 ((rd_T97 l0_1 x6_1).f0).length c130_0,.int .i64 a1_0] (by rfl) rfl rfl (by (try simp only [List.map_toArray,List.map_cons,List.map_nil]);first|done|rfl|(simp only [List.length_drop,List.length_take];rfl)) ?_
                      with_reducible refine (spec_l03In.calls k1 _ _ ((rd_T97 l0_1 x6_1).f0) a1_0 true _ ?side1 ?side2 A14.out).mono ?_
                      (case side1=>repeat (first|exact (Kd.C_below HR130_0.out HB.out)|(with_reducible refine Kd.C_alloc ?_ _)|(with_reducible refine Kd.C_drewN ?_ _)|(with_reducible refine Kd.C_drew ?_)))
                      (case side2=>exact HC130_0.out)
                      rintro e w' ⟨rfl,⟨nd,rfl⟩⟩
                      refine ⟨_,rfl,?_⟩
                      refine hK.out _ _ ⟨(qh BK125.out 0).trans rfl,(qh BK125.out 1).trans rfl,(qh BK126.out 0).trans rfl,(qh BK126.out 1).trans rfl,(qh BK126.out 2).trans rfl,(qh BK126.out 3).trans rfl,(qh BK126.out 4).trans rfl,(cb_ HB hw130_0:),(cb_ HB hw130_1:),(cb_ HB hw132_0:),(cb_ HB hw132_1:)⟩ (fun hHeld=>?_)
                      clear hK K
                      refine norm_ (a':=?_) ?_ ?_
                      rotate_left
                      · show Act.put _ (some 39) _ = _
                        simp only [Act.put,List.setIfInBounds_toArray,List.set_cons_zero,List.set_cons_succ,i64_w,i32_w]
                        rfl
                      refine pure_ (i:=9) (N:=some 40) (v:=?_) (a':=?_) #[true,true,true,true,true,true,true,true,true,true,false,false,false,false,false,false,false,false,false,false] rfl rfl (any_of HT_.out (by kernel_rfl)) (fun _ _ _ h=>h) (Or.inl ⟨by rfl,?_⟩) ?_ ?_
                      rotate_left
                      · intro w'
                        go_simp
                        with_reducible rfl
                      rotate_left
                      · simp only [Act.put,List.setIfInBounds_toArray,List.set_cons_zero,List.set_cons_succ,i64_w,i32_w]
                        rfl
                      refine pure_ (i:=10) (N:=some 41) (v:=?_) (a':=?_) #[true,true,true,true,true,true,true,true,true,true,true,false,false,false,false,false,false,false,false,false] rfl rfl (any_of HT_.out (by kernel_rfl)) (fun _ _ _ h=>h) (Or.inl ⟨by rfl,?_⟩) ?_ ?_
                      rotate_left
                      · intro w'
                        go_simp
                        with_reducible rfl
                      rotate_left
                      · simp only [Act.put,List.setIfInBounds_toArray,List.set_cons_zero,List.set_cons_succ,i64_w,i32_w]
                        rfl
                      refine pure_ (i:=12) (N:=some 43) (v:=?_) (a':=?_) #[true,true,true,true,true,true,true,true,true,true,true,false,true,false,false,false,false,false,false,false] rfl rfl (any_of HT_.out (by kernel_rfl)) (fun _ _ _ h=>h) (Or.inl ⟨by rfl,?_⟩) ?_ ?_
                      rotate_left
                      · intro w'
                        go_simp
                        with_reducible rfl
                      rotate_left
                      · simp only [Act.put,List.setIfInBounds_toArray,List.set_cons_zero,List.set_cons_succ,i64_w,i32_w]
                        rfl
                      refine pure_ (i:=16) (N:=some 47) (v:=?_) (a':=?_) #[true,true,true,true,true,true,true,true,true,true,true,false,true,false,false,false,true,false,false,false] rfl rfl (any_of HT_.out (by kernel_rfl)) (fun _ _ _ h=>h) (Or.inl ⟨by rfl,?_⟩) ?_ ?_
                      rotate_left
                      · intro w'
                        go_simp
                        with_reducible rfl
                      rotate_left
                      · simp only [Act.put,List.setIfInBounds_toArray,List.set_cons_zero,List.set_cons_succ,i64_w,i32_w]
                        rfl
                      refine take_ (i:=11) (N:=some 42) (v:=?_) (a':=?_) #[true,true,true,true,true,true,true,true,true,true,true,true,true,false,false,false,true,false,false,false] rfl rfl (take_ofW HT_.out HW_.out (by kernel_rfl)) (fun _ _ _ h=>h) (Or.inl ⟨by rfl,?_⟩) hHeld ?_ ?_
                      rotate_left
                      · rintro w' ⟨s0,s1,s2,s3,s4,s5,s6,s7,s8,s9,s10⟩
                        go_simp
                        with_reducible rfl
                      rotate_left
                      · simp only [Act.put,List.setIfInBounds_toArray,List.set_cons_zero,List.set_cons_succ,i64_w,i32_w]
                        rfl
                      refine pure_ (i:=13) (N:=some 44) (v:=?_) (a':=?_) #[true,true,true,true,true,true,true,true,true,true,true,true,true,true,false,false,true,false,false,false] rfl rfl (any_of HT_.out (by kernel_rfl)) (fun _ _ _ h=>h) (Or.inl ⟨by rfl,?_⟩) ?_ ?_
                      rotate_left
                      · intro w'
                        go_simp
                        with_reducible rfl
                      rotate_left
                      · simp only [Act.put,List.setIfInBounds_toArray,List.set_cons_zero,List.set_cons_succ,i64_w,i32_w]
                        rfl
                      refine pure_ (i:=14) (N:=some 45) (v:=?_) (a':=?_) #[true,true,true,true,true,true,true,true,true,true,true,true,true,true,true,false,true,false,false,false] rfl rfl (any_of HT_.out (by kernel_rfl)) (fun _ _ _ h=>h) (Or.inl ⟨by rfl,?_⟩) ?_ ?_
                      rotate_left
                      · intro w'
                        go_simp
                        with_reducible rfl
                      rotate_left
                      · simp only [Act.put,List.setIfInBounds_toArray,List.set_cons_zero,List.set_cons_succ,i64_w,i32_w]
                        rfl
                      refine take_ (i:=15) (N:=some 46) (v:=?_) (a':=?_) #[true,true,true,true,true,true,true,true,true,true,true,true,true,true,true,true,true,false,false,false] rfl rfl (take_ofW HT_.out HW_.out (by kernel_rfl)) (fun _ _ _ h=>h) (Or.inl ⟨by rfl,?_⟩) hHeld ?_ ?_
                      rotate_left
                      · rintro w' ⟨s0,s1,s2,s3,s4,s5,s6,s7,s8,s9,s10⟩
                        go_simp
                        with_reducible rfl
                      rotate_left
                      · simp only [Act.put,List.setIfInBounds_toArray,List.set_cons_zero,List.set_cons_succ,i64_w,i32_w]
                        rfl
                      refine take_ (i:=17) (N:=some 48) (v:=?_) (a':=?_) #[true,true,true,true,true,true,true,true,true,true,true,true,true,true,true,true,true,true,false,false] rfl rfl (take_ofW HT_.out HW_.out (by kernel_rfl)) (fun _ _ _ h=>h) (Or.inl ⟨by rfl,?_⟩) hHeld ?_ ?_
                      rotate_left
                      · rintro w' ⟨s0,s1,s2,s3,s4,s5,s6,s7,s8,s9,s10⟩
                        go_simp
                        with_reducible rfl
                      rotate_left
                      · simp only [Act.put,List.setIfInBounds_toArray,List.set_cons_zero,List.set_cons_succ,i64_w,i32_w]
                        rfl
                      refine one_ (i:=18) (N:=some 49) #[true,true,true,true,true,true,true,true,true,true,true,true,true,true,true,true,true,true,true,false] rfl rfl (one_of HT_.out (by kernel_rfl)) (by decide) (fun K hK=>?_)
                      refine goes_ Try.func74 (by kernel_rfl) rfl #[.slice A130_0 ((rd_T97 l0_1 x6_1).f0).length c130_0,.int .i64 a1_1] (by rfl) rfl rfl (by (try simp only [List.map_toArray,List.map_cons,List.map_nil]);first|done|rfl|(simp only [List.length_drop,List.length_take];rfl)) ?_
                      with_reducible refine (spec_l03In.calls k1 _ _ ((rd_T97 l0_1 x6_1).f0) a1_1 false _ ?side1 ?side2 A16.out).mono ?_
                      (case side1=>repeat (first|exact (Kd.C_below HR132_0.out (by repeat (first|(with_reducible first|exact HB.out|apply qf|apply qa|apply qd|refine qg ?_ GE125.out|refine qg ?_ GE126.out)|exact HB.out)))|(with_reducible refine Kd.C_alloc ?_ _)|(with_reducible refine Kd.C_drewN ?_ _)|(with_reducible refine Kd.C_drew ?_)))
                      (case side2=>exact HC132_0.out)
                      rintro e w' ⟨rfl,⟨nd,rfl⟩⟩
                      refine ⟨_,rfl,?_⟩
                      refine hK.out _ _ ⟨(qh BK125.out 0).trans rfl,(qh BK125.out 1).trans rfl,(qh BK126.out 0).trans rfl,(qh BK126.out 1).trans rfl,(qh BK126.out 2).trans rfl,(qh BK126.out 3).trans rfl,(qh BK126.out 4).trans rfl,(cb_ HB hw130_0:),(cb_ HB hw130_1:),(cb_ HB hw132_0:),(cb_ HB hw132_1:)⟩ (fun hHeld=>?_)
                      clear hK K
                      refine norm_ (a':=?_) ?_ ?_
                      rotate_left
                      · show Act.put _ (some 49) _ = _
                        simp only [Act.put,List.setIfInBounds_toArray,List.set_cons_zero,List.set_cons_succ,i64_w,i32_w]
                        rfl
                      refine pure_ (i:=19) (N:=some 50) (v:=?_) (a':=?_) #[true,true,true,true,true,true,true,true,true,true,true,true,true,true,true,true,true,true,true,true] rfl rfl (any_of HT_.out (by kernel_rfl)) (fun _ _ _ h=>h) (Or.inl ⟨by rfl,?_⟩) ?_ ?_
                      rotate_left
                      · intro w'
                        go_simp
                        with_reducible rfl
                      rotate_left
                      · simp only [Act.put,List.setIfInBounds_toArray,List.set_cons_zero,List.set_cons_succ,i64_w,i32_w]
                        rfl
                      refine done_ (done_of HT_.out (by kernel_rfl)) ?_
                      try go_wp2
                      go_roundg k1
                      case measure=>have:=HK1.out;omega
                      case rel=>exact ⟨(x5_1),(wrap64 (x6_1 + 1)),(by first|rfl|(simp;done)|(simp [*];done)),(by first|rfl|(simp;done)|(simp [*];done)),H',⟨by have:=HK1.out;omega⟩,⟨by (with_reducible repeat (first|refine qb ?_ _|refine qe ?_|refine qc ?_ _));exact BK125.out⟩,⟨by (with_reducible repeat (first|refine qb ?_ _|refine qe ?_|refine qc ?_ _));exact BK126.out⟩,⟨by repeat (first|(with_reducible first|exact HB.out|apply qf|apply qa|apply qd|refine qg ?_ GE125.out|refine qg ?_ GE126.out)|exact HB.out)⟩⟩
                  · replace c15:=Bool.eq_false_iff.mpr c15
                    subst c15
                    have H1 : (spec_l11Slack.l0 k1 x5_1 (wrap64 (x6_1 + 1)) l0_0 l0_1 a1_0 a1_1 a1_2 a1_3 a1_4) = some r:=by rw [if_neg (show ¬ (false = true) by decide)] at H;exact H
                    clear H
                    have H:=H1
                    clear H1
                    have H':=qn.mk H
                    clear H
                    have hnb25:=NB125_126.out
                    have hnc25:=NB126_125.out
                    have hcz26_0 : wr.cell? ⟨gb125,0,none⟩ = some (.slice (some ad127) l0_0.length c0_0):=(qh BK125.out 0).trans rfl
                    have hcz26_1 : wr.cell? ⟨gb125,1,none⟩ = some (.slice A0_1 l0_1.length c0_1):=(qh BK125.out 1).trans rfl
                    have hfz26_0:=qi BK125.out 0
                    have hfz26_1:=qi BK125.out 1
                    try go_wp2
                    have n0_:=qn.mk (qe BK125.out)
                    have n1_:=qn.mk (qe BK126.out)
                    have n2_:=qn.mk (qd HB.out)
                    clear BK125
                    clear BK126
                    clear HB
                    have BK125:=n0_
                    have BK126:=n1_
                    have HB:=n2_
                    clear n0_ n1_ n2_
                    have p130 : 0 ≤ (x6_1 : Int):=of_decide_eq_true (by first|(with_reducible assumption)|assumption)
                    have q130 : x6_1 < (l0_1.length : Int):=of_decide_eq_true (by first|(with_reducible assumption)|assumption)
                    obtain ⟨ad130,A130_0,c130_0,e130,hx130_0,hx130_1,hl130_0,hi130_0⟩:=at_T97 HR0_1.out x6_1 p130 q130
                    have hw130_1:=hx130_1
                    have hw130_0:=hx130_0
                    cases e130
                    replace hx130_0:=cb_ HB hx130_0
                    replace hx130_1:=cb_ HB hx130_1
                    have HR130_0:=qn.mk hi130_0
                    have HC130_0:=qn.mk hl130_0
                    clear hi130_0 hl130_0
                    replace p130:=eq_true p130
                    replace q130:=eq_true q130
                    refine start_ (n:=20) (S:=fun w'=>w'.cell? ⟨gb125,0,none⟩ = some (.slice (some ad127) l0_0.length c0_0) ∧ w'.cell? ⟨gb125,1,none⟩ = some (.slice (some ad130) l0_1.length c0_1) ∧ w'.cell? ⟨gb126,0,none⟩ = some (.int .i64 a1_0) ∧ w'.cell? ⟨gb126,1,none⟩ = some (.int .i64 a1_1) ∧ w'.cell? ⟨gb126,2,none⟩ = some (.int .i64 a1_2) ∧ w'.cell? ⟨gb126,3,none⟩ = some (.int .i64 a1_3) ∧ w'.cell? ⟨gb126,4,none⟩ = some (.int .i64 a1_4) ∧ w'.cell? (ad130.add ((x6_1).toNat * 2)) = some (.slice A130_0 ((rd_T97 l0_1 x6_1).f0).length c130_0) ∧ w'.cell? ⟨(ad130.add ((x6_1).toNat * 2)).block,(ad130.add ((x6_1).toNat * 2)).off + 1,none⟩ = some (.int .i64 ((rd_T97 l0_1 x6_1).f1))) (ds:=[]) #[false,false,false,false,false,false,false,false,false,false,false,false,false,false,false,false,false,false,false,false] (by kernel_rfl) rfl rfl ⟨(qh BK125.out 0).trans rfl,(qh BK125.out 1).trans rfl,(qh BK126.out 0).trans rfl,(qh BK126.out 1).trans rfl,(qh BK126.out 2).trans rfl,(qh BK126.out 3).trans rfl,(qh BK126.out 4).trans rfl,(cb_ HB hw130_0:),(cb_ HB hw130_1:)⟩ (fun hHeld=>?_);refine with_tabW spec_l11Slack.tab5 spec_l11Slack.bits5 (fun HT_ HW_=>?_)
                    generalize wr.drew = w27 at BK125 BK126 HB HR130_0 hx130_0 hx130_1 hHeld ⊢
                    refine pure_ (i:=0) (N:=some 31) (v:=?_) (a':=?_) #[true,false,false,false,false,false,false,false,false,false,false,false,false,false,false,false,false,false,false,false] rfl rfl (any_of HT_.out (by kernel_rfl)) (fun _ _ _ h=>h) (Or.inl ⟨by rfl,?_⟩) ?_ ?_
                    rotate_left
                    · intro w'
                      go_simp
                      with_reducible rfl
                    rotate_left
                    · simp only [Act.put,List.setIfInBounds_toArray,List.set_cons_zero,List.set_cons_succ,i64_w,i32_w]
                      rfl
                    refine pure_ (i:=2) (N:=some 33) (v:=?_) (a':=?_) #[true,false,true,false,false,false,false,false,false,false,false,false,false,false,false,false,false,false,false,false] rfl rfl (any_of HT_.out (by kernel_rfl)) (fun _ _ _ h=>h) (Or.inl ⟨by rfl,?_⟩) ?_ ?_
                    rotate_left
                    · intro w'
                      go_simp
                      with_reducible rfl
                    rotate_left
                    · simp only [Act.put,List.setIfInBounds_toArray,List.set_cons_zero,List.set_cons_succ,i64_w,i32_w]
                      rfl
                    refine pure_ (i:=6) (N:=some 37) (v:=?_) (a':=?_) #[true,false,true,false,false,false,true,false,false,false,false,false,false,false,false,false,false,false,false,false] rfl rfl (any_of HT_.out (by kernel_rfl)) (fun _ _ _ h=>h) (Or.inl ⟨by rfl,?_⟩) ?_ ?_
                    rotate_left
                    · intro w'
                      go_simp
                      with_reducible rfl
                    rotate_left
                    · simp only [Act.put,List.setIfInBounds_toArray,List.set_cons_zero,List.set_cons_succ,i64_w,i32_w]
                      rfl
                    refine take_ (i:=1) (N:=some 32) (v:=?_) (a':=?_) #[true,true,true,false,false,false,true,false,false,false,false,false,false,false,false,false,false,false,false,false] rfl rfl (take_ofW HT_.out HW_.out (by kernel_rfl)) (fun _ _ _ h=>h) (Or.inl ⟨by rfl,?_⟩) hHeld ?_ ?_
                    rotate_left
                    · rintro w' ⟨s0,s1,s2,s3,s4,s5,s6,s7,s8⟩
                      go_simp
                      with_reducible rfl
                    rotate_left
                    · simp only [Act.put,List.setIfInBounds_toArray,List.set_cons_zero,List.set_cons_succ,i64_w,i32_w]
                      rfl
                    refine pure_ (i:=3) (N:=some 34) (v:=?_) (a':=?_) #[true,true,true,true,false,false,true,false,false,false,false,false,false,false,false,false,false,false,false,false] rfl rfl (any_of HT_.out (by kernel_rfl)) (fun _ _ _ h=>h) (Or.inl ⟨by rfl,?_⟩) ?_ ?_
                    rotate_left
                    · intro w'
                      go_simp
                      with_reducible rfl
                    rotate_left
                    · simp only [Act.put,List.setIfInBounds_toArray,List.set_cons_zero,List.set_cons_succ,i64_w,i32_w]
                      rfl
                    refine pure_ (i:=4) (N:=some 35) (v:=?_) (a':=?_) #[true,true,true,true,true,false,true,false,false,false,false,false,false,false,false,false,false,false,false,false] rfl rfl (any_of HT_.out (by kernel_rfl)) (fun _ _ _ h=>h) (Or.inl ⟨by rfl,?_⟩) ?_ ?_
                    rotate_left
                    · intro w'
                      go_simp
                      with_reducible rfl
                    rotate_left
                    · simp only [Act.put,List.setIfInBounds_toArray,List.set_cons_zero,List.set_cons_succ,i64_w,i32_w]
                      rfl
                    refine take_ (i:=5) (N:=some 36) (v:=?_) (a':=?_) #[true,true,true,true,true,true,true,false,false,false,false,false,false,false,false,false,false,false,false,false] rfl rfl (take_ofW HT_.out HW_.out (by kernel_rfl)) (fun _ _ _ h=>h) (Or.inl ⟨by rfl,?_⟩) hHeld ?_ ?_
                    rotate_left
                    · rintro w' ⟨s0,s1,s2,s3,s4,s5,s6,s7,s8⟩
                      go_simp
                      with_reducible rfl
                    rotate_left
                    · simp only [Act.put,List.setIfInBounds_toArray,List.set_cons_zero,List.set_cons_succ,i64_w,i32_w]
                      rfl
                    refine take_ (i:=7) (N:=some 38) (v:=?_) (a':=?_) #[true,true,true,true,true,true,true,true,false,false,false,false,false,false,false,false,false,false,false,false] rfl rfl (take_ofW HT_.out HW_.out (by kernel_rfl)) (fun _ _ _ h=>h) (Or.inl ⟨by rfl,?_⟩) hHeld ?_ ?_
                    rotate_left
                    · rintro w' ⟨s0,s1,s2,s3,s4,s5,s6,s7,s8⟩
                      go_simp
                      with_reducible rfl
                    rotate_left
                    · simp only [Act.put,List.setIfInBounds_toArray,List.set_cons_zero,List.set_cons_succ,i64_w,i32_w]
                      rfl
                    refine one_ (i:=8) (N:=some 39) #[true,true,true,true,true,true,true,true,true,false,false,false,false,false,false,false,false,false,false,false] rfl rfl (one_of HT_.out (by kernel_rfl)) (by decide) (fun K hK=>?_)
                    refine goes_ Try.func74 (by kernel_rfl) rfl #[.slice A130_0 ((rd_T97 l0_1 x6_1).f0).length c130_0,.int .i64 a1_0] (by rfl) rfl rfl (by (try simp only [List.map_toArray,List.map_cons,List.map_nil]);first|done|rfl|(simp only [List.length_drop,List.length_take];rfl)) ?_
                    with_reducible refine (spec_l03In.calls k1 _ _ ((rd_T97 l0_1 x6_1).f0) a1_0 false _ ?side1 ?side2 A14.out).mono ?_
                    (case side1=>repeat (first|exact (Kd.C_below HR130_0.out HB.out)|(with_reducible refine Kd.C_alloc ?_ _)|(with_reducible refine Kd.C_drewN ?_ _)|(with_reducible refine Kd.C_drew ?_)))
                    (case side2=>exact HC130_0.out)
                    rintro e w' ⟨rfl,⟨nd,rfl⟩⟩
                    refine ⟨_,rfl,?_⟩
                    refine hK.out _ _ ⟨(qh BK125.out 0).trans rfl,(qh BK125.out 1).trans rfl,(qh BK126.out 0).trans rfl,(qh BK126.out 1).trans rfl,(qh BK126.out 2).trans rfl,(qh BK126.out 3).trans rfl,(qh BK126.out 4).trans rfl,(cb_ HB hw130_0:),(cb_ HB hw130_1:)⟩ (fun hHeld=>?_)
                    clear hK K
                    refine norm_ (a':=?_) ?_ ?_
                    rotate_left
                    · show Act.put _ (some 39) _ = _
                      simp only [Act.put,List.setIfInBounds_toArray,List.set_cons_zero,List.set_cons_succ,i64_w,i32_w]
                      rfl
                    refine pure_ (i:=9) (N:=some 40) (v:=?_) (a':=?_) #[true,true,true,true,true,true,true,true,true,true,false,false,false,false,false,false,false,false,false,false] rfl rfl (any_of HT_.out (by kernel_rfl)) (fun _ _ _ h=>h) (Or.inl ⟨by rfl,?_⟩) ?_ ?_
                    rotate_left
                    · intro w'
                      go_simp
                      with_reducible rfl
                    rotate_left
                    · simp only [Act.put,List.setIfInBounds_toArray,List.set_cons_zero,List.set_cons_succ,i64_w,i32_w]
                      rfl
                    refine pure_ (i:=10) (N:=some 41) (v:=undef) (a':=?_) #[true,true,true,true,true,true,true,true,true,true,true,false,false,false,false,false,false,false,false,false] rfl rfl (any_of HT_.out (by kernel_rfl)) (fun _ _ _ h=>h) (Or.inr ⟨by rfl,rfl⟩) ?_ ?_
                    rotate_left
                    · simp only [Act.put,List.setIfInBounds_toArray,List.set_cons_zero,List.set_cons_succ,i64_w,i32_w]
                      rfl
                    refine pure_ (i:=11) (N:=some 42) (v:=undef) (a':=?_) #[true,true,true,true,true,true,true,true,true,true,true,true,false,false,false,false,false,false,false,false] rfl rfl (any_of HT_.out (by kernel_rfl)) (fun _ _ _ h=>h) (Or.inr ⟨by rfl,rfl⟩) ?_ ?_
                    rotate_left
                    · simp only [Act.put,List.setIfInBounds_toArray,List.set_cons_zero,List.set_cons_succ,i64_w,i32_w]
                      rfl
                    refine pure_ (i:=12) (N:=some 43) (v:=undef) (a':=?_) #[true,true,true,true,true,true,true,true,true,true,true,true,true,false,false,false,false,false,false,false] rfl rfl (any_of HT_.out (by kernel_rfl)) (fun _ _ _ h=>h) (Or.inr ⟨by rfl,rfl⟩) ?_ ?_
                    rotate_left
                    · simp only [Act.put,List.setIfInBounds_toArray,List.set_cons_zero,List.set_cons_succ,i64_w,i32_w]
                      rfl
                    refine pure_ (i:=13) (N:=some 44) (v:=undef) (a':=?_) #[true,true,true,true,true,true,true,true,true,true,true,true,true,true,false,false,false,false,false,false] rfl rfl (any_of HT_.out (by kernel_rfl)) (fun _ _ _ h=>h) (Or.inr ⟨by rfl,rfl⟩) ?_ ?_
                    rotate_left
                    · simp only [Act.put,List.setIfInBounds_toArray,List.set_cons_zero,List.set_cons_succ,i64_w,i32_w]
                      rfl
                    refine pure_ (i:=14) (N:=some 45) (v:=undef) (a':=?_) #[true,true,true,true,true,true,true,true,true,true,true,true,true,true,true,false,false,false,false,false] rfl rfl (any_of HT_.out (by kernel_rfl)) (fun _ _ _ h=>h) (Or.inr ⟨by rfl,rfl⟩) ?_ ?_
                    rotate_left
                    · simp only [Act.put,List.setIfInBounds_toArray,List.set_cons_zero,List.set_cons_succ,i64_w,i32_w]
                      rfl
                    refine pure_ (i:=15) (N:=some 46) (v:=undef) (a':=?_) #[true,true,true,true,true,true,true,true,true,true,true,true,true,true,true,true,false,false,false,false] rfl rfl (any_of HT_.out (by kernel_rfl)) (fun _ _ _ h=>h) (Or.inr ⟨by rfl,rfl⟩) ?_ ?_
                    rotate_left
                    · simp only [Act.put,List.setIfInBounds_toArray,List.set_cons_zero,List.set_cons_succ,i64_w,i32_w]
                      rfl
                    refine pure_ (i:=16) (N:=some 47) (v:=undef) (a':=?_) #[true,true,true,true,true,true,true,true,true,true,true,true,true,true,true,true,true,false,false,false] rfl rfl (any_of HT_.out (by kernel_rfl)) (fun _ _ _ h=>h) (Or.inr ⟨by rfl,rfl⟩) ?_ ?_
                    rotate_left
                    · simp only [Act.put,List.setIfInBounds_toArray,List.set_cons_zero,List.set_cons_succ,i64_w,i32_w]
                      rfl
                    refine pure_ (i:=17) (N:=some 48) (v:=undef) (a':=?_) #[true,true,true,true,true,true,true,true,true,true,true,true,true,true,true,true,true,true,false,false] rfl rfl (any_of HT_.out (by kernel_rfl)) (fun _ _ _ h=>h) (Or.inr ⟨by rfl,rfl⟩) ?_ ?_
                    rotate_left
                    · simp only [Act.put,List.setIfInBounds_toArray,List.set_cons_zero,List.set_cons_succ,i64_w,i32_w]
                      rfl
                    refine pure_ (i:=18) (N:=some 49) (v:=undef) (a':=?_) #[true,true,true,true,true,true,true,true,true,true,true,true,true,true,true,true,true,true,true,false] rfl rfl (any_of HT_.out (by kernel_rfl)) (fun _ _ _ h=>h) (Or.inr ⟨by rfl,rfl⟩) ?_ ?_
                    rotate_left
                    · simp only [Act.put,List.setIfInBounds_toArray,List.set_cons_zero,List.set_cons_succ,i64_w,i32_w]
                      rfl
                    refine pure_ (i:=19) (N:=some 50) (v:=?_) (a':=?_) #[true,true,true,true,true,true,true,true,true,true,true,true,true,true,true,true,true,true,true,true] rfl rfl (any_of HT_.out (by kernel_rfl)) (fun _ _ _ h=>h) (Or.inl ⟨by rfl,?_⟩) ?_ ?_
                    rotate_left
                    · intro w'
                      go_simp
                      with_reducible rfl
                    rotate_left
                    · simp only [Act.put,List.setIfInBounds_toArray,List.set_cons_zero,List.set_cons_succ,i64_w,i32_w]
                      rfl
                    refine done_ (done_of HT_.out (by kernel_rfl)) ?_
                    try go_wp2
                    go_roundg k1
                    case measure=>have:=HK1.out;omega
                    case rel=>exact ⟨(x5_1),(wrap64 (x6_1 + 1)),(by first|rfl|(simp;done)|(simp [*];done)),(by first|rfl|(simp;done)|(simp [*];done)),H',⟨by have:=HK1.out;omega⟩,⟨by (with_reducible repeat (first|refine qb ?_ _|refine qe ?_|refine qc ?_ _));exact BK125.out⟩,⟨by (with_reducible repeat (first|refine qb ?_ _|refine qe ?_|refine qc ?_ _));exact BK126.out⟩,⟨by repeat (first|(with_reducible first|exact HB.out|apply qf|apply qa|apply qd|refine qg ?_ GE125.out|refine qg ?_ GE126.out)|exact HB.out)⟩⟩
                · rw [if_neg c13] at H
                  exact absurd H (by simp)
              · rw [if_neg c12] at H
                have c12b0 : decide (x6_1 < (l0_1.length : Int)) = false:=decide_eq_false c12
                clear c12
                obtain rfl:=Option.some.inj H
                have hnb28:=NB125_126.out
                have hnc28:=NB126_125.out
                have hcz29_0 : wr.cell? ⟨gb125,0,none⟩ = some (.slice (some ad127) l0_0.length c0_0):=(qh BK125.out 0).trans rfl
                have hcz29_1 : wr.cell? ⟨gb125,1,none⟩ = some (.slice A0_1 l0_1.length c0_1):=(qh BK125.out 1).trans rfl
                have hfz29_0:=qi BK125.out 0
                have hfz29_1:=qi BK125.out 1
                go_wp2
                go_ret
                exact ⟨by first|rfl|(simp [errW_none,errW_some] <;> rfl)|(simp [*,errW_none,errW_some] <;> rfl),by repeat (first|(with_reducible first|exact HB.out|apply qf|apply qa|apply qd|refine qg ?_ GE125.out|refine qg ?_ GE126.out)|exact HB.out)⟩
        · rw [if_neg c6] at H
          exact absurd H (by simp)
      · rw [if_neg c5] at H
        exact absurd H (by simp)
    · rw [if_neg c4] at H
      exact absurd H (by simp)
  · rw [if_neg c3] at H
    exact absurd H (by simp)

end Go.Proofs.Ytcdofljgeiohgaa.QFnExactProofOk
