/- Lean functions for the Go functions that the law FnExactProofOk reaches, and that each Go function comes to just its Lean function's answer; by a program of this session. -/
import Derived.Test.YtcdofljgeiohgaaZFnExactProofOkx0
import Derived.Test.YtcdofljgeiohgaaZFnExactProofOkx8
namespace Go.Proofs.Ytcdofljgeiohgaa.QFnExactProofOk
open Go.RowKit Go.Proofs.YtcdofljgeiohgaaW.PrintWords Go.Proofs.YtcdofljgeiohgaaW.PrintLast Go.Proofs.YtcdofljgeiohgaaW.PrintMore
attribute [local go_sem] max2_int min2_int max_two min_two max_three min_three max_four min_four   -- for this text's walks alone
set_option linter.unusedVariables false
set_option linter.unusedSimpArgs false

/-! ### impl_slackOf: function 60 -/
def impl_slackOf.l0 : Nat → Int → List (S97) → Int → Int → Int → Int → Int → Int → Int → Option (Int)
  | 0,_,_,_,_,_,_,_,_,_=>none
  | k + 1,x5,x26,x27,x28,x222000,x222001,x222002,x222003,x222004=>if x28 < x27 then (if 0 ≤ x28 then (if x28 < (x26.length : Int) then ((impl_hasInt.f k ((rd_T97 x26 x28).f0) x222000).bind fun t228=>(if t228 = true then ((impl_hasInt.f k ((rd_T97 x26 x28).f0) x222001).bind fun t229=>(if t229 = true then (impl_slackOf.l0 k (wrap64 (x5 + ((rd_T97 x26 x28).f1))) x26 x27 (wrap64 (x28 + 1)) x222000 x222001 x222002 x222003 x222004) else (impl_slackOf.l0 k x5 x26 x27 (wrap64 (x28 + 1)) x222000 x222001 x222002 x222003 x222004))) else (impl_slackOf.l0 k x5 x26 x27 (wrap64 (x28 + 1)) x222000 x222001 x222002 x222003 x222004))) else (none)) else (none)) else (some x5)
def impl_slackOf.f (k : Nat) (a0_0 : Int) (a0_1 : Int) (a0_2 : Int) (a0_3 : Int) (a0_4 : Int) (l1_0 : List Int) (l1_1 : List (S97)) : Option (Int):=if 0 ≤ a0_0 then (if a0_0 < (l1_0.length : Int) then (if 0 ≤ a0_1 then (if a0_1 < (l1_0.length : Int) then ((impl_Scalar.f a0_0 a0_1 a0_2 a0_3 a0_4).bind fun t225=>(impl_slackOf.l0 k (wrap64 ((wrap64 ((rd l1_0 a0_0) + (rd l1_0 a0_1))) - (wrap64 (2 * t225)))) l1_1 (l1_1.length : Int) 0 a0_0 a0_1 a0_2 a0_3 a0_4)) else (none)) else (none)) else (none)) else (none)
theorem impl_slackOf.mono_l : ∀ k,(∀ y0 y1 y2 y3 y4 y5 y6 y7 y8,LeO (impl_slackOf.l0 k y0 y1 y2 y3 y4 y5 y6 y7 y8) (impl_slackOf.l0 (k + 1) y0 y1 y2 y3 y4 y5 y6 y7 y8))
  | 0=>fun _ _ _ _ _ _ _ _ _ r h=>by simp [impl_slackOf.l0] at h
  | k + 1=>by
    have ih0:=impl_slackOf.mono_l k
    · intro y0 y1 y2 y3 y4 y5 y6 y7 y8
      unfold impl_slackOf.l0
      repeat' first
      | (with_reducible exact ih0 _ _ _ _ _ _ _ _ _)
      | (with_reducible exact impl_hasInt.mono _ _ _)
      | (with_reducible exact LeO.refl _)
      | (with_reducible exact LeO.none _)
      | (with_reducible refine LeO.ite ?_ ?_)
      | (with_reducible refine LeO.bind ?_ (fun _=>?_))
      | exact ih0 _ _ _ _ _ _ _ _ _
      | exact impl_hasInt.mono _ _ _
      | exact LeO.none _
      | refine LeO.ite ?_ ?_
      | refine LeO.bind ?_ (fun _=>?_)
theorem impl_slackOf.mono : ∀ a0 a1 a2 a3 a4 a5 a6 k,LeO (impl_slackOf.f k a0 a1 a2 a3 a4 a5 a6) (impl_slackOf.f (k + 1) a0 a1 a2 a3 a4 a5 a6):=by
  intro a0 a1 a2 a3 a4 a5 a6 k
  have ih0:=impl_slackOf.mono_l k
  unfold impl_slackOf.f
  repeat' first
      | (with_reducible exact ih0 _ _ _ _ _ _ _ _ _)
      | (with_reducible exact impl_hasInt.mono _ _ _)
      | (with_reducible exact LeO.refl _)
      | (with_reducible exact LeO.none _)
      | (with_reducible refine LeO.ite ?_ ?_)
      | (with_reducible refine LeO.bind ?_ (fun _=>?_))
      | exact ih0 _ _ _ _ _ _ _ _ _
      | exact impl_hasInt.mono _ _ _
      | exact LeO.none _
      | refine LeO.ite ?_ ?_
      | refine LeO.bind ?_ (fun _=>?_)
def impl_slackOf.T1 : Bool × List (List Nat × List Nat):=(true,[([],[]),([0],[0]),([],[]),([2],[2]),([1,3],[1,3]),([4],[4]),([],[]),([6],[6]),([],[]),([8],[8]),([7,9],[7,9]),([10],[10]),([5,11],[5,11]),([],[]),([13],[13]),([14],[14]),([12,15],[12,15]),([16,14,0,1,2,3,4,5,6,7,8,9,10,11,12,13,14,15,16],[16])])
def impl_slackOf.B1 : List Nat:=[0,1,0,4,15,31,0,64,0,256,960,1984,4095,0,8192,24576,65535,131071]
theorem impl_slackOf.tab1 : rtab .any (opsOf Try.f60 1) = impl_slackOf.T1:=by kernel_rfl
theorem impl_slackOf.bits1 : waitsOk impl_slackOf.T1.2 impl_slackOf.B1 = true:=by kernel_rfl
set_option maxHeartbeats 8000000 in
set_option maxRecDepth 100000 in
theorem impl_slackOf.calls (k : Nat) (a0_0 : Int) (a0_1 : Int) (a0_2 : Int) (a0_3 : Int) (a0_4 : Int) (A1_0 : Option Addr) (c1_0 : Nat) (l1_0 : List Int) (A1_1 : Option Addr) (c1_1 : Nat) (l1_1 : List (S97)) (r : Int) (w : World) (hr1_0 : Kd.C (Kd.int .i64) w A1_0 l1_0.length l1_0) (hc1_0 : l1_0.length ≤ c1_0) (hr1_1 : Kd.C k97 w A1_1 l1_1.length l1_1) (hc1_1 : l1_1.length ≤ c1_1) (h : impl_slackOf.f k a0_0 a0_1 a0_2 a0_3 a0_4 l1_0 l1_1 = some r) :
    Calls Try.prog 60 #[.agg #[.int .i64 a0_0,.int .i64 a0_1,.int .i64 a0_2,.int .i64 a0_3,.int .i64 a0_4],.agg #[.slice A1_0 l1_0.length c1_0,.slice A1_1 l1_1.length c1_1]] w fun e w'=>e = .returned (.int .i64 r) ∧ Below w.heap.size w w':=by
  have hu101:=Try.underlying101
  have hu65:=Try.underlying65
  have hu97:=Try.underlying97
  have HR1_0:=qn.mk hr1_0
  have HC1_0:=qn.mk hc1_0
  clear hr1_0 hc1_0
  have HR1_1:=qn.mk hr1_1
  have HC1_1:=qn.mk hc1_1
  clear hr1_1 hc1_1
  have HB:=qn.mk (Below.refl w.heap.size w)
  have H : (if 0 ≤ a0_0 then (if a0_0 < (l1_0.length : Int) then (if 0 ≤ a0_1 then (if a0_1 < (l1_0.length : Int) then ((impl_Scalar.f a0_0 a0_1 a0_2 a0_3 a0_4).bind fun t225=>(impl_slackOf.l0 k (wrap64 ((wrap64 ((rd l1_0 a0_0) + (rd l1_0 a0_1))) - (wrap64 (2 * t225)))) l1_1 (l1_1.length : Int) 0 a0_0 a0_1 a0_2 a0_3 a0_4)) else (none)) else (none)) else (none)) else (none)) = some r:=h
  clear h
  by_cases c3 : 0 ≤ a0_0
  · rw [if_pos c3] at H
    have c3b0 : decide (0 ≤ a0_0) = true:=decide_eq_true c3
    clear c3
    by_cases c4 : a0_0 < (l1_0.length : Int)
    · rw [if_pos c4] at H
      have c4b0 : decide (a0_0 < (l1_0.length : Int)) = true:=decide_eq_true c4
      clear c4
      by_cases c5 : 0 ≤ a0_1
      · rw [if_pos c5] at H
        have c5b0 : decide (0 ≤ a0_1) = true:=decide_eq_true c5
        clear c5
        by_cases c6 : a0_1 < (l1_0.length : Int)
        · rw [if_pos c6] at H
          have c6b0 : decide (a0_1 < (l1_0.length : Int)) = true:=decide_eq_true c6
          clear c6
          replace H:=Option.bind_eq_some_iff.mp H
          obtain ⟨t225,A70,H⟩:=H
          replace H : (impl_slackOf.l0 k (wrap64 ((wrap64 ((rd l1_0 a0_0) + (rd l1_0 a0_1))) - (wrap64 (2 * t225)))) l1_1 (l1_1.length : Int) 0 a0_0 a0_1 a0_2 a0_3 a0_4) = some r:=H
          have A7:=qn.mk A70
          clear A70
          have H':=qn.mk H
          clear H
          go_enter Try.func60,Try.ntmps60
          try go_wp2_with (first|((with_reducible refine gate_dst (N:=2) rfl ?_);refine box_event ?hg (N:=2) ?hd (cs:=#[.int .i64 a0_0,.int .i64 a0_1,.int .i64 a0_2,.int .i64 a0_3,.int .i64 a0_4]) (t:=101) ?hr ?_;(case hd=>rfl);(case hg=>rfl);(case hr=>first|(go_simp;done)|(go_simp;rfl));intro gb221 hg w8 hbox hb;have n0_:=hs_ HB hb;have n1_:=qn.mk (hbox);have n2_:=qn.mk ((by rw [hg];exact (qj (by repeat (first|(with_reducible first|exact HB.out|apply qf|apply qa|apply qd)|exact HB.out))) : w.heap.size ≤ gb221));have n3_:=qn.mk ((by rw [hg];exact (qj (by repeat (first|(with_reducible first|exact HB.out|apply qf|apply qa|apply qd)|exact HB.out))) : w.heap.size ≤ gb221));clear HB;have HB:=n0_;have BK221:=n1_;have GW221:=n2_;have GE221:=n3_;clear n0_ n1_ n2_ n3_;clear hb hbox hg)|((with_reducible refine gate_dst (N:=3) rfl ?_);refine box_event ?hg (N:=3) ?hd (cs:=#[.slice A1_0 l1_0.length c1_0,.slice A1_1 l1_1.length c1_1]) (t:=65) ?hr ?_;(case hd=>rfl);(case hg=>rfl);(case hr=>first|(go_simp;done)|(go_simp;rfl));intro gb222 hg w9 hbox hb;have n0_:=bb_ BK221 hb;have n1_:=hs_ HB hb;have n2_:=qn.mk (hbox);have n3_:=qn.mk ((by rw [hg];exact (qj (by repeat (first|(with_reducible first|exact HB.out|apply qf|apply qa|apply qd|refine qg ?_ GE221.out)|exact HB.out))) : w.heap.size ≤ gb222));have n4_:=qn.mk ((by rw [hg];exact (qj (by repeat (first|(with_reducible first|exact HB.out|apply qf|apply qa|apply qd|refine qg ?_ GE221.out)|exact HB.out))) : w.heap.size ≤ gb222));have n5_:=qn.mk ((by rw [hg];exact nl_ BK221 : gb221 ≠ gb222));have n6_:=qn.mk ((by rw [hg];exact ng_ BK221 : gb222 ≠ gb221));clear BK221;clear HB;have BK221:=n0_;have HB:=n1_;have BK222:=n2_;have GW222:=n3_;have GE222:=n4_;have NB221_222:=n5_;have NB222_221:=n6_;clear n0_ n1_ n2_ n3_ n4_ n5_ n6_;clear hb hbox hg))
          have n0_:=qn.mk (qe BK221.out)
          have n1_:=qn.mk (qe BK222.out)
          have n2_:=qn.mk (qd HB.out)
          clear BK221
          clear BK222
          clear HB
          have BK221:=n0_
          have BK222:=n1_
          have HB:=n2_
          clear n0_ n1_ n2_
          have p223 : 0 ≤ (a0_0 : Int):=of_decide_eq_true (by first|(with_reducible assumption)|assumption)
          have q223 : a0_0 < (l1_0.length : Int):=of_decide_eq_true (by first|(with_reducible assumption)|assumption)
          obtain ⟨ad223,e223,hx223_0⟩:=Kd.at_int HR1_0.out a0_0 p223 q223
          have hw223_0:=hx223_0
          cases e223
          replace hx223_0:=cb_ HB hx223_0
          replace p223:=eq_true p223
          replace q223:=eq_true q223
          have p224 : 0 ≤ (a0_1 : Int):=of_decide_eq_true (by first|(with_reducible assumption)|assumption)
          have q224 : a0_1 < (l1_0.length : Int):=of_decide_eq_true (by first|(with_reducible assumption)|assumption)
          obtain ⟨ad224,e224,hx224_0⟩:=Kd.at_int HR1_0.out a0_1 p224 q224
          have hw224_0:=hx224_0
          obtain rfl : ad223 = ad224:=(by injection e224)
          replace hx224_0:=cb_ HB hx224_0
          replace p224:=eq_true p224
          replace q224:=eq_true q224
          refine start_ (n:=18) (S:=fun w'=>w'.cell? ⟨gb222,0,none⟩ = some (.slice (some ad223) l1_0.length c1_0) ∧ w'.cell? ⟨gb222,1,none⟩ = some (.slice A1_1 l1_1.length c1_1) ∧ w'.cell? ⟨gb221,0,none⟩ = some (.int .i64 a0_0) ∧ w'.cell? ⟨gb221,1,none⟩ = some (.int .i64 a0_1) ∧ w'.cell? ⟨gb221,2,none⟩ = some (.int .i64 a0_2) ∧ w'.cell? ⟨gb221,3,none⟩ = some (.int .i64 a0_3) ∧ w'.cell? ⟨gb221,4,none⟩ = some (.int .i64 a0_4) ∧ w'.cell? (ad223.add (a0_0).toNat) = some (.int .i64 (rd l1_0 a0_0)) ∧ w'.cell? (ad223.add (a0_1).toNat) = some (.int .i64 (rd l1_0 a0_1))) (ds:=[]) #[false,false,false,false,false,false,false,false,false,false,false,false,false,false,false,false,false,false] (by kernel_rfl) rfl rfl ⟨(qh BK222.out 0).trans rfl,(qh BK222.out 1).trans rfl,(qh BK221.out 0).trans rfl,(qh BK221.out 1).trans rfl,(qh BK221.out 2).trans rfl,(qh BK221.out 3).trans rfl,(qh BK221.out 4).trans rfl,(cb_ HB hw223_0:),(cb_ HB hw224_0:)⟩ (fun hHeld=>?_);refine with_tabW impl_slackOf.tab1 impl_slackOf.bits1 (fun HT_ HW_=>?_)
          generalize w9.drew = w10 at BK221 BK222 HB hx223_0 hx224_0 hHeld ⊢
          refine pure_ (i:=0) (N:=some 8) (v:=?_) (a':=?_) #[true,false,false,false,false,false,false,false,false,false,false,false,false,false,false,false,false,false] rfl rfl (any_of HT_.out (by kernel_rfl)) (fun _ _ _ h=>h) (Or.inl ⟨by rfl,?_⟩) ?_ ?_
          rotate_left
          · intro w'
            go_simp
            with_reducible rfl
          rotate_left
          · simp only [Act.put,List.setIfInBounds_toArray,List.set_cons_zero,List.set_cons_succ,i64_w,i32_w]
            rfl
          refine pure_ (i:=2) (N:=some 10) (v:=?_) (a':=?_) #[true,false,true,false,false,false,false,false,false,false,false,false,false,false,false,false,false,false] rfl rfl (any_of HT_.out (by kernel_rfl)) (fun _ _ _ h=>h) (Or.inl ⟨by rfl,?_⟩) ?_ ?_
          rotate_left
          · intro w'
            go_simp
            with_reducible rfl
          rotate_left
          · simp only [Act.put,List.setIfInBounds_toArray,List.set_cons_zero,List.set_cons_succ,i64_w,i32_w]
            rfl
          refine pure_ (i:=6) (N:=some 14) (v:=?_) (a':=?_) #[true,false,true,false,false,false,true,false,false,false,false,false,false,false,false,false,false,false] rfl rfl (any_of HT_.out (by kernel_rfl)) (fun _ _ _ h=>h) (Or.inl ⟨by rfl,?_⟩) ?_ ?_
          rotate_left
          · intro w'
            go_simp
            with_reducible rfl
          rotate_left
          · simp only [Act.put,List.setIfInBounds_toArray,List.set_cons_zero,List.set_cons_succ,i64_w,i32_w]
            rfl
          refine pure_ (i:=8) (N:=some 16) (v:=?_) (a':=?_) #[true,false,true,false,false,false,true,false,true,false,false,false,false,false,false,false,false,false] rfl rfl (any_of HT_.out (by kernel_rfl)) (fun _ _ _ h=>h) (Or.inl ⟨by rfl,?_⟩) ?_ ?_
          rotate_left
          · intro w'
            go_simp
            with_reducible rfl
          rotate_left
          · simp only [Act.put,List.setIfInBounds_toArray,List.set_cons_zero,List.set_cons_succ,i64_w,i32_w]
            rfl
          refine take_ (i:=1) (N:=some 9) (v:=?_) (a':=?_) #[true,true,true,false,false,false,true,false,true,false,false,false,false,false,false,false,false,false] rfl rfl (take_ofW HT_.out HW_.out (by kernel_rfl)) (fun _ _ _ h=>h) (Or.inl ⟨by rfl,?_⟩) hHeld ?_ ?_
          rotate_left
          · rintro w' ⟨s0,s1,s2,s3,s4,s5,s6,s7,s8⟩
            go_simp
            with_reducible rfl
          rotate_left
          · simp only [Act.put,List.setIfInBounds_toArray,List.set_cons_zero,List.set_cons_succ,i64_w,i32_w]
            rfl
          refine take_ (i:=3) (N:=some 11) (v:=?_) (a':=?_) #[true,true,true,true,false,false,true,false,true,false,false,false,false,false,false,false,false,false] rfl rfl (take_ofW HT_.out HW_.out (by kernel_rfl)) (fun _ _ _ h=>h) (Or.inl ⟨by rfl,?_⟩) hHeld ?_ ?_
          rotate_left
          · rintro w' ⟨s0,s1,s2,s3,s4,s5,s6,s7,s8⟩
            go_simp
            with_reducible rfl
          rotate_left
          · simp only [Act.put,List.setIfInBounds_toArray,List.set_cons_zero,List.set_cons_succ,i64_w,i32_w]
            rfl
          refine pure_ (i:=4) (N:=some 12) (v:=?_) (a':=?_) #[true,true,true,true,true,false,true,false,true,false,false,false,false,false,false,false,false,false] rfl rfl (any_of HT_.out (by kernel_rfl)) (fun _ _ _ h=>h) (Or.inl ⟨by rfl,?_⟩) ?_ ?_
          rotate_left
          · intro w'
            go_simp
            with_reducible rfl
          rotate_left
          · simp only [Act.put,List.setIfInBounds_toArray,List.set_cons_zero,List.set_cons_succ,i64_w,i32_w]
            rfl
          refine take_ (i:=5) (N:=some 13) (v:=?_) (a':=?_) #[true,true,true,true,true,true,true,false,true,false,false,false,false,false,false,false,false,false] rfl rfl (take_ofW HT_.out HW_.out (by kernel_rfl)) (fun _ _ _ h=>h) (Or.inl ⟨by rfl,?_⟩) hHeld ?_ ?_
          rotate_left
          · rintro w' ⟨s0,s1,s2,s3,s4,s5,s6,s7,s8⟩
            go_simp
            with_reducible rfl
          rotate_left
          · simp only [Act.put,List.setIfInBounds_toArray,List.set_cons_zero,List.set_cons_succ,i64_w,i32_w]
            rfl
          refine take_ (i:=7) (N:=some 15) (v:=?_) (a':=?_) #[true,true,true,true,true,true,true,true,true,false,false,false,false,false,false,false,false,false] rfl rfl (take_ofW HT_.out HW_.out (by kernel_rfl)) (fun _ _ _ h=>h) (Or.inl ⟨by rfl,?_⟩) hHeld ?_ ?_
          rotate_left
          · rintro w' ⟨s0,s1,s2,s3,s4,s5,s6,s7,s8⟩
            go_simp
            with_reducible rfl
          rotate_left
          · simp only [Act.put,List.setIfInBounds_toArray,List.set_cons_zero,List.set_cons_succ,i64_w,i32_w]
            rfl
          refine take_ (i:=9) (N:=some 17) (v:=?_) (a':=?_) #[true,true,true,true,true,true,true,true,true,true,false,false,false,false,false,false,false,false] rfl rfl (take_ofW HT_.out HW_.out (by kernel_rfl)) (fun _ _ _ h=>h) (Or.inl ⟨by rfl,?_⟩) hHeld ?_ ?_
          rotate_left
          · rintro w' ⟨s0,s1,s2,s3,s4,s5,s6,s7,s8⟩
            go_simp
            with_reducible rfl
          rotate_left
          · simp only [Act.put,List.setIfInBounds_toArray,List.set_cons_zero,List.set_cons_succ,i64_w,i32_w]
            rfl
          refine pure_ (i:=10) (N:=some 18) (v:=?_) (a':=?_) #[true,true,true,true,true,true,true,true,true,true,true,false,false,false,false,false,false,false] rfl rfl (any_of HT_.out (by kernel_rfl)) (fun _ _ _ h=>h) (Or.inl ⟨by rfl,?_⟩) ?_ ?_
          rotate_left
          · intro w'
            go_simp
            with_reducible rfl
          rotate_left
          · simp only [Act.put,List.setIfInBounds_toArray,List.set_cons_zero,List.set_cons_succ,i64_w,i32_w]
            rfl
          refine take_ (i:=11) (N:=some 19) (v:=?_) (a':=?_) #[true,true,true,true,true,true,true,true,true,true,true,true,false,false,false,false,false,false] rfl rfl (take_ofW HT_.out HW_.out (by kernel_rfl)) (fun _ _ _ h=>h) (Or.inl ⟨by rfl,?_⟩) hHeld ?_ ?_
          rotate_left
          · rintro w' ⟨s0,s1,s2,s3,s4,s5,s6,s7,s8⟩
            go_simp
            with_reducible rfl
          rotate_left
          · simp only [Act.put,List.setIfInBounds_toArray,List.set_cons_zero,List.set_cons_succ,i64_w,i32_w]
            rfl
          refine pure_ (i:=12) (N:=some 20) (v:=?_) (a':=?_) #[true,true,true,true,true,true,true,true,true,true,true,true,true,false,false,false,false,false] rfl rfl (any_of HT_.out (by kernel_rfl)) (fun _ _ _ h=>h) (Or.inl ⟨by rfl,?_⟩) ?_ ?_
          rotate_left
          · intro w'
            go_simp
            with_reducible rfl
          rotate_left
          · simp only [Act.put,List.setIfInBounds_toArray,List.set_cons_zero,List.set_cons_succ,i64_w,i32_w]
            rfl
          refine take_ (i:=13) (N:=some 21) (v:=?_) (a':=?_) #[true,true,true,true,true,true,true,true,true,true,true,true,true,true,false,false,false,false] rfl rfl (take_ofW HT_.out HW_.out (by kernel_rfl)) (fun _ _ _ h=>h) (Or.inl ⟨by rfl,?_⟩) hHeld ?_ ?_
          rotate_left
          · rintro w' ⟨s0,s1,s2,s3,s4,s5,s6,s7,s8⟩
            go_simp
            with_reducible rfl
          rotate_left
          · simp only [Act.put,List.setIfInBounds_toArray,List.set_cons_zero,List.set_cons_succ,i64_w,i32_w]
            rfl
          refine one_ (i:=14) (N:=some 22) #[true,true,true,true,true,true,true,true,true,true,true,true,true,true,true,false,false,false] rfl rfl (one_of HT_.out (by kernel_rfl)) (by decide) (fun K hK=>?_)
          refine goes_ Try.func79 (by kernel_rfl) rfl #[.agg #[.int .i64 a0_0,.int .i64 a0_1,.int .i64 a0_2,.int .i64 a0_3,.int .i64 a0_4]] (by rfl) rfl rfl (by (try simp only [List.map_toArray,List.map_cons,List.map_nil]);first|done|rfl|(simp only [List.length_drop,List.length_take];rfl)) ?_
          with_reducible refine (impl_Scalar.calls a0_0 a0_1 a0_2 a0_3 a0_4 t225 _ A7.out).mono ?_
          rintro e w11 ⟨rfl,hb⟩
          refine ⟨_,rfl,?_⟩
          have n0_:=bb_ BK221 hb
          have n1_:=bb_ BK222 hb
          have n2_:=hs_ HB hb
          clear BK221
          clear BK222
          clear HB
          have BK221:=n0_
          have BK222:=n1_
          have HB:=n2_
          clear n0_ n1_ n2_
          (try clear hb)
          (try clear hb2)
          (try clear hk)
          (try clear hi)
          refine hK.out _ _ ⟨(qh BK222.out 0).trans rfl,(qh BK222.out 1).trans rfl,(qh BK221.out 0).trans rfl,(qh BK221.out 1).trans rfl,(qh BK221.out 2).trans rfl,(qh BK221.out 3).trans rfl,(qh BK221.out 4).trans rfl,(cb_ HB hw223_0:),(cb_ HB hw224_0:)⟩ (fun hHeld=>?_)
          clear hK K
          refine norm_ (a':=?_) ?_ ?_
          rotate_left
          · show Act.put _ (some 22) _ = _
            simp only [Act.put,List.setIfInBounds_toArray,List.set_cons_zero,List.set_cons_succ,i64_w,i32_w]
            rfl
          refine pure_ (i:=15) (N:=some 23) (v:=?_) (a':=?_) #[true,true,true,true,true,true,true,true,true,true,true,true,true,true,true,true,false,false] rfl rfl (any_of HT_.out (by kernel_rfl)) (fun _ _ _ h=>h) (Or.inl ⟨by rfl,?_⟩) ?_ ?_
          rotate_left
          · intro w'
            go_simp
            with_reducible rfl
          rotate_left
          · simp only [Act.put,List.setIfInBounds_toArray,List.set_cons_zero,List.set_cons_succ,i64_w,i32_w]
            rfl
          refine pure_ (i:=16) (N:=some 24) (v:=?_) (a':=?_) #[true,true,true,true,true,true,true,true,true,true,true,true,true,true,true,true,true,false] rfl rfl (any_of HT_.out (by kernel_rfl)) (fun _ _ _ h=>h) (Or.inl ⟨by rfl,?_⟩) ?_ ?_
          rotate_left
          · intro w'
            go_simp
            with_reducible rfl
          rotate_left
          · simp only [Act.put,List.setIfInBounds_toArray,List.set_cons_zero,List.set_cons_succ,i64_w,i32_w]
            rfl
          refine pure_ (i:=17) (N:=some 5) (v:=?_) (a':=?_) #[true,true,true,true,true,true,true,true,true,true,true,true,true,true,true,true,true,true] rfl rfl (any_of HT_.out (by kernel_rfl)) (fun _ _ _ h=>h) (Or.inl ⟨by rfl,?_⟩) ?_ ?_
          rotate_left
          · intro w'
            go_simp
            with_reducible rfl
          rotate_left
          · simp only [Act.put,List.setIfInBounds_toArray,List.set_cons_zero,List.set_cons_succ,i64_w,i32_w]
            rfl
          refine done_ (done_of HT_.out (by kernel_rfl)) ?_
          have hnb12:=NB222_221.out
          have hnc12:=NB221_222.out
          have hcz13_0 : w11.cell? ⟨gb222,0,none⟩ = some (.slice (some ad223) l1_0.length c1_0):=(qh BK222.out 0).trans rfl
          have hcz13_1 : w11.cell? ⟨gb222,1,none⟩ = some (.slice A1_1 l1_1.length c1_1):=(qh BK222.out 1).trans rfl
          have hfz13_0:=qi BK222.out 0
          have hfz13_1:=qi BK222.out 1
          try go_wp2
          go_loopg [5,28] k (fun kq v5 v28 w'=>∃ (x5_1 : Int) (x28_1 : Int),v5 = .int .i64 x5_1 ∧ v28 = .int .i64 x28_1 ∧ qn (impl_slackOf.l0 kq x5_1 l1_1 (l1_1.length : Int) x28_1 a0_0 a0_1 a0_2 a0_3 a0_4 = some r) ∧ qn (kq ≤ k) ∧ qn (w'.heap[gb221]? = some (.cells #[.int .i64 a0_0,.int .i64 a0_1,.int .i64 a0_2,.int .i64 a0_3,.int .i64 a0_4] 101 (0,0))) ∧ qn (w'.heap[gb222]? = some (.cells #[(.slice (some ad223) l1_0.length c1_0),(.slice A1_1 l1_1.length c1_1)] 65 (0,0))) ∧ qn (Below w.heap.size w w'))
          case atStart=>exact ⟨(wrap64 ((wrap64 ((rd l1_0 a0_0) + (rd l1_0 a0_1))) - (wrap64 (2 * t225)))),(0),(by first|rfl|(simp;done)|(simp [*];done)),(by first|rfl|(simp;done)|(simp [*];done)),H',⟨Nat.le_refl _⟩,⟨by (with_reducible repeat (first|refine qb ?_ _|refine qe ?_|refine qc ?_ _));exact BK221.out⟩,⟨by (with_reducible repeat (first|refine qb ?_ _|refine qe ?_|refine qc ?_ _));exact BK222.out⟩,⟨by repeat (first|(with_reducible first|exact HB.out|apply qf|apply qa|apply qd|refine qg ?_ GE221.out|refine qg ?_ GE222.out)|exact HB.out)⟩⟩
          case round =>
            clear H'
            try clear c1
            try clear p2
            try clear q2
            try clear hx2
            try clear c3
            try clear c3b0
            try clear c4
            try clear c4b0
            try clear c5
            try clear c5b0
            try clear c6
            try clear c6b0
            try clear p6
            try clear c7
            try clear c12
            try clear hcz13_0
            try clear hcz13_1
            try clear hfz13_0
            try clear hfz13_1
            try clear hx223_0
            try clear hx224_0
            try clear p223
            try clear p224
            try clear q223
            try clear q224
            obtain ⟨x5_1,x28_1,rfl,rfl,HA,HK1,BK221,BK222,HB⟩:=hrel
            cases gk with
            | zero=>exact absurd HA.out (by simp [impl_slackOf.l0])
            | succ k1 =>
              have H:=HA.out
              clear HA
              simp only [impl_slackOf.l0] at H
              by_cases c14 : x28_1 < (l1_1.length : Int)
              · rw [if_pos c14] at H
                have c14b0 : decide (x28_1 < (l1_1.length : Int)) = true:=decide_eq_true c14
                clear c14
                by_cases c15 : 0 ≤ x28_1
                · rw [if_pos c15] at H
                  have c15b0 : decide (0 ≤ x28_1) = true:=decide_eq_true c15
                  clear c15
                  by_cases c16 : x28_1 < (l1_1.length : Int)
                  · rw [if_pos c16] at H
                    have c16b0 : decide (x28_1 < (l1_1.length : Int)) = true:=decide_eq_true c16
                    clear c16
                    replace H:=Option.bind_eq_some_iff.mp H
                    obtain ⟨t228,A170,H⟩:=H
                    replace H : (if t228 = true then ((impl_hasInt.f k1 ((rd_T97 l1_1 x28_1).f0) a0_1).bind fun t229=>(if t229 = true then (impl_slackOf.l0 k1 (wrap64 (x5_1 + ((rd_T97 l1_1 x28_1).f1))) l1_1 (l1_1.length : Int) (wrap64 (x28_1 + 1)) a0_0 a0_1 a0_2 a0_3 a0_4) else (impl_slackOf.l0 k1 x5_1 l1_1 (l1_1.length : Int) (wrap64 (x28_1 + 1)) a0_0 a0_1 a0_2 a0_3 a0_4))) else (impl_slackOf.l0 k1 x5_1 l1_1 (l1_1.length : Int) (wrap64 (x28_1 + 1)) a0_0 a0_1 a0_2 a0_3 a0_4)) = some r:=H
                    have A17:=qn.mk A170
                    clear A170
                    by_cases c18 : t228 = true
                    · subst c18
                      have H1 : ((impl_hasInt.f k1 ((rd_T97 l1_1 x28_1).f0) a0_1).bind fun t229=>(if t229 = true then (impl_slackOf.l0 k1 (wrap64 (x5_1 + ((rd_T97 l1_1 x28_1).f1))) l1_1 (l1_1.length : Int) (wrap64 (x28_1 + 1)) a0_0 a0_1 a0_2 a0_3 a0_4) else (impl_slackOf.l0 k1 x5_1 l1_1 (l1_1.length : Int) (wrap64 (x28_1 + 1)) a0_0 a0_1 a0_2 a0_3 a0_4))) = some r:=by rw [if_pos rfl] at H;exact H
                      clear H
                      have H:=H1
                      clear H1
                      replace H:=Option.bind_eq_some_iff.mp H
                      obtain ⟨t229,A190,H⟩:=H
                      replace H : (if t229 = true then (impl_slackOf.l0 k1 (wrap64 (x5_1 + ((rd_T97 l1_1 x28_1).f1))) l1_1 (l1_1.length : Int) (wrap64 (x28_1 + 1)) a0_0 a0_1 a0_2 a0_3 a0_4) else (impl_slackOf.l0 k1 x5_1 l1_1 (l1_1.length : Int) (wrap64 (x28_1 + 1)) a0_0 a0_1 a0_2 a0_3 a0_4)) = some r:=H
                      have A19:=qn.mk A190
                      clear A190
                      by_cases c20 : t229 = true
                      · subst c20
                        have H1 : (impl_slackOf.l0 k1 (wrap64 (x5_1 + ((rd_T97 l1_1 x28_1).f1))) l1_1 (l1_1.length : Int) (wrap64 (x28_1 + 1)) a0_0 a0_1 a0_2 a0_3 a0_4) = some r:=by rw [if_pos rfl] at H;exact H
                        clear H
                        have H:=H1
                        clear H1
                        have H':=qn.mk H
                        clear H
                        have p226 : 0 ≤ (x28_1 : Int):=of_decide_eq_true (by first|(with_reducible assumption)|assumption)
                        have q226 : x28_1 < (l1_1.length : Int):=of_decide_eq_true (by first|(with_reducible assumption)|assumption)
                        obtain ⟨ad226,A226_0,c226_0,e226,hx226_0,hx226_1,hl226_0,hi226_0⟩:=at_T97 HR1_1.out x28_1 p226 q226
                        cases e226
                        replace hx226_0:=cb_ HB hx226_0
                        replace hx226_1:=cb_ HB hx226_1
                        have HR226_0:=qn.mk hi226_0
                        have HC226_0:=qn.mk hl226_0
                        clear hi226_0 hl226_0
                        replace p226:=eq_true p226
                        replace q226:=eq_true q226
                        go_wp2_with (first|((with_reducible refine gate_dst (N:=7) rfl ?_);refine box_event ?hg (N:=7) ?hd (cs:=#[.slice none 0 0,.int .i64 0]) (t:=97) ?hr ?_;(case hd=>rfl);(case hg=>rfl);(case hr=>first|(go_simp;done)|(go_simp;rfl));intro gb227 hg w21 hbox hb;have n0_:=bb_ BK221 hb;have n1_:=bb_ BK222 hb;have n2_:=hs_ HB hb;have n3_:=qn.mk (hbox);have n4_:=qn.mk ((by rw [hg];exact (qj (by repeat (first|(with_reducible first|exact HB.out|apply qf|apply qa|apply qd|refine qg ?_ GE221.out|refine qg ?_ GE222.out)|exact HB.out))) : w.heap.size ≤ gb227));have n5_:=qn.mk ((by rw [hg];exact (qj (by repeat (first|(with_reducible first|exact HB.out|apply qf|apply qa|apply qd|refine qg ?_ GE221.out|refine qg ?_ GE222.out)|exact HB.out))) : w.heap.size ≤ gb227));have n6_:=qn.mk ((by rw [hg];exact nl_ BK221 : gb221 ≠ gb227));have n7_:=qn.mk ((by rw [hg];exact ng_ BK221 : gb227 ≠ gb221));have n8_:=qn.mk ((by rw [hg];exact nl_ BK222 : gb222 ≠ gb227));have n9_:=qn.mk ((by rw [hg];exact ng_ BK222 : gb227 ≠ gb222));clear BK221;clear BK222;clear HB;have BK221:=n0_;have BK222:=n1_;have HB:=n2_;have BK227:=n3_;have GW227:=n4_;have GE227:=n5_;have NB221_227:=n6_;have NB227_221:=n7_;have NB222_227:=n8_;have NB227_222:=n9_;clear n0_ n1_ n2_ n3_ n4_ n5_ n6_ n7_ n8_ n9_;clear hb hbox hg;have hnb22:=NB227_221.out;have hnc22:=NB221_227.out;have hnb23:=NB227_222.out;have hnc23:=NB222_227.out;have hcz24_0 : w21.cell? ⟨gb227,0,none⟩ = some (.slice none 0 0):=(qh BK227.out 0).trans rfl;have hcz24_1 : w21.cell? ⟨gb227,1,none⟩ = some (.int .i64 0):=(qh BK227.out 1).trans rfl;have hfz24_0:=qi BK227.out 0;have hfz24_1:=qi BK227.out 1;have hnb25:=NB221_222.out;have hnc25:=NB222_221.out;have hcz26_0 : w21.cell? ⟨gb221,0,none⟩ = some (.int .i64 a0_0):=(qh BK221.out 0).trans rfl;have hcz26_1 : w21.cell? ⟨gb221,1,none⟩ = some (.int .i64 a0_1):=(qh BK221.out 1).trans rfl;have hcz26_2 : w21.cell? ⟨gb221,2,none⟩ = some (.int .i64 a0_2):=(qh BK221.out 2).trans rfl;have hcz26_3 : w21.cell? ⟨gb221,3,none⟩ = some (.int .i64 a0_3):=(qh BK221.out 3).trans rfl;have hcz26_4 : w21.cell? ⟨gb221,4,none⟩ = some (.int .i64 a0_4):=(qh BK221.out 4).trans rfl;have hfz26_0:=qi BK221.out 0;have hfz26_1:=qi BK221.out 1;have hfz26_2:=qi BK221.out 2;have hfz26_3:=qi BK221.out 3;have hfz26_4:=qi BK221.out 4)|((with_reducible refine gate_callee (f:=78) rfl ?_);refine goesL_ (some 36) rfl rfl Try.func78 (by kernel_rfl) rfl #[.slice A226_0 ((rd_T97 l1_1 x28_1).f0).length c226_0,.int .i64 a0_0] rfl (by (try simp only [List.map_toArray,List.map_cons,List.map_nil]);first|done|rfl|(simp only [List.length_drop,List.length_take];rfl)) ?_;(with_reducible refine (impl_hasInt.calls k1 _ _ ((rd_T97 l1_1 x28_1).f0) a0_0 true _ ?side1 ?side2 A17.out).mono ?_);(case side1=>exact Kd.C_below HR226_0.out (by repeat (first|(with_reducible first|exact HB.out|apply qf|apply qa|apply qd|refine qg ?_ GE221.out|refine qg ?_ GE222.out|refine qg ?_ GE227.out)|exact HB.out)));(case side2=>exact HC226_0.out);rintro e w' ⟨rfl,⟨nd,rfl⟩⟩;refine ⟨_,rfl,?_⟩)|(go_at_call 78;(with_reducible refine (impl_hasInt.calls k1 _ _ ((rd_T97 l1_1 x28_1).f0) a0_1 true _ ?side1 ?side2 A19.out).mono ?_);(case side1=>exact Kd.C_below HR226_0.out (by repeat (first|(with_reducible first|exact HB.out|apply qf|apply qa|apply qd|refine qg ?_ GE221.out|refine qg ?_ GE222.out|refine qg ?_ GE227.out)|exact HB.out)));(case side2=>exact HC226_0.out);rintro e w' ⟨rfl,⟨nd,rfl⟩⟩))
                        go_roundg k1
                        case measure=>have:=HK1.out;omega
                        case rel=>exact ⟨(wrap64 (x5_1 + ((rd_T97 l1_1 x28_1).f1))),(wrap64 (x28_1 + 1)),(by first|rfl|(simp;done)|(simp [*];done)),(by first|rfl|(simp;done)|(simp [*];done)),H',⟨by have:=HK1.out;omega⟩,⟨by (with_reducible repeat (first|refine qb ?_ _|refine qe ?_|refine qc ?_ _));refine blk_far ?_ NB221_227.out _;(with_reducible repeat (first|refine qb ?_ _|refine qe ?_|refine qc ?_ _));refine blk_far ?_ NB221_227.out _;(with_reducible repeat (first|refine qb ?_ _|refine qe ?_|refine qc ?_ _));exact BK221.out⟩,⟨by (with_reducible repeat (first|refine qb ?_ _|refine qe ?_|refine qc ?_ _));refine blk_far ?_ NB222_227.out _;(with_reducible repeat (first|refine qb ?_ _|refine qe ?_|refine qc ?_ _));refine blk_far ?_ NB222_227.out _;(with_reducible repeat (first|refine qb ?_ _|refine qe ?_|refine qc ?_ _));exact BK222.out⟩,⟨by repeat (first|(with_reducible first|exact HB.out|apply qf|apply qa|apply qd|refine qg ?_ GE221.out|refine qg ?_ GE222.out|refine qg ?_ GE227.out)|exact HB.out)⟩⟩
                      · replace c20:=Bool.eq_false_iff.mpr c20
                        subst c20
                        have H1 : (impl_slackOf.l0 k1 x5_1 l1_1 (l1_1.length : Int) (wrap64 (x28_1 + 1)) a0_0 a0_1 a0_2 a0_3 a0_4) = some r:=by rw [if_neg (show ¬ (false = true) by decide)] at H;exact H
                        clear H
                        have H:=H1
                        clear H1
                        have H':=qn.mk H
                        clear H
                        have p226 : 0 ≤ (x28_1 : Int):=of_decide_eq_true (by first|(with_reducible assumption)|assumption)
                        have q226 : x28_1 < (l1_1.length : Int):=of_decide_eq_true (by first|(with_reducible assumption)|assumption)
                        obtain ⟨ad226,A226_0,c226_0,e226,hx226_0,hx226_1,hl226_0,hi226_0⟩:=at_T97 HR1_1.out x28_1 p226 q226
                        cases e226
                        replace hx226_0:=cb_ HB hx226_0
                        replace hx226_1:=cb_ HB hx226_1
                        have HR226_0:=qn.mk hi226_0
                        have HC226_0:=qn.mk hl226_0
                        clear hi226_0 hl226_0
                        replace p226:=eq_true p226
                        replace q226:=eq_true q226
                        go_wp2_with (first|((with_reducible refine gate_dst (N:=7) rfl ?_);refine box_event ?hg (N:=7) ?hd (cs:=#[.slice none 0 0,.int .i64 0]) (t:=97) ?hr ?_;(case hd=>rfl);(case hg=>rfl);(case hr=>first|(go_simp;done)|(go_simp;rfl));intro gb227 hg w27 hbox hb;have n0_:=bb_ BK221 hb;have n1_:=bb_ BK222 hb;have n2_:=hs_ HB hb;have n3_:=qn.mk (hbox);have n4_:=qn.mk ((by rw [hg];exact (qj (by repeat (first|(with_reducible first|exact HB.out|apply qf|apply qa|apply qd|refine qg ?_ GE221.out|refine qg ?_ GE222.out)|exact HB.out))) : w.heap.size ≤ gb227));have n5_:=qn.mk ((by rw [hg];exact (qj (by repeat (first|(with_reducible first|exact HB.out|apply qf|apply qa|apply qd|refine qg ?_ GE221.out|refine qg ?_ GE222.out)|exact HB.out))) : w.heap.size ≤ gb227));have n6_:=qn.mk ((by rw [hg];exact nl_ BK221 : gb221 ≠ gb227));have n7_:=qn.mk ((by rw [hg];exact ng_ BK221 : gb227 ≠ gb221));have n8_:=qn.mk ((by rw [hg];exact nl_ BK222 : gb222 ≠ gb227));have n9_:=qn.mk ((by rw [hg];exact ng_ BK222 : gb227 ≠ gb222));clear BK221;clear BK222;clear HB;have BK221:=n0_;have BK222:=n1_;have HB:=n2_;have BK227:=n3_;have GW227:=n4_;have GE227:=n5_;have NB221_227:=n6_;have NB227_221:=n7_;have NB222_227:=n8_;have NB227_222:=n9_;clear n0_ n1_ n2_ n3_ n4_ n5_ n6_ n7_ n8_ n9_;clear hb hbox hg;have hnb28:=NB227_221.out;have hnc28:=NB221_227.out;have hnb29:=NB227_222.out;have hnc29:=NB222_227.out;have hcz30_0 : w27.cell? ⟨gb227,0,none⟩ = some (.slice none 0 0):=(qh BK227.out 0).trans rfl;have hcz30_1 : w27.cell? ⟨gb227,1,none⟩ = some (.int .i64 0):=(qh BK227.out 1).trans rfl;have hfz30_0:=qi BK227.out 0;have hfz30_1:=qi BK227.out 1;have hnb31:=NB221_222.out;have hnc31:=NB222_221.out;have hcz32_0 : w27.cell? ⟨gb221,0,none⟩ = some (.int .i64 a0_0):=(qh BK221.out 0).trans rfl;have hcz32_1 : w27.cell? ⟨gb221,1,none⟩ = some (.int .i64 a0_1):=(qh BK221.out 1).trans rfl;have hcz32_2 : w27.cell? ⟨gb221,2,none⟩ = some (.int .i64 a0_2):=(qh BK221.out 2).trans rfl;have hcz32_3 : w27.cell? ⟨gb221,3,none⟩ = some (.int .i64 a0_3):=(qh BK221.out 3).trans rfl;have hcz32_4 : w27.cell? ⟨gb221,4,none⟩ = some (.int .i64 a0_4):=(qh BK221.out 4).trans rfl;have hfz32_0:=qi BK221.out 0;have hfz32_1:=qi BK221.out 1;have hfz32_2:=qi BK221.out 2;have hfz32_3:=qi BK221.out 3;have hfz32_4:=qi BK221.out 4)|((with_reducible refine gate_callee (f:=78) rfl ?_);refine goesL_ (some 36) rfl rfl Try.func78 (by kernel_rfl) rfl #[.slice A226_0 ((rd_T97 l1_1 x28_1).f0).length c226_0,.int .i64 a0_0] rfl (by (try simp only [List.map_toArray,List.map_cons,List.map_nil]);first|done|rfl|(simp only [List.length_drop,List.length_take];rfl)) ?_;(with_reducible refine (impl_hasInt.calls k1 _ _ ((rd_T97 l1_1 x28_1).f0) a0_0 true _ ?side1 ?side2 A17.out).mono ?_);(case side1=>exact Kd.C_below HR226_0.out (by repeat (first|(with_reducible first|exact HB.out|apply qf|apply qa|apply qd|refine qg ?_ GE221.out|refine qg ?_ GE222.out|refine qg ?_ GE227.out)|exact HB.out)));(case side2=>exact HC226_0.out);rintro e w' ⟨rfl,⟨nd,rfl⟩⟩;refine ⟨_,rfl,?_⟩)|(go_at_call 78;(with_reducible refine (impl_hasInt.calls k1 _ _ ((rd_T97 l1_1 x28_1).f0) a0_1 false _ ?side1 ?side2 A19.out).mono ?_);(case side1=>exact Kd.C_below HR226_0.out (by repeat (first|(with_reducible first|exact HB.out|apply qf|apply qa|apply qd|refine qg ?_ GE221.out|refine qg ?_ GE222.out|refine qg ?_ GE227.out)|exact HB.out)));(case side2=>exact HC226_0.out);rintro e w' ⟨rfl,⟨nd,rfl⟩⟩))
                        go_roundg k1
                        case measure=>have:=HK1.out;omega
                        case rel=>exact ⟨(x5_1),(wrap64 (x28_1 + 1)),(by first|rfl|(simp;done)|(simp [*];done)),(by first|rfl|(simp;done)|(simp [*];done)),H',⟨by have:=HK1.out;omega⟩,⟨by (with_reducible repeat (first|refine qb ?_ _|refine qe ?_|refine qc ?_ _));refine blk_far ?_ NB221_227.out _;(with_reducible repeat (first|refine qb ?_ _|refine qe ?_|refine qc ?_ _));refine blk_far ?_ NB221_227.out _;(with_reducible repeat (first|refine qb ?_ _|refine qe ?_|refine qc ?_ _));exact BK221.out⟩,⟨by (with_reducible repeat (first|refine qb ?_ _|refine qe ?_|refine qc ?_ _));refine blk_far ?_ NB222_227.out _;(with_reducible repeat (first|refine qb ?_ _|refine qe ?_|refine qc ?_ _));refine blk_far ?_ NB222_227.out _;(with_reducible repeat (first|refine qb ?_ _|refine qe ?_|refine qc ?_ _));exact BK222.out⟩,⟨by repeat (first|(with_reducible first|exact HB.out|apply qf|apply qa|apply qd|refine qg ?_ GE221.out|refine qg ?_ GE222.out|refine qg ?_ GE227.out)|exact HB.out)⟩⟩
                    · replace c18:=Bool.eq_false_iff.mpr c18
                      subst c18
                      have H1 : (impl_slackOf.l0 k1 x5_1 l1_1 (l1_1.length : Int) (wrap64 (x28_1 + 1)) a0_0 a0_1 a0_2 a0_3 a0_4) = some r:=by rw [if_neg (show ¬ (false = true) by decide)] at H;exact H
                      clear H
                      have H:=H1
                      clear H1
                      have H':=qn.mk H
                      clear H
                      have p226 : 0 ≤ (x28_1 : Int):=of_decide_eq_true (by first|(with_reducible assumption)|assumption)
                      have q226 : x28_1 < (l1_1.length : Int):=of_decide_eq_true (by first|(with_reducible assumption)|assumption)
                      obtain ⟨ad226,A226_0,c226_0,e226,hx226_0,hx226_1,hl226_0,hi226_0⟩:=at_T97 HR1_1.out x28_1 p226 q226
                      cases e226
                      replace hx226_0:=cb_ HB hx226_0
                      replace hx226_1:=cb_ HB hx226_1
                      have HR226_0:=qn.mk hi226_0
                      have HC226_0:=qn.mk hl226_0
                      clear hi226_0 hl226_0
                      replace p226:=eq_true p226
                      replace q226:=eq_true q226
                      go_wp2_with (first|((with_reducible refine gate_dst (N:=7) rfl ?_);refine box_event ?hg (N:=7) ?hd (cs:=#[.slice none 0 0,.int .i64 0]) (t:=97) ?hr ?_;(case hd=>rfl);(case hg=>rfl);(case hr=>first|(go_simp;done)|(go_simp;rfl));intro gb227 hg w33 hbox hb;have n0_:=bb_ BK221 hb;have n1_:=bb_ BK222 hb;have n2_:=hs_ HB hb;have n3_:=qn.mk (hbox);have n4_:=qn.mk ((by rw [hg];exact (qj (by repeat (first|(with_reducible first|exact HB.out|apply qf|apply qa|apply qd|refine qg ?_ GE221.out|refine qg ?_ GE222.out)|exact HB.out))) : w.heap.size ≤ gb227));have n5_:=qn.mk ((by rw [hg];exact (qj (by repeat (first|(with_reducible first|exact HB.out|apply qf|apply qa|apply qd|refine qg ?_ GE221.out|refine qg ?_ GE222.out)|exact HB.out))) : w.heap.size ≤ gb227));have n6_:=qn.mk ((by rw [hg];exact nl_ BK221 : gb221 ≠ gb227));have n7_:=qn.mk ((by rw [hg];exact ng_ BK221 : gb227 ≠ gb221));have n8_:=qn.mk ((by rw [hg];exact nl_ BK222 : gb222 ≠ gb227));have n9_:=qn.mk ((by rw [hg];exact ng_ BK222 : gb227 ≠ gb222));clear BK221;clear BK222;clear HB;have BK221:=n0_;have BK222:=n1_;have HB:=n2_;have BK227:=n3_;have GW227:=n4_;have GE227:=n5_;have NB221_227:=n6_;have NB227_221:=n7_;have NB222_227:=n8_;have NB227_222:=n9_;clear n0_ n1_ n2_ n3_ n4_ n5_ n6_ n7_ n8_ n9_;clear hb hbox hg;have hnb34:=NB227_221.out;have hnc34:=NB221_227.out;have hnb35:=NB227_222.out;have hnc35:=NB222_227.out;have hcz36_0 : w33.cell? ⟨gb227,0,none⟩ = some (.slice none 0 0):=(qh BK227.out 0).trans rfl;have hcz36_1 : w33.cell? ⟨gb227,1,none⟩ = some (.int .i64 0):=(qh BK227.out 1).trans rfl;have hfz36_0:=qi BK227.out 0;have hfz36_1:=qi BK227.out 1;have hnb37:=NB221_222.out;have hnc37:=NB222_221.out;have hcz38_0 : w33.cell? ⟨gb221,0,none⟩ = some (.int .i64 a0_0):=(qh BK221.out 0).trans rfl;have hcz38_1 : w33.cell? ⟨gb221,1,none⟩ = some (.int .i64 a0_1):=(qh BK221.out 1).trans rfl;have hcz38_2 : w33.cell? ⟨gb221,2,none⟩ = some (.int .i64 a0_2):=(qh BK221.out 2).trans rfl;have hcz38_3 : w33.cell? ⟨gb221,3,none⟩ = some (.int .i64 a0_3):=(qh BK221.out 3).trans rfl;have hcz38_4 : w33.cell? ⟨gb221,4,none⟩ = some (.int .i64 a0_4):=(qh BK221.out 4).trans rfl;have hfz38_0:=qi BK221.out 0;have hfz38_1:=qi BK221.out 1;have hfz38_2:=qi BK221.out 2;have hfz38_3:=qi BK221.out 3;have hfz38_4:=qi BK221.out 4)|((with_reducible refine gate_callee (f:=78) rfl ?_);refine goesL_ (some 36) rfl rfl Try.func78 (by kernel_rfl) rfl #[.slice A226_0 ((rd_T97 l1_1 x28_1).f0).length c226_0,.int .i64 a0_0] rfl (by (try simp only [List.map_toArray,List.map_cons,List.map_nil]);first|done|rfl|(simp only [List.length_drop,List.length_take];rfl)) ?_;(with_reducible refine (impl_hasInt.calls k1 _ _ ((rd_T97 l1_1 x28_1).f0) a0_0 false _ ?side1 ?side2 A17.out).mono ?_);(case side1=>exact Kd.C_below HR226_0.out (by repeat (first|(with_reducible first|exact HB.out|apply qf|apply qa|apply qd|refine qg ?_ GE221.out|refine qg ?_ GE222.out|refine qg ?_ GE227.out)|exact HB.out)));(case side2=>exact HC226_0.out);rintro e w' ⟨rfl,⟨nd,rfl⟩⟩;refine ⟨_,rfl,?_⟩))
                      go_roundg k1
                      case measure=>have:=HK1.out;omega
                      case rel=>exact ⟨(x5_1),(wrap64 (x28_1 + 1)),(by first|rfl|(simp;done)|(simp [*];done)),(by first|rfl|(simp;done)|(simp [*];done)),H',⟨by have:=HK1.out;omega⟩,⟨by (with_reducible repeat (first|refine qb ?_ _|refine qe ?_|refine qc ?_ _));refine blk_far ?_ NB221_227.out _;(with_reducible repeat (first|refine qb ?_ _|refine qe ?_|refine qc ?_ _));refine blk_far ?_ NB221_227.out _;(with_reducible repeat (first|refine qb ?_ _|refine qe ?_|refine qc ?_ _));exact BK221.out⟩,⟨by (with_reducible repeat (first|refine qb ?_ _|refine qe ?_|refine qc ?_ _));refine blk_far ?_ NB222_227.out _;(with_reducible repeat (first|refine qb ?_ _|refine qe ?_|refine qc ?_ _));refine blk_far ?_ NB222_227.out _;(with_reducible repeat (first|refine qb ?_ _|refine qe ?_|refine qc ?_ _));exact BK222.out⟩,⟨by repeat (first|(with_reducible first|exact HB.out|apply qf|apply qa|apply qd|refine qg ?_ GE221.out|refine qg ?_ GE222.out|refine qg ?_ GE227.out)|exact HB.out)⟩⟩
                  · rw [if_neg c16] at H
                    exact absurd H (by simp)
                · rw [if_neg c15] at H
                  exact absurd H (by simp)
              · rw [if_neg c14] at H
                have c14b0 : decide (x28_1 < (l1_1.length : Int)) = false:=decide_eq_false c14
                clear c14
                obtain rfl:=Option.some.inj H
                go_wp2
                go_ret
                exact ⟨by first|rfl|(simp [errW_none,errW_some] <;> rfl)|(simp [*,errW_none,errW_some] <;> rfl),by repeat (first|(with_reducible first|exact HB.out|apply qf|apply qa|apply qd|refine qg ?_ GE221.out|refine qg ?_ GE222.out)|exact HB.out)⟩
        · rw [if_neg c6] at H
          exact absurd H (by simp)
      · rw [if_neg c5] at H
        exact absurd H (by simp)
    · rw [if_neg c4] at H
      exact absurd H (by simp)
  · rw [if_neg c3] at H
    exact absurd H (by simp)

end Go.Proofs.Ytcdofljgeiohgaa.QFnExactProofOk
