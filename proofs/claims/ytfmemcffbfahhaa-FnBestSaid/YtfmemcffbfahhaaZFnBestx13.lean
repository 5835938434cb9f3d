/- Lean functions for the Go functions that the law FnBest reaches, and that each Go function comes to just its Lean function's answer; by a program of this session. -/
import Derived.Test.YtfmemcffbfahhaaZFnBestx0
import Derived.Test.YtfmemcffbfahhaaZFnBestx12
namespace Go.Proofs.Ytfmemcffbfahhaa.QFnBest
open Go.RowKit Go.Proofs.YtfmemcffbfahhaaW.PrintWords Go.Proofs.YtfmemcffbfahhaaW.PrintLast Go.Proofs.YtfmemcffbfahhaaW.PrintMore
attribute [local go_sem] max2_int min2_int max_two min_two max_three min_three max_four min_four   -- for this text's walks alone
set_option linter.unusedVariables false
set_option linter.unusedSimpArgs false

/-! ### laws_worth: function 45 -/
def laws_worth.l0 : Nat → List (S130) → Int → Int → Int → List (S36) → Option (Int)
 | 0,_,_,_,_,_=>none
 | k + 1,x1,x5,x6,x389000,x389001=>if x6 < (x1.length : Int) then (if 0 ≤ x6 then ((spec_EdgeAt.f k x389000 x389001 ((rd_T130 x1 x6).f0) ((rd_T130 x1 x6).f1)).bind fun t391=>(if t391 ≥ 0 then (if 0 ≤ t391 then (if t391 < (x389001.length : Int) then ((spec_Scalar.f ((rd_T36 x389001 t391).f0) ((rd_T36 x389001 t391).f1) ((rd_T36 x389001 t391).f2) ((rd_T36 x389001 t391).f3) ((rd_T36 x389001 t391).f4)).bind fun t393=>(laws_worth.l0 k x1 (wrap64 (x5 + t393)) (wrap64 (x6 + 1)) x389000 x389001)) else (none)) else (none)) else (laws_worth.l0 k x1 x5 (wrap64 (x6 + 1)) x389000 x389001))) else (none)) else (some x5)
def laws_worth.f (k : Nat) (a0_0 : Int) (l0_1 : List (S36)) (l1 : List (S130)) : Option (Int):=laws_worth.l0 k l1 0 0 a0_0 l0_1
theorem laws_worth.mono_l : ∀ k,(∀ y0 y1 y2 y3 y4,LeO (laws_worth.l0 k y0 y1 y2 y3 y4) (laws_worth.l0 (k + 1) y0 y1 y2 y3 y4))
 | 0=>fun _ _ _ _ _ r h=>by simp [laws_worth.l0] at h
 | k + 1=>by
  have ih0:=laws_worth.mono_l k
  ·intro y0 y1 y2 y3 y4
   unfold laws_worth.l0
   repeat' first
   | (with_reducible exact ih0 _ _ _ _ _)
   | (with_reducible exact spec_EdgeAt.mono _ _ _ _ _)
   | (with_reducible exact LeO.refl _)
   | (with_reducible exact LeO.none _)
   | (with_reducible refine LeO.ite ?_ ?_)
   | (with_reducible refine LeO.bind ?_ (fun _=>?_))
   | exact ih0 _ _ _ _ _
   | exact spec_EdgeAt.mono _ _ _ _ _
   | exact LeO.none _
   | refine LeO.ite ?_ ?_
   | refine LeO.bind ?_ (fun _=>?_)
theorem laws_worth.mono : ∀ a0 a1 a2 k,LeO (laws_worth.f k a0 a1 a2) (laws_worth.f (k + 1) a0 a1 a2):=by
 intro a0 a1 a2 k
 have ih0:=laws_worth.mono_l k
 unfold laws_worth.f
 repeat' first
   | (with_reducible exact ih0 _ _ _ _ _)
   | (with_reducible exact spec_EdgeAt.mono _ _ _ _ _)
   | (with_reducible exact LeO.refl _)
   | (with_reducible exact LeO.none _)
   | (with_reducible refine LeO.ite ?_ ?_)
   | (with_reducible refine LeO.bind ?_ (fun _=>?_))
   | exact ih0 _ _ _ _ _
   | exact spec_EdgeAt.mono _ _ _ _ _
   | exact LeO.none _
   | refine LeO.ite ?_ ?_
   | refine LeO.bind ?_ (fun _=>?_)
def laws_worth.T5 : Bool × List (List Nat × List Nat):=(true,[([],[]),([],[]),([],[]),([1,2],[1,2]),([3],[3]),([4],[4]),([],[]),([],[]),([6,7],[6,7]),([8],[8]),([9],[9]),([0,5,10],[0,5,10]),([11,11,0,1,2,3,4,5,6,7,8,9,10,11],[11])])
def laws_worth.B5 : List Nat:=[0,0,0,6,14,30,0,0,192,448,960,2047,4095]
theorem laws_worth.tab5 : rtab .any (opsOf Try.f45 5) = laws_worth.T5:=by kernel_rfl
theorem laws_worth.bits5 : waitsOk laws_worth.T5.2 laws_worth.B5 = true:=by kernel_rfl
set_option maxHeartbeats 8000000 in
set_option maxRecDepth 100000 in
theorem laws_worth.calls (k : Nat) (a0_0 : Int) (A0_1 : Option Addr) (c0_1 : Nat) (l0_1 : List (S36)) (A1 : Option Addr) (c1 : Nat) (l1 : List (S130)) (r : Int) (w : World) (hr0_1 : Kd.C k36 w A0_1 l0_1.length l0_1) (hc0_1 : l0_1.length ≤ c0_1) (hr1 : Kd.C k130 w A1 l1.length l1) (hc1 : l1.length ≤ c1) (h : laws_worth.f k a0_0 l0_1 l1 = some r) :
  Calls Try.prog 45 #[.agg #[.int .i64 a0_0,.slice A0_1 l0_1.length c0_1],.slice A1 l1.length c1] w fun e w'=>e = .returned (.int .i64 r) ∧ Below w.heap.size w w':=by
 have hu26:=Try.underlying26
 have hu36:=Try.underlying36
 have HR0_1:=qn.mk hr0_1
 have HC0_1:=qn.mk hc0_1
 clear hr0_1 hc0_1
 have HR1:=qn.mk hr1
 have HC1:=qn.mk hc1
 clear hr1 hc1
 have HB:=qn.mk (Below.refl w.heap.size w)
 have H : (laws_worth.l0 k l1 0 0 a0_0 l0_1) = some r:=h
 clear h
 have H':=qn.mk H
 clear H
 go_enter Try.func45,Try.ntmps45
 go_wp2_with (first|((with_reducible refine gate_dst (N:=2) rfl ?_);refine box_event ?hg (N:=2) ?hd (cs:=#[.int .i64 a0_0,.slice A0_1 l0_1.length c0_1]) (t:=26) ?hr ?_;(case hd=>rfl);(case hg=>rfl);(case hr=>first|(go_simp;done)|(go_simp;rfl));intro gb388 hg w3 hbox hb;have n0_:=hs_ HB hb;have n1_:=qn.mk (hbox);have n2_:=qn.mk ((by rw [hg];exact (qj (by repeat (first|(with_reducible first|exact HB.out|apply qf|apply qa|apply qd)|exact HB.out))) : w.heap.size ≤ gb388));have n3_:=qn.mk ((by rw [hg];exact (qj (by repeat (first|(with_reducible first|exact HB.out|apply qf|apply qa|apply qd)|exact HB.out))) : w.heap.size ≤ gb388));clear HB;have HB:=n0_;have BK388:=n1_;have GW388:=n2_;have GE388:=n3_;clear n0_ n1_ n2_ n3_;clear hb hbox hg))
 go_loopg [5,6] k (fun kq v5 v6 w'=>∃ (x5_1 : Int) (x6_1 : Int),v5 = .int .i64 x5_1 ∧ v6 = .int .i64 x6_1 ∧ qn (laws_worth.l0 kq l1 x5_1 x6_1 a0_0 l0_1 = some r) ∧ qn (kq ≤ k) ∧ qn (w'.heap[gb388]? = some (.cells #[.int .i64 a0_0,(.slice A0_1 l0_1.length c0_1)] 26 (0,0))) ∧ qn (Below w.heap.size w w'))
 case atStart=>exact ⟨(0),(0),(by first|rfl|(simp;done)|(simp [*];done)),(by first|rfl|(simp;done)|(simp [*];done)),H',⟨Nat.le_refl _⟩,⟨by (with_reducible repeat (first|refine qb ?_ _|refine qe ?_|refine qc ?_ _));exact BK388.out⟩,⟨by repeat (first|(with_reducible first|exact HB.out|apply qf|apply qa|apply qd|refine qg ?_ GE388.out)|exact HB.out)⟩⟩
 case round =>
  clear H'
  try clear c1
  try clear p2
  obtain ⟨x5_1,x6_1,rfl,rfl,HA,HK1,BK388,HB⟩:=hrel
  cases gk with
  | zero=>exact absurd HA.out (by simp [laws_worth.l0])
  | succ k1 =>
   have H:=HA.out
   clear HA
   simp only [laws_worth.l0] at H
   by_cases c4 : x6_1 < (l1.length : Int)
   ·rw [if_pos c4] at H
    have c4b0 : decide (x6_1 < (l1.length : Int)) = true:=decide_eq_true c4
    clear c4
    by_cases c5 : 0 ≤ x6_1
    ·rw [if_pos c5] at H
     have c5b0 : decide (0 ≤ x6_1) = true:=decide_eq_true c5
     clear c5
     replace H:=Option.bind_eq_some_iff.mp H
     obtain ⟨t391,A60,H⟩:=H
     replace H : (if t391 ≥ 0 then (if 0 ≤ t391 then (if t391 < (l0_1.length : Int) then ((spec_Scalar.f ((rd_T36 l0_1 t391).f0) ((rd_T36 l0_1 t391).f1) ((rd_T36 l0_1 t391).f2) ((rd_T36 l0_1 t391).f3) ((rd_T36 l0_1 t391).f4)).bind fun t393=>(laws_worth.l0 k1 l1 (wrap64 (x5_1 + t393)) (wrap64 (x6_1 + 1)) a0_0 l0_1)) else (none)) else (none)) else (laws_worth.l0 k1 l1 x5_1 (wrap64 (x6_1 + 1)) a0_0 l0_1)) = some r:=H
     have A6:=qn.mk A60
     clear A60
     by_cases c7 : t391 ≥ 0
     ·rw [if_pos c7] at H
      have c7b0 : decide (0 ≤ t391) = true:=decide_eq_true c7
      clear c7
      by_cases c8 : 0 ≤ t391
      ·rw [if_pos c8] at H
       have c8b0 : decide (0 ≤ t391) = true:=decide_eq_true c8
       clear c8
       by_cases c9 : t391 < (l0_1.length : Int)
       ·rw [if_pos c9] at H
        have c9b0 : decide (t391 < (l0_1.length : Int)) = true:=decide_eq_true c9
        clear c9
        replace H:=Option.bind_eq_some_iff.mp H
        obtain ⟨t393,A100,H⟩:=H
        replace H : (laws_worth.l0 k1 l1 (wrap64 (x5_1 + t393)) (wrap64 (x6_1 + 1)) a0_0 l0_1) = some r:=H
        have A10:=qn.mk A100
        clear A100
        have H':=qn.mk H
        clear H
        try go_wp2
        have n0_:=qn.mk (qe BK388.out)
        have n1_:=qn.mk (qd HB.out)
        clear BK388
        clear HB
        have BK388:=n0_
        have HB:=n1_
        clear n0_ n1_
        have p389 : 0 ≤ (x6_1 : Int):=of_decide_eq_true (by first|(with_reducible assumption)|assumption)
        have q389 : x6_1 < (l1.length : Int):=of_decide_eq_true (by first|(with_reducible assumption)|assumption)
        obtain ⟨ad389,e389,hx389_0,hx389_1⟩:=at_T130 HR1.out x6_1 p389 q389
        have hw389_1:=hx389_1
        have hw389_0:=hx389_0
        cases e389
        replace hx389_0:=cb_ HB hx389_0
        replace hx389_1:=cb_ HB hx389_1
        replace p389:=eq_true p389
        replace q389:=eq_true q389
        have p390 : 0 ≤ (x6_1 : Int):=of_decide_eq_true (by first|(with_reducible assumption)|assumption)
        have q390 : x6_1 < (l1.length : Int):=of_decide_eq_true (by first|(with_reducible assumption)|assumption)
        obtain ⟨ad390,e390,hx390_0,hx390_1⟩:=at_T130 HR1.out x6_1 p390 q390
        have hw390_1:=hx390_1
        have hw390_0:=hx390_0
        obtain rfl : ad389 = ad390:=(by injection e390)
        replace hx390_0:=cb_ HB hx390_0
        replace hx390_1:=cb_ HB hx390_1
        replace p390:=eq_true p390
        replace q390:=eq_true q390
        refine start_ (n:=13) (S:=fun w'=>w'.cell? ⟨gb388,0,none⟩ = some (.int .i64 a0_0) ∧ w'.cell? ⟨gb388,1,none⟩ = some (.slice A0_1 l0_1.length c0_1) ∧ w'.cell? (ad389.add ((x6_1).toNat * 2)) = some (.int .i64 ((rd_T130 l1 x6_1).f0)) ∧ w'.cell? ⟨(ad389.add ((x6_1).toNat * 2)).block,(ad389.add ((x6_1).toNat * 2)).off + 1,none⟩ = some (.int .i64 ((rd_T130 l1 x6_1).f1)) ∧ w'.cell? (ad389.add ((x6_1).toNat * 2)) = some (.int .i64 ((rd_T130 l1 x6_1).f0)) ∧ w'.cell? ⟨(ad389.add ((x6_1).toNat * 2)).block,(ad389.add ((x6_1).toNat * 2)).off + 1,none⟩ = some (.int .i64 ((rd_T130 l1 x6_1).f1))) (ds:=[]) #[false,false,false,false,false,false,false,false,false,false,false,false,false] (by kernel_rfl) rfl rfl ⟨(qh BK388.out 0).trans rfl,(qh BK388.out 1).trans rfl,(cb_ HB hw389_0:),(cb_ HB hw389_1:),(cb_ HB hw390_0:),(cb_ HB hw390_1:)⟩ (fun hHeld=>?_);refine with_tabW laws_worth.tab5 laws_worth.bits5 (fun HT_ HW_=>?_)
        generalize wr.drew = w11 at BK388 HB hx389_0 hx389_1 hx390_0 hx390_1 hHeld ⊢
        refine pure_ (i:=1) (N:=some 15) (v:=?_) (a':=?_) #[false,true,false,false,false,false,false,false,false,false,false,false,false] rfl rfl (any_of HT_.out (by kernel_rfl)) (fun _ _ _ h=>h) (Or.inl ⟨by rfl,?_⟩) ?_ ?_
        rotate_left
        ·intro w'
         go_simp
         with_reducible rfl
        rotate_left
        ·simp only [Act.put,List.setIfInBounds_toArray,List.set_cons_zero,List.set_cons_succ,i64_w,i32_w]
         rfl
        refine pure_ (i:=2) (N:=some 16) (v:=?_) (a':=?_) #[false,true,true,false,false,false,false,false,false,false,false,false,false] rfl rfl (any_of HT_.out (by kernel_rfl)) (fun _ _ _ h=>h) (Or.inl ⟨by rfl,?_⟩) ?_ ?_
        rotate_left
        ·intro w'
         go_simp
         with_reducible rfl
        rotate_left
        ·simp only [Act.put,List.setIfInBounds_toArray,List.set_cons_zero,List.set_cons_succ,i64_w,i32_w]
         rfl
        refine pure_ (i:=3) (N:=some 17) (v:=?_) (a':=?_) #[false,true,true,true,false,false,false,false,false,false,false,false,false] rfl rfl (any_of HT_.out (by kernel_rfl)) (fun _ _ _ h=>h) (Or.inl ⟨by rfl,?_⟩) ?_ ?_
        rotate_left
        ·intro w'
         go_simp
         with_reducible rfl
        rotate_left
        ·simp only [Act.put,List.setIfInBounds_toArray,List.set_cons_zero,List.set_cons_succ,i64_w,i32_w]
         rfl
        refine pure_ (i:=4) (N:=some 18) (v:=?_) (a':=?_) #[false,true,true,true,true,false,false,false,false,false,false,false,false] rfl rfl (any_of HT_.out (by kernel_rfl)) (fun _ _ _ h=>h) (Or.inl ⟨by rfl,?_⟩) ?_ ?_
        rotate_left
        ·intro w'
         go_simp
         with_reducible rfl
        rotate_left
        ·simp only [Act.put,List.setIfInBounds_toArray,List.set_cons_zero,List.set_cons_succ,i64_w,i32_w]
         rfl
        refine pure_ (i:=6) (N:=some 20) (v:=?_) (a':=?_) #[false,true,true,true,true,false,true,false,false,false,false,false,false] rfl rfl (any_of HT_.out (by kernel_rfl)) (fun _ _ _ h=>h) (Or.inl ⟨by rfl,?_⟩) ?_ ?_
        rotate_left
        ·intro w'
         go_simp
         with_reducible rfl
        rotate_left
        ·simp only [Act.put,List.setIfInBounds_toArray,List.set_cons_zero,List.set_cons_succ,i64_w,i32_w]
         rfl
        refine pure_ (i:=7) (N:=some 21) (v:=?_) (a':=?_) #[false,true,true,true,true,false,true,true,false,false,false,false,false] rfl rfl (any_of HT_.out (by kernel_rfl)) (fun _ _ _ h=>h) (Or.inl ⟨by rfl,?_⟩) ?_ ?_
        rotate_left
        ·intro w'
         go_simp
         with_reducible rfl
        rotate_left
        ·simp only [Act.put,List.setIfInBounds_toArray,List.set_cons_zero,List.set_cons_succ,i64_w,i32_w]
         rfl
        refine pure_ (i:=8) (N:=some 22) (v:=?_) (a':=?_) #[false,true,true,true,true,false,true,true,true,false,false,false,false] rfl rfl (any_of HT_.out (by kernel_rfl)) (fun _ _ _ h=>h) (Or.inl ⟨by rfl,?_⟩) ?_ ?_
        rotate_left
        ·intro w'
         go_simp
         with_reducible rfl
        rotate_left
        ·simp only [Act.put,List.setIfInBounds_toArray,List.set_cons_zero,List.set_cons_succ,i64_w,i32_w]
         rfl
        refine pure_ (i:=9) (N:=some 23) (v:=?_) (a':=?_) #[false,true,true,true,true,false,true,true,true,true,false,false,false] rfl rfl (any_of HT_.out (by kernel_rfl)) (fun _ _ _ h=>h) (Or.inl ⟨by rfl,?_⟩) ?_ ?_
        rotate_left
        ·intro w'
         go_simp
         with_reducible rfl
        rotate_left
        ·simp only [Act.put,List.setIfInBounds_toArray,List.set_cons_zero,List.set_cons_succ,i64_w,i32_w]
         rfl
        refine take_ (i:=0) (N:=some 14) (v:=?_) (a':=?_) #[true,true,true,true,true,false,true,true,true,true,false,false,false] rfl rfl (take_ofW HT_.out HW_.out (by kernel_rfl)) (fun _ _ _ h=>h) (Or.inl ⟨by rfl,?_⟩) hHeld ?_ ?_
        rotate_left
        ·rintro w' ⟨s0,s1,s2,s3,s4,s5⟩
         go_simp
         with_reducible rfl
        rotate_left
        ·simp only [Act.put,List.setIfInBounds_toArray,List.set_cons_zero,List.set_cons_succ,i64_w,i32_w]
         rfl
        refine take_ (i:=5) (N:=some 19) (v:=?_) (a':=?_) #[true,true,true,true,true,true,true,true,true,true,false,false,false] rfl rfl (take_ofW HT_.out HW_.out (by kernel_rfl)) (fun _ _ _ h=>h) (Or.inl ⟨by rfl,?_⟩) hHeld ?_ ?_
        rotate_left
        ·rintro w' ⟨s0,s1,s2,s3,s4,s5⟩
         go_simp
         with_reducible rfl
        rotate_left
        ·simp only [Act.put,List.setIfInBounds_toArray,List.set_cons_zero,List.set_cons_succ,i64_w,i32_w]
         rfl
        refine take_ (i:=10) (N:=some 24) (v:=?_) (a':=?_) #[true,true,true,true,true,true,true,true,true,true,true,false,false] rfl rfl (take_ofW HT_.out HW_.out (by kernel_rfl)) (fun _ _ _ h=>h) (Or.inl ⟨by rfl,?_⟩) hHeld ?_ ?_
        rotate_left
        ·rintro w' ⟨s0,s1,s2,s3,s4,s5⟩
         go_simp
         with_reducible rfl
        rotate_left
        ·simp only [Act.put,List.setIfInBounds_toArray,List.set_cons_zero,List.set_cons_succ,i64_w,i32_w]
         rfl
        refine one_ (i:=11) (N:=some 25) #[true,true,true,true,true,true,true,true,true,true,true,true,false] rfl rfl (one_of HT_.out (by kernel_rfl)) (by decide) (fun K hK=>?_)
        refine goes_ Try.func93 (by kernel_rfl) rfl #[.agg #[.int .i64 a0_0,.slice A0_1 l0_1.length c0_1],.int .i64 ((rd_T130 l1 x6_1).f0),.int .i64 ((rd_T130 l1 x6_1).f1)] (by rfl) rfl rfl (by (try simp only [List.map_toArray,List.map_cons,List.map_nil]);first|done|rfl|(simp only [List.length_drop,List.length_take];rfl)) ?_
        with_reducible refine (spec_EdgeAt.calls k1 a0_0 _ _ l0_1 ((rd_T130 l1 x6_1).f0) ((rd_T130 l1 x6_1).f1) t391 _ ?side1 ?side2 A6.out).mono ?_
        (case side1=>repeat (first|exact (Kd.C_below HR0_1.out HB.out)|(with_reducible refine Kd.C_alloc ?_ _)|(with_reducible refine Kd.C_drewN ?_ _)|(with_reducible refine Kd.C_drew ?_)))
        (case side2=>exact HC0_1.out)
        rintro e w12 ⟨rfl,hb⟩
        refine ⟨_,rfl,?_⟩
        have n0_:=bb_ BK388 hb
        have n1_:=hs_ HB hb
        clear BK388
        clear HB
        have BK388:=n0_
        have HB:=n1_
        clear n0_ n1_
        (try clear hb)
        (try clear hb2)
        (try clear hk)
        (try clear hi)
        refine hK.out _ _ ⟨(qh BK388.out 0).trans rfl,(qh BK388.out 1).trans rfl,(cb_ HB hw389_0:),(cb_ HB hw389_1:),(cb_ HB hw390_0:),(cb_ HB hw390_1:)⟩ (fun hHeld=>?_)
        clear hK K
        refine norm_ (a':=?_) ?_ ?_
        rotate_left
        ·show Act.put _ (some 25) _ = _
         simp only [Act.put,List.setIfInBounds_toArray,List.set_cons_zero,List.set_cons_succ,i64_w,i32_w]
         rfl
        refine pure_ (i:=12) (N:=some 7) (v:=?_) (a':=?_) #[true,true,true,true,true,true,true,true,true,true,true,true,true] rfl rfl (any_of HT_.out (by kernel_rfl)) (fun _ _ _ h=>h) (Or.inl ⟨by rfl,?_⟩) ?_ ?_
        rotate_left
        ·intro w'
         go_simp
         with_reducible rfl
        rotate_left
        ·simp only [Act.put,List.setIfInBounds_toArray,List.set_cons_zero,List.set_cons_succ,i64_w,i32_w]
         rfl
        refine done_ (done_of HT_.out (by kernel_rfl)) ?_
        have hcz13_0 : w12.cell? ⟨gb388,0,none⟩ = some (.int .i64 a0_0):=(qh BK388.out 0).trans rfl
        have hcz13_1 : w12.cell? ⟨gb388,1,none⟩ = some (.slice A0_1 l0_1.length c0_1):=(qh BK388.out 1).trans rfl
        have hfz13_0:=qi BK388.out 0
        have hfz13_1:=qi BK388.out 1
        have p392 : 0 ≤ (t391 : Int):=of_decide_eq_true (by first|(with_reducible assumption)|assumption)
        have q392 : t391 < (l0_1.length : Int):=of_decide_eq_true (by first|(with_reducible assumption)|assumption)
        obtain ⟨ad392,e392,hx392_0,hx392_1,hx392_2,hx392_3,hx392_4⟩:=at_T36 HR0_1.out t391 p392 q392
        cases e392
        replace hx392_0:=cb_ HB hx392_0
        replace hx392_1:=cb_ HB hx392_1
        replace hx392_2:=cb_ HB hx392_2
        replace hx392_3:=cb_ HB hx392_3
        replace hx392_4:=cb_ HB hx392_4
        replace p392:=eq_true p392
        replace q392:=eq_true q392
        try go_wp2_with (first|((with_reducible refine gate_callee (f:=19) rfl ?_);refine goesL_ (some 34) rfl rfl Try.func19 (by kernel_rfl) rfl #[.agg #[.int .i64 ((rd_T36 l0_1 t391).f0),.int .i64 ((rd_T36 l0_1 t391).f1),.int .i64 ((rd_T36 l0_1 t391).f2),.int .i64 ((rd_T36 l0_1 t391).f3),.int .i64 ((rd_T36 l0_1 t391).f4)]] rfl (by (try simp only [List.map_toArray,List.map_cons,List.map_nil]);first|done|rfl|(simp only [List.length_drop,List.length_take];rfl)) ?_;(with_reducible refine (spec_Scalar.calls ((rd_T36 l0_1 t391).f0) ((rd_T36 l0_1 t391).f1) ((rd_T36 l0_1 t391).f2) ((rd_T36 l0_1 t391).f3) ((rd_T36 l0_1 t391).f4) t393 _ A10.out).mono ?_);rintro e w14 ⟨rfl,hb⟩;refine ⟨_,rfl,?_⟩;have n0_:=bb_ BK388 hb;have n1_:=hs_ HB hb;clear BK388;clear HB;have BK388:=n0_;have HB:=n1_;clear n0_ n1_;(try clear hb);(try clear hb2);(try clear hk);(try clear hi)))
        go_roundg k1
        case measure=>have:=HK1.out;omega
        case rel=>exact ⟨(wrap64 (x5_1 + t393)),(wrap64 (x6_1 + 1)),(by first|rfl|(simp;done)|(simp [*];done)),(by first|rfl|(simp;done)|(simp [*];done)),H',⟨by have:=HK1.out;omega⟩,⟨by (with_reducible repeat (first|refine qb ?_ _|refine qe ?_|refine qc ?_ _));exact BK388.out⟩,⟨by repeat (first|(with_reducible first|exact HB.out|apply qf|apply qa|apply qd|refine qg ?_ GE388.out)|exact HB.out)⟩⟩
       ·rw [if_neg c9] at H
        exact absurd H (by simp)
      ·rw [if_neg c8] at H
       exact absurd H (by simp)
     ·rw [if_neg c7] at H
      have c7b0 : decide (0 ≤ t391) = false:=decide_eq_false c7
      clear c7
      have H':=qn.mk H
      clear H
      try go_wp2
      have n0_:=qn.mk (qe BK388.out)
      have n1_:=qn.mk (qd HB.out)
      clear BK388
      clear HB
      have BK388:=n0_
      have HB:=n1_
      clear n0_ n1_
      have p389 : 0 ≤ (x6_1 : Int):=of_decide_eq_true (by first|(with_reducible assumption)|assumption)
      have q389 : x6_1 < (l1.length : Int):=of_decide_eq_true (by first|(with_reducible assumption)|assumption)
      obtain ⟨ad389,e389,hx389_0,hx389_1⟩:=at_T130 HR1.out x6_1 p389 q389
      have hw389_1:=hx389_1
      have hw389_0:=hx389_0
      cases e389
      replace hx389_0:=cb_ HB hx389_0
      replace hx389_1:=cb_ HB hx389_1
      replace p389:=eq_true p389
      replace q389:=eq_true q389
      have p390 : 0 ≤ (x6_1 : Int):=of_decide_eq_true (by first|(with_reducible assumption)|assumption)
      have q390 : x6_1 < (l1.length : Int):=of_decide_eq_true (by first|(with_reducible assumption)|assumption)
      obtain ⟨ad390,e390,hx390_0,hx390_1⟩:=at_T130 HR1.out x6_1 p390 q390
      have hw390_1:=hx390_1
      have hw390_0:=hx390_0
      obtain rfl : ad389 = ad390:=(by injection e390)
      replace hx390_0:=cb_ HB hx390_0
      replace hx390_1:=cb_ HB hx390_1
      replace p390:=eq_true p390
      replace q390:=eq_true q390
      refine start_ (n:=13) (S:=fun w'=>w'.cell? ⟨gb388,0,none⟩ = some (.int .i64 a0_0) ∧ w'.cell? ⟨gb388,1,none⟩ = some (.slice A0_1 l0_1.length c0_1) ∧ w'.cell? (ad389.add ((x6_1).toNat * 2)) = some (.int .i64 ((rd_T130 l1 x6_1).f0)) ∧ w'.cell? ⟨(ad389.add ((x6_1).toNat * 2)).block,(ad389.add ((x6_1).toNat * 2)).off + 1,none⟩ = some (.int .i64 ((rd_T130 l1 x6_1).f1)) ∧ w'.cell? (ad389.add ((x6_1).toNat * 2)) = some (.int .i64 ((rd_T130 l1 x6_1).f0)) ∧ w'.cell? ⟨(ad389.add ((x6_1).toNat * 2)).block,(ad389.add ((x6_1).toNat * 2)).off + 1,none⟩ = some (.int .i64 ((rd_T130 l1 x6_1).f1))) (ds:=[]) #[false,false,false,false,false,false,false,false,false,false,false,false,false] (by kernel_rfl) rfl rfl ⟨(qh BK388.out 0).trans rfl,(qh BK388.out 1).trans rfl,(cb_ HB hw389_0:),(cb_ HB hw389_1:),(cb_ HB hw390_0:),(cb_ HB hw390_1:)⟩ (fun hHeld=>?_);refine with_tabW laws_worth.tab5 laws_worth.bits5 (fun HT_ HW_=>?_)
      generalize wr.drew = w15 at BK388 HB hx389_0 hx389_1 hx390_0 hx390_1 hHeld ⊢
      refine pure_ (i:=1) (N:=some 15) (v:=?_) (a':=?_) #[false,true,false,false,false,false,false,false,false,false,false,false,false] rfl rfl (any_of HT_.out (by kernel_rfl)) (fun _ _ _ h=>h) (Or.inl ⟨by rfl,?_⟩) ?_ ?_
      rotate_left
      ·intro w'
       go_simp
       with_reducible rfl
      rotate_left
      ·simp only [Act.put,List.setIfInBounds_toArray,List.set_cons_zero,List.set_cons_succ,i64_w,i32_w]
       rfl
      refine pure_ (i:=2) (N:=some 16) (v:=?_) (a':=?_) #[false,true,true,false,false,false,false,false,false,false,false,false,false] rfl rfl (any_of HT_.out (by kernel_rfl)) (fun _ _ _ h=>h) (Or.inl ⟨by rfl,?_⟩) ?_ ?_
      rotate_left
      ·intro w'
       go_simp
       with_reducible rfl
      rotate_left
      ·simp only [Act.put,List.setIfInBounds_toArray,List.set_cons_zero,List.set_cons_succ,i64_w,i32_w]
       rfl
      refine pure_ (i:=3) (N:=some 17) (v:=?_) (a':=?_) #[false,true,true,true,false,false,false,false,false,false,false,false,false] rfl rfl (any_of HT_.out (by kernel_rfl)) (fun _ _ _ h=>h) (Or.inl ⟨by rfl,?_⟩) ?_ ?_
      rotate_left
      ·intro w'
       go_simp
       with_reducible rfl
      rotate_left
      ·simp only [Act.put,List.setIfInBounds_toArray,List.set_cons_zero,List.set_cons_succ,i64_w,i32_w]
       rfl
      refine pure_ (i:=4) (N:=some 18) (v:=?_) (a':=?_) #[false,true,true,true,true,false,false,false,false,false,false,false,false] rfl rfl (any_of HT_.out (by kernel_rfl)) (fun _ _ _ h=>h) (Or.inl ⟨by rfl,?_⟩) ?_ ?_
      rotate_left
      ·intro w'
       go_simp
       with_reducible rfl
      rotate_left
      ·simp only [Act.put,List.setIfInBounds_toArray,List.set_cons_zero,List.set_cons_succ,i64_w,i32_w]
       rfl
      refine pure_ (i:=6) (N:=some 20) (v:=?_) (a':=?_) #[false,true,true,true,true,false,true,false,false,false,false,false,false] rfl rfl (any_of HT_.out (by kernel_rfl)) (fun _ _ _ h=>h) (Or.inl ⟨by rfl,?_⟩) ?_ ?_
      rotate_left
      ·intro w'
       go_simp
       with_reducible rfl
      rotate_left
      ·simp only [Act.put,List.setIfInBounds_toArray,List.set_cons_zero,List.set_cons_succ,i64_w,i32_w]
       rfl
      refine pure_ (i:=7) (N:=some 21) (v:=?_) (a':=?_) #[false,true,true,true,true,false,true,true,false,false,false,false,false] rfl rfl (any_of HT_.out (by kernel_rfl)) (fun _ _ _ h=>h) (Or.inl ⟨by rfl,?_⟩) ?_ ?_
      rotate_left
      ·intro w'
       go_simp
       with_reducible rfl
      rotate_left
      ·simp only [Act.put,List.setIfInBounds_toArray,List.set_cons_zero,List.set_cons_succ,i64_w,i32_w]
       rfl
      refine pure_ (i:=8) (N:=some 22) (v:=?_) (a':=?_) #[false,true,true,true,true,false,true,true,true,false,false,false,false] rfl rfl (any_of HT_.out (by kernel_rfl)) (fun _ _ _ h=>h) (Or.inl ⟨by rfl,?_⟩) ?_ ?_
      rotate_left
      ·intro w'
       go_simp
       with_reducible rfl
      rotate_left
      ·simp only [Act.put,List.setIfInBounds_toArray,List.set_cons_zero,List.set_cons_succ,i64_w,i32_w]
       rfl
      refine pure_ (i:=9) (N:=some 23) (v:=?_) (a':=?_) #[false,true,true,true,true,false,true,true,true,true,false,false,false] rfl rfl (any_of HT_.out (by kernel_rfl)) (fun _ _ _ h=>h) (Or.inl ⟨by rfl,?_⟩) ?_ ?_
      rotate_left
      ·intro w'
       go_simp
       with_reducible rfl
      rotate_left
      ·simp only [Act.put,List.setIfInBounds_toArray,List.set_cons_zero,List.set_cons_succ,i64_w,i32_w]
       rfl
      refine take_ (i:=0) (N:=some 14) (v:=?_) (a':=?_) #[true,true,true,true,true,false,true,true,true,true,false,false,false] rfl rfl (take_ofW HT_.out HW_.out (by kernel_rfl)) (fun _ _ _ h=>h) (Or.inl ⟨by rfl,?_⟩) hHeld ?_ ?_
      rotate_left
      ·rintro w' ⟨s0,s1,s2,s3,s4,s5⟩
       go_simp
       with_reducible rfl
      rotate_left
      ·simp only [Act.put,List.setIfInBounds_toArray,List.set_cons_zero,List.set_cons_succ,i64_w,i32_w]
       rfl
      refine take_ (i:=5) (N:=some 19) (v:=?_) (a':=?_) #[true,true,true,true,true,true,true,true,true,true,false,false,false] rfl rfl (take_ofW HT_.out HW_.out (by kernel_rfl)) (fun _ _ _ h=>h) (Or.inl ⟨by rfl,?_⟩) hHeld ?_ ?_
      rotate_left
      ·rintro w' ⟨s0,s1,s2,s3,s4,s5⟩
       go_simp
       with_reducible rfl
      rotate_left
      ·simp only [Act.put,List.setIfInBounds_toArray,List.set_cons_zero,List.set_cons_succ,i64_w,i32_w]
       rfl
      refine take_ (i:=10) (N:=some 24) (v:=?_) (a':=?_) #[true,true,true,true,true,true,true,true,true,true,true,false,false] rfl rfl (take_ofW HT_.out HW_.out (by kernel_rfl)) (fun _ _ _ h=>h) (Or.inl ⟨by rfl,?_⟩) hHeld ?_ ?_
      rotate_left
      ·rintro w' ⟨s0,s1,s2,s3,s4,s5⟩
       go_simp
       with_reducible rfl
      rotate_left
      ·simp only [Act.put,List.setIfInBounds_toArray,List.set_cons_zero,List.set_cons_succ,i64_w,i32_w]
       rfl
      refine one_ (i:=11) (N:=some 25) #[true,true,true,true,true,true,true,true,true,true,true,true,false] rfl rfl (one_of HT_.out (by kernel_rfl)) (by decide) (fun K hK=>?_)
      refine goes_ Try.func93 (by kernel_rfl) rfl #[.agg #[.int .i64 a0_0,.slice A0_1 l0_1.length c0_1],.int .i64 ((rd_T130 l1 x6_1).f0),.int .i64 ((rd_T130 l1 x6_1).f1)] (by rfl) rfl rfl (by (try simp only [List.map_toArray,List.map_cons,List.map_nil]);first|done|rfl|(simp only [List.length_drop,List.length_take];rfl)) ?_
      with_reducible refine (spec_EdgeAt.calls k1 a0_0 _ _ l0_1 ((rd_T130 l1 x6_1).f0) ((rd_T130 l1 x6_1).f1) t391 _ ?side1 ?side2 A6.out).mono ?_
      (case side1=>repeat (first|exact (Kd.C_below HR0_1.out HB.out)|(with_reducible refine Kd.C_alloc ?_ _)|(with_reducible refine Kd.C_drewN ?_ _)|(with_reducible refine Kd.C_drew ?_)))
      (case side2=>exact HC0_1.out)
      rintro e w16 ⟨rfl,hb⟩
      refine ⟨_,rfl,?_⟩
      have n0_:=bb_ BK388 hb
      have n1_:=hs_ HB hb
      clear BK388
      clear HB
      have BK388:=n0_
      have HB:=n1_
      clear n0_ n1_
      (try clear hb)
      (try clear hb2)
      (try clear hk)
      (try clear hi)
      refine hK.out _ _ ⟨(qh BK388.out 0).trans rfl,(qh BK388.out 1).trans rfl,(cb_ HB hw389_0:),(cb_ HB hw389_1:),(cb_ HB hw390_0:),(cb_ HB hw390_1:)⟩ (fun hHeld=>?_)
      clear hK K
      refine norm_ (a':=?_) ?_ ?_
      rotate_left
      ·show Act.put _ (some 25) _ = _
       simp only [Act.put,List.setIfInBounds_toArray,List.set_cons_zero,List.set_cons_succ,i64_w,i32_w]
       rfl
      refine pure_ (i:=12) (N:=some 7) (v:=?_) (a':=?_) #[true,true,true,true,true,true,true,true,true,true,true,true,true] rfl rfl (any_of HT_.out (by kernel_rfl)) (fun _ _ _ h=>h) (Or.inl ⟨by rfl,?_⟩) ?_ ?_
      rotate_left
      ·intro w'
       go_simp
       with_reducible rfl
      rotate_left
      ·simp only [Act.put,List.setIfInBounds_toArray,List.set_cons_zero,List.set_cons_succ,i64_w,i32_w]
       rfl
      refine done_ (done_of HT_.out (by kernel_rfl)) ?_
      try go_wp2
      go_roundg k1
      case measure=>have:=HK1.out;omega
      case rel=>exact ⟨(x5_1),(wrap64 (x6_1 + 1)),(by first|rfl|(simp;done)|(simp [*];done)),(by first|rfl|(simp;done)|(simp [*];done)),H',⟨by have:=HK1.out;omega⟩,⟨by (with_reducible repeat (first|refine qb ?_ _|refine qe ?_|refine qc ?_ _));exact BK388.out⟩,⟨by repeat (first|(with_reducible first|exact HB.out|apply qf|apply qa|apply qd|refine qg ?_ GE388.out)|exact HB.out)⟩⟩
    ·rw [if_neg c5] at H
     exact absurd H (by simp)
   ·rw [if_neg c4] at H
    have c4b0 : decide (x6_1 < (l1.length : Int)) = false:=decide_eq_false c4
    clear c4
    obtain rfl:=Option.some.inj H
    go_wp2
    go_ret
    exact ⟨by first|rfl|(simp [errW_none,errW_some] <;> rfl)|(simp [*,errW_none,errW_some] <;> rfl),by repeat (first|(with_reducible first|exact HB.out|apply qf|apply qa|apply qd|refine qg ?_ GE388.out)|exact HB.out)⟩

end Go.Proofs.Ytfmemcffbfahhaa.QFnBest
