/- Lean functions for the Go functions that the law FnExactPageText reaches, and that each Go function comes to just its Lean function's answer; by a program of this session. -/
import Derived.Test.YtcdofljgeiohgaaZFnExactPageTextx0
import Derived.Test.YtcdofljgeiohgaaZFnExactPageTextx1
namespace Go.Proofs.Ytcdofljgeiohgaa.QFnExactPageText
open Go.RowKit Go.Proofs.YtcdofljgeiohgaaW.PrintWords Go.Proofs.YtcdofljgeiohgaaW.PrintLast Go.Proofs.YtcdofljgeiohgaaW.PrintMore
attribute [local go_sem] max2_int min2_int max_two min_two max_three min_three max_four min_four   -- for this text's walks alone
set_option linter.unusedVariables false
set_option linter.unusedSimpArgs false

/-! ### spec_ItemSize: function 69 -/
def spec_ItemSize.f (k : Nat) (a0 : Int) (a1_0 : ByteArray) (a1_1 : ByteArray) (a1_2 : Int) : Option (Int):=if a0 = 1 then ((spec_l04Short.f k a1_0).bind fun t125=>((spec_l04Short.f k a1_1).bind fun t126=>(some (wrap64 ((t125.size : Int) + (t126.size : Int)))))) else (if a0 = 2 then ((spec_VarText.f k a1_2).bind fun bt127=>(if bt127.2 = true then ((spec_l04Short.f k a1_0).bind fun t129=>(some (wrap64 ((t129.size : Int) + (bt127.1.size : Int))))) else ((spec_l04Short.f k a1_0).bind fun t130=>(some (t130.size : Int))))) else (some 0))
theorem spec_ItemSize.mono : ∀ a0 a1 a2 a3 k,LeO (spec_ItemSize.f k a0 a1 a2 a3) (spec_ItemSize.f (k + 1) a0 a1 a2 a3):=by
  intro a0 a1 a2 a3 k
  unfold spec_ItemSize.f
  repeat' first
      | (with_reducible exact spec_VarText.mono _ _)
      | (with_reducible exact spec_l04Short.mono _ _)
      | (with_reducible exact LeO.refl _)
      | (with_reducible exact LeO.none _)
      | (with_reducible refine LeO.ite ?_ ?_)
      | (with_reducible refine LeO.bind ?_ (fun _=>?_))
      | exact spec_VarText.mono _ _
      | exact spec_l04Short.mono _ _
      | exact LeO.none _
      | refine LeO.ite ?_ ?_
      | refine LeO.bind ?_ (fun _=>?_)
def spec_ItemSize.T3 : Bool × List (List Nat × List Nat):=(true,[([],[]),([0],[0]),([1],[1]),([2],[2]),([],[]),([4],[4]),([5,2],[5]),([6],[6]),([3,7],[3,7]),([8,6,0,1,2,3,4,5,6,7,8],[8])])
def spec_ItemSize.B3 : List Nat:=[0,1,3,7,0,16,55,119,255,511]
theorem spec_ItemSize.tab3 : rtab .any (opsOf Try.f69 3) = spec_ItemSize.T3:=by kernel_rfl
theorem spec_ItemSize.bits3 : waitsOk spec_ItemSize.T3.2 spec_ItemSize.B3 = true:=by kernel_rfl
set_option maxHeartbeats 8000000 in
set_option maxRecDepth 100000 in
theorem spec_ItemSize.calls (k : Nat) (a0 : Int) (a1_0 : ByteArray) (a1_1 : ByteArray) (a1_2 : Int) (r : Int) (w : World) (h : spec_ItemSize.f k a0 a1_0 a1_1 a1_2 = some r) :
    Calls Try.prog 69 #[.int .i64 a0,.agg #[.string a1_0,.string a1_1,.int .i64 a1_2]] w fun e w'=>e = .returned (.int .i64 r) ∧ Below w.heap.size w w':=by
  have hu85:=Try.underlying85
  have HB:=qn.mk (Below.refl w.heap.size w)
  have H : (if a0 = 1 then ((spec_l04Short.f k a1_0).bind fun t125=>((spec_l04Short.f k a1_1).bind fun t126=>(some (wrap64 ((t125.size : Int) + (t126.size : Int)))))) else (if a0 = 2 then ((spec_VarText.f k a1_2).bind fun bt127=>(if bt127.2 = true then ((spec_l04Short.f k a1_0).bind fun t129=>(some (wrap64 ((t129.size : Int) + (bt127.1.size : Int))))) else ((spec_l04Short.f k a1_0).bind fun t130=>(some (t130.size : Int))))) else (some 0))) = some r:=h
  clear h
  by_cases c3 : a0 = 1
  · rw [if_pos c3] at H
    have c3b0 : (a0 == 1) = true:=beq_iff_eq.mpr c3
    have c3b1 : (a0 != 1) = false:=bne_eq_false_iff_eq.mpr c3
    clear c3
    replace H:=Option.bind_eq_some_iff.mp H
    obtain ⟨t125,A40,H⟩:=H
    replace H : ((spec_l04Short.f k a1_1).bind fun t126=>(some (wrap64 ((t125.size : Int) + (t126.size : Int))))) = some r:=H
    have A4:=qn.mk A40
    clear A40
    replace H:=Option.bind_eq_some_iff.mp H
    obtain ⟨t126,A50,H⟩:=H
    replace H : (some (wrap64 ((t125.size : Int) + (t126.size : Int)))) = some r:=H
    have A5:=qn.mk A50
    clear A50
    obtain rfl:=Option.some.inj H
    go_enter Try.func69,Try.ntmps69
    try go_wp2_with (first|((with_reducible refine gate_dst (N:=3) rfl ?_);refine box_event ?hg (N:=3) ?hd (cs:=#[.string a1_0,.string a1_1,.int .i64 a1_2]) (t:=85) ?hr ?_;(case hd=>rfl);(case hg=>rfl);(case hr=>first|(go_simp;done)|(go_simp;rfl));intro gb124 hg w6 hbox hb;have n0_:=hs_ HB hb;have n1_:=qn.mk (hbox);have n2_:=qn.mk ((by rw [hg];exact (qj (by repeat (first|(with_reducible first|exact HB.out|apply qf|apply qa|apply qd)|exact HB.out))) : w.heap.size ≤ gb124));have n3_:=qn.mk ((by rw [hg];exact (qj (by repeat (first|(with_reducible first|exact HB.out|apply qf|apply qa|apply qd)|exact HB.out))) : w.heap.size ≤ gb124));clear HB;have HB:=n0_;have BK124:=n1_;have GW124:=n2_;have GE124:=n3_;clear n0_ n1_ n2_ n3_;clear hb hbox hg))
    have n0_:=qn.mk (qe BK124.out)
    have n1_:=qn.mk (qd HB.out)
    clear BK124
    clear HB
    have BK124:=n0_
    have HB:=n1_
    clear n0_ n1_
    refine start_ (n:=10) (S:=fun w'=>w'.cell? ⟨gb124,0,none⟩ = some (.string a1_0) ∧ w'.cell? ⟨gb124,1,none⟩ = some (.string a1_1) ∧ w'.cell? ⟨gb124,2,none⟩ = some (.int .i64 a1_2)) (ds:=[]) #[false,false,false,false,false,false,false,false,false,false] (by kernel_rfl) rfl rfl ⟨(qh BK124.out 0).trans rfl,(qh BK124.out 1).trans rfl,(qh BK124.out 2).trans rfl⟩ (fun hHeld=>?_);refine with_tabW spec_ItemSize.tab3 spec_ItemSize.bits3 (fun HT_ HW_=>?_)
    generalize w6.drew = w7 at BK124 HB hHeld ⊢
    refine pure_ (i:=0) (N:=some 10) (v:=?_) (a':=?_) #[true,false,false,false,false,false,false,false,false,false] rfl rfl (any_of HT_.out (by kernel_rfl)) (fun _ _ _ h=>h) (Or.inl ⟨by rfl,?_⟩) ?_ ?_
    rotate_left
    · intro w'
      go_simp
      with_reducible rfl
    rotate_left
    · simp only [Act.put,List.setIfInBounds_toArray,List.set_cons_zero,List.set_cons_succ,i64_w,i32_w]
      rfl
    refine pure_ (i:=4) (N:=some 14) (v:=?_) (a':=?_) #[true,false,false,false,true,false,false,false,false,false] rfl rfl (any_of HT_.out (by kernel_rfl)) (fun _ _ _ h=>h) (Or.inl ⟨by rfl,?_⟩) ?_ ?_
    rotate_left
    · intro w'
      go_simp
      with_reducible rfl
    rotate_left
    · simp only [Act.put,List.setIfInBounds_toArray,List.set_cons_zero,List.set_cons_succ,i64_w,i32_w]
      rfl
    refine take_ (i:=1) (N:=some 11) (v:=?_) (a':=?_) #[true,true,false,false,true,false,false,false,false,false] rfl rfl (take_ofW HT_.out HW_.out (by kernel_rfl)) (fun _ _ _ h=>h) (Or.inl ⟨by rfl,?_⟩) hHeld ?_ ?_
    rotate_left
    · rintro w' ⟨s0,s1,s2⟩
      go_simp
      with_reducible rfl
    rotate_left
    · simp only [Act.put,List.setIfInBounds_toArray,List.set_cons_zero,List.set_cons_succ,i64_w,i32_w]
      rfl
    refine take_ (i:=5) (N:=some 15) (v:=?_) (a':=?_) #[true,true,false,false,true,true,false,false,false,false] rfl rfl (take_ofW HT_.out HW_.out (by kernel_rfl)) (fun _ _ _ h=>h) (Or.inl ⟨by rfl,?_⟩) hHeld ?_ ?_
    rotate_left
    · rintro w' ⟨s0,s1,s2⟩
      go_simp
      with_reducible rfl
    rotate_left
    · simp only [Act.put,List.setIfInBounds_toArray,List.set_cons_zero,List.set_cons_succ,i64_w,i32_w]
      rfl
    refine one_ (i:=2) (N:=some 12) #[true,true,true,false,true,true,false,false,false,false] rfl rfl (one_of HT_.out (by kernel_rfl)) (by decide) (fun K hK=>?_)
    refine goes_ Try.func41 (by kernel_rfl) rfl #[.string a1_0] (by rfl) rfl rfl (by (try simp only [List.map_toArray,List.map_cons,List.map_nil]);first|done|rfl|(simp only [List.length_drop,List.length_take];rfl)) ?_
    with_reducible refine (spec_l04Short.calls k a1_0 t125 _ A4.out).mono ?_
    rintro e w8 ⟨rfl,hb⟩
    refine ⟨_,rfl,?_⟩
    have n0_:=bb_ BK124 hb
    have n1_:=hs_ HB hb
    clear BK124
    clear HB
    have BK124:=n0_
    have HB:=n1_
    clear n0_ n1_
    (try clear hb)
    (try clear hb2)
    (try clear hk)
    (try clear hi)
    refine hK.out _ _ ⟨(qh BK124.out 0).trans rfl,(qh BK124.out 1).trans rfl,(qh BK124.out 2).trans rfl⟩ (fun hHeld=>?_)
    clear hK K
    refine norm_ (a':=?_) ?_ ?_
    rotate_left
    · show Act.put _ (some 12) _ = _
      simp only [Act.put,List.setIfInBounds_toArray,List.set_cons_zero,List.set_cons_succ,i64_w,i32_w]
      rfl
    refine pure_ (i:=3) (N:=some 13) (v:=?_) (a':=?_) #[true,true,true,true,true,true,false,false,false,false] rfl rfl (any_of HT_.out (by kernel_rfl)) (fun _ _ _ h=>h) (Or.inl ⟨by rfl,?_⟩) ?_ ?_
    rotate_left
    · intro w'
      go_simp
      with_reducible rfl
    rotate_left
    · simp only [Act.put,List.setIfInBounds_toArray,List.set_cons_zero,List.set_cons_succ,i64_w,i32_w]
      rfl
    refine one_ (i:=6) (N:=some 16) #[true,true,true,true,true,true,true,false,false,false] rfl rfl (one_of HT_.out (by kernel_rfl)) (by decide) (fun K hK=>?_)
    refine goes_ Try.func41 (by kernel_rfl) rfl #[.string a1_1] (by rfl) rfl rfl (by (try simp only [List.map_toArray,List.map_cons,List.map_nil]);first|done|rfl|(simp only [List.length_drop,List.length_take];rfl)) ?_
    with_reducible refine (spec_l04Short.calls k a1_1 t126 _ A5.out).mono ?_
    rintro e w9 ⟨rfl,hb⟩
    refine ⟨_,rfl,?_⟩
    have n0_:=bb_ BK124 hb
    have n1_:=hs_ HB hb
    clear BK124
    clear HB
    have BK124:=n0_
    have HB:=n1_
    clear n0_ n1_
    (try clear hb)
    (try clear hb2)
    (try clear hk)
    (try clear hi)
    refine hK.out _ _ ⟨(qh BK124.out 0).trans rfl,(qh BK124.out 1).trans rfl,(qh BK124.out 2).trans rfl⟩ (fun hHeld=>?_)
    clear hK K
    refine norm_ (a':=?_) ?_ ?_
    rotate_left
    · show Act.put _ (some 16) _ = _
      simp only [Act.put,List.setIfInBounds_toArray,List.set_cons_zero,List.set_cons_succ,i64_w,i32_w]
      rfl
    refine pure_ (i:=7) (N:=some 17) (v:=?_) (a':=?_) #[true,true,true,true,true,true,true,true,false,false] rfl rfl (any_of HT_.out (by kernel_rfl)) (fun _ _ _ h=>h) (Or.inl ⟨by rfl,?_⟩) ?_ ?_
    rotate_left
    · intro w'
      go_simp
      with_reducible rfl
    rotate_left
    · simp only [Act.put,List.setIfInBounds_toArray,List.set_cons_zero,List.set_cons_succ,i64_w,i32_w]
      rfl
    refine pure_ (i:=8) (N:=some 18) (v:=?_) (a':=?_) #[true,true,true,true,true,true,true,true,true,false] rfl rfl (any_of HT_.out (by kernel_rfl)) (fun _ _ _ h=>h) (Or.inl ⟨by rfl,?_⟩) ?_ ?_
    rotate_left
    · intro w'
      go_simp
      with_reducible rfl
    rotate_left
    · simp only [Act.put,List.setIfInBounds_toArray,List.set_cons_zero,List.set_cons_succ,i64_w,i32_w]
      rfl
    refine pure_ (i:=9) (N:=some 4) (v:=?_) (a':=?_) #[true,true,true,true,true,true,true,true,true,true] rfl rfl (any_of HT_.out (by kernel_rfl)) (fun _ _ _ h=>h) (Or.inl ⟨by rfl,?_⟩) ?_ ?_
    rotate_left
    · intro w'
      go_simp
      with_reducible rfl
    rotate_left
    · simp only [Act.put,List.setIfInBounds_toArray,List.set_cons_zero,List.set_cons_succ,i64_w,i32_w]
      rfl
    refine done_ (done_of HT_.out (by kernel_rfl)) ?_
    try go_wp2
    go_ret
    exact ⟨by first|rfl|(simp [errW_none,errW_some] <;> rfl)|(simp [*,errW_none,errW_some] <;> rfl),by repeat (first|(with_reducible first|exact HB.out|apply qf|apply qa|apply qd|refine qg ?_ GE124.out)|exact HB.out)⟩
  · rw [if_neg c3] at H
    have c3b0 : (a0 == 1) = false:=beq_eq_false_iff_ne.mpr c3
    have c3b1 : (a0 != 1) = true:=bne_iff_ne.mpr c3
    by_cases c10 : a0 = 2
    · rw [if_pos c10] at H
      have c10b0 : (a0 == 2) = true:=beq_iff_eq.mpr c10
      have c10b1 : (a0 != 2) = false:=bne_eq_false_iff_eq.mpr c10
      clear c10
      replace H:=Option.bind_eq_some_iff.mp H
      obtain ⟨⟨t127,t128⟩,A110,H⟩:=H
      replace H : (if t128 = true then ((spec_l04Short.f k a1_0).bind fun t129=>(some (wrap64 ((t129.size : Int) + (t127.size : Int))))) else ((spec_l04Short.f k a1_0).bind fun t130=>(some (t130.size : Int)))) = some r:=H
      have A11:=qn.mk A110
      clear A110
      by_cases c12 : t128 = true
      · subst c12
        have H1 : ((spec_l04Short.f k a1_0).bind fun t129=>(some (wrap64 ((t129.size : Int) + (t127.size : Int))))) = some r:=by rw [if_pos rfl] at H;exact H
        clear H
        have H:=H1
        clear H1
        replace H:=Option.bind_eq_some_iff.mp H
        obtain ⟨t129,A130,H⟩:=H
        replace H : (some (wrap64 ((t129.size : Int) + (t127.size : Int)))) = some r:=H
        have A13:=qn.mk A130
        clear A130
        obtain rfl:=Option.some.inj H
        go_enter Try.func69,Try.ntmps69
        go_wp2_with (first|((with_reducible refine gate_dst (N:=3) rfl ?_);refine box_event ?hg (N:=3) ?hd (cs:=#[.string a1_0,.string a1_1,.int .i64 a1_2]) (t:=85) ?hr ?_;(case hd=>rfl);(case hg=>rfl);(case hr=>first|(go_simp;done)|(go_simp;rfl));intro gb124 hg w14 hbox hb;have n0_:=hs_ HB hb;have n1_:=qn.mk (hbox);have n2_:=qn.mk ((by rw [hg];exact (qj (by repeat (first|(with_reducible first|exact HB.out|apply qf|apply qa|apply qd)|exact HB.out))) : w.heap.size ≤ gb124));have n3_:=qn.mk ((by rw [hg];exact (qj (by repeat (first|(with_reducible first|exact HB.out|apply qf|apply qa|apply qd)|exact HB.out))) : w.heap.size ≤ gb124));clear HB;have HB:=n0_;have BK124:=n1_;have GW124:=n2_;have GE124:=n3_;clear n0_ n1_ n2_ n3_;clear hb hbox hg;have hcz15_0 : w14.cell? ⟨gb124,0,none⟩ = some (.string a1_0):=(qh BK124.out 0).trans rfl;have hcz15_1 : w14.cell? ⟨gb124,1,none⟩ = some (.string a1_1):=(qh BK124.out 1).trans rfl;have hcz15_2 : w14.cell? ⟨gb124,2,none⟩ = some (.int .i64 a1_2):=(qh BK124.out 2).trans rfl;have hfz15_0:=qi BK124.out 0;have hfz15_1:=qi BK124.out 1;have hfz15_2:=qi BK124.out 2)|((with_reducible refine gate_callee (f:=84) rfl ?_);refine goesL_ (some 24) rfl rfl Try.func84 (by kernel_rfl) rfl #[.int .i64 a1_2] rfl (by (try simp only [List.map_toArray,List.map_cons,List.map_nil]);first|done|rfl|(simp only [List.length_drop,List.length_take];rfl)) ?_;(with_reducible refine (spec_VarText.calls k a1_2 t127 true _ A11.out).mono ?_);rintro e w16 ⟨rfl,hb⟩;refine ⟨_,rfl,?_⟩;have n0_:=bb_ BK124 hb;have n1_:=hs_ HB hb;clear BK124;clear HB;have BK124:=n0_;have HB:=n1_;clear n0_ n1_;(try clear hb);(try clear hb2);(try clear hk);(try clear hi);have hcz17_0 : w16.cell? ⟨gb124,0,none⟩ = some (.string a1_0):=(qh BK124.out 0).trans rfl;have hcz17_1 : w16.cell? ⟨gb124,1,none⟩ = some (.string a1_1):=(qh BK124.out 1).trans rfl;have hcz17_2 : w16.cell? ⟨gb124,2,none⟩ = some (.int .i64 a1_2):=(qh BK124.out 2).trans rfl;have hfz17_0:=qi BK124.out 0;have hfz17_1:=qi BK124.out 1;have hfz17_2:=qi BK124.out 2)|((with_reducible refine gate_callee (f:=41) rfl ?_);refine goesL_ (some 30) rfl rfl Try.func41 (by kernel_rfl) rfl #[.string a1_0] rfl (by (try simp only [List.map_toArray,List.map_cons,List.map_nil]);first|done|rfl|(simp only [List.length_drop,List.length_take];rfl)) ?_;(with_reducible refine (spec_l04Short.calls k a1_0 t129 _ A13.out).mono ?_);rintro e w18 ⟨rfl,hb⟩;refine ⟨_,rfl,?_⟩;have n0_:=bb_ BK124 hb;have n1_:=hs_ HB hb;clear BK124;clear HB;have BK124:=n0_;have HB:=n1_;clear n0_ n1_;(try clear hb);(try clear hb2);(try clear hk);(try clear hi)))
        go_ret
        exact ⟨by first|rfl|(simp [errW_none,errW_some] <;> rfl)|(simp [*,errW_none,errW_some] <;> rfl),by repeat (first|(with_reducible first|exact HB.out|apply qf|apply qa|apply qd|refine qg ?_ GE124.out)|exact HB.out)⟩
      · replace c12:=Bool.eq_false_iff.mpr c12
        subst c12
        have H1 : ((spec_l04Short.f k a1_0).bind fun t130=>(some (t130.size : Int))) = some r:=by rw [if_neg (show ¬ (false = true) by decide)] at H;exact H
        clear H
        have H:=H1
        clear H1
        replace H:=Option.bind_eq_some_iff.mp H
        obtain ⟨t130,A190,H⟩:=H
        replace H : (some (t130.size : Int)) = some r:=H
        have A19:=qn.mk A190
        clear A190
        obtain rfl:=Option.some.inj H
        go_enter Try.func69,Try.ntmps69
        go_wp2_with (first|((with_reducible refine gate_dst (N:=3) rfl ?_);refine box_event ?hg (N:=3) ?hd (cs:=#[.string a1_0,.string a1_1,.int .i64 a1_2]) (t:=85) ?hr ?_;(case hd=>rfl);(case hg=>rfl);(case hr=>first|(go_simp;done)|(go_simp;rfl));intro gb124 hg w20 hbox hb;have n0_:=hs_ HB hb;have n1_:=qn.mk (hbox);have n2_:=qn.mk ((by rw [hg];exact (qj (by repeat (first|(with_reducible first|exact HB.out|apply qf|apply qa|apply qd)|exact HB.out))) : w.heap.size ≤ gb124));have n3_:=qn.mk ((by rw [hg];exact (qj (by repeat (first|(with_reducible first|exact HB.out|apply qf|apply qa|apply qd)|exact HB.out))) : w.heap.size ≤ gb124));clear HB;have HB:=n0_;have BK124:=n1_;have GW124:=n2_;have GE124:=n3_;clear n0_ n1_ n2_ n3_;clear hb hbox hg;have hcz21_0 : w20.cell? ⟨gb124,0,none⟩ = some (.string a1_0):=(qh BK124.out 0).trans rfl;have hcz21_1 : w20.cell? ⟨gb124,1,none⟩ = some (.string a1_1):=(qh BK124.out 1).trans rfl;have hcz21_2 : w20.cell? ⟨gb124,2,none⟩ = some (.int .i64 a1_2):=(qh BK124.out 2).trans rfl;have hfz21_0:=qi BK124.out 0;have hfz21_1:=qi BK124.out 1;have hfz21_2:=qi BK124.out 2)|((with_reducible refine gate_callee (f:=84) rfl ?_);refine goesL_ (some 24) rfl rfl Try.func84 (by kernel_rfl) rfl #[.int .i64 a1_2] rfl (by (try simp only [List.map_toArray,List.map_cons,List.map_nil]);first|done|rfl|(simp only [List.length_drop,List.length_take];rfl)) ?_;(with_reducible refine (spec_VarText.calls k a1_2 t127 false _ A11.out).mono ?_);rintro e w22 ⟨rfl,hb⟩;refine ⟨_,rfl,?_⟩;have n0_:=bb_ BK124 hb;have n1_:=hs_ HB hb;clear BK124;clear HB;have BK124:=n0_;have HB:=n1_;clear n0_ n1_;(try clear hb);(try clear hb2);(try clear hk);(try clear hi);have hcz23_0 : w22.cell? ⟨gb124,0,none⟩ = some (.string a1_0):=(qh BK124.out 0).trans rfl;have hcz23_1 : w22.cell? ⟨gb124,1,none⟩ = some (.string a1_1):=(qh BK124.out 1).trans rfl;have hcz23_2 : w22.cell? ⟨gb124,2,none⟩ = some (.int .i64 a1_2):=(qh BK124.out 2).trans rfl;have hfz23_0:=qi BK124.out 0;have hfz23_1:=qi BK124.out 1;have hfz23_2:=qi BK124.out 2)|((with_reducible refine gate_callee (f:=41) rfl ?_);refine goesL_ (some 37) rfl rfl Try.func41 (by kernel_rfl) rfl #[.string a1_0] rfl (by (try simp only [List.map_toArray,List.map_cons,List.map_nil]);first|done|rfl|(simp only [List.length_drop,List.length_take];rfl)) ?_;(with_reducible refine (spec_l04Short.calls k a1_0 t130 _ A19.out).mono ?_);rintro e w24 ⟨rfl,hb⟩;refine ⟨_,rfl,?_⟩;have n0_:=bb_ BK124 hb;have n1_:=hs_ HB hb;clear BK124;clear HB;have BK124:=n0_;have HB:=n1_;clear n0_ n1_;(try clear hb);(try clear hb2);(try clear hk);(try clear hi)))
        go_ret
        exact ⟨by first|rfl|(simp [errW_none,errW_some] <;> rfl)|(simp [*,errW_none,errW_some] <;> rfl),by repeat (first|(with_reducible first|exact HB.out|apply qf|apply qa|apply qd|refine qg ?_ GE124.out)|exact HB.out)⟩
    · rw [if_neg c10] at H
      have c10b0 : (a0 == 2) = false:=beq_eq_false_iff_ne.mpr c10
      have c10b1 : (a0 != 2) = true:=bne_iff_ne.mpr c10
      obtain rfl:=Option.some.inj H
      go_enter Try.func69,Try.ntmps69
      go_wp2_with (first|((with_reducible refine gate_dst (N:=3) rfl ?_);refine box_event ?hg (N:=3) ?hd (cs:=#[.string a1_0,.string a1_1,.int .i64 a1_2]) (t:=85) ?hr ?_;(case hd=>rfl);(case hg=>rfl);(case hr=>first|(go_simp;done)|(go_simp;rfl));intro gb124 hg w25 hbox hb;have n0_:=hs_ HB hb;have n1_:=qn.mk (hbox);have n2_:=qn.mk ((by rw [hg];exact (qj (by repeat (first|(with_reducible first|exact HB.out|apply qf|apply qa|apply qd)|exact HB.out))) : w.heap.size ≤ gb124));have n3_:=qn.mk ((by rw [hg];exact (qj (by repeat (first|(with_reducible first|exact HB.out|apply qf|apply qa|apply qd)|exact HB.out))) : w.heap.size ≤ gb124));clear HB;have HB:=n0_;have BK124:=n1_;have GW124:=n2_;have GE124:=n3_;clear n0_ n1_ n2_ n3_;clear hb hbox hg))
      go_ret
      exact ⟨by first|rfl|(simp [errW_none,errW_some] <;> rfl)|(simp [*,errW_none,errW_some] <;> rfl),by repeat (first|(with_reducible first|exact HB.out|apply qf|apply qa|apply qd|refine qg ?_ GE124.out)|exact HB.out)⟩

/-! ### spec_l04Sum: function 39 -/
def spec_l04Sum.l0 : Nat → Int → List (S85) → Int → Int → Option (Int)
  | 0,_,_,_,_=>none
  | k + 1,x0,x1,x5,x6=>if x6 < (x1.length : Int) then (if 0 ≤ x6 then ((spec_ItemSize.f k x0 ((rd_T85 x1 x6).f0) ((rd_T85 x1 x6).f1) ((rd_T85 x1 x6).f2)).bind fun t132=>(spec_l04Sum.l0 k x0 x1 (wrap64 (x5 + t132)) (wrap64 (x6 + 1)))) else (none)) else (some x5)
def spec_l04Sum.f (k : Nat) (a0 : Int) (l1 : List (S85)) : Option (Int):=spec_l04Sum.l0 k a0 l1 0 0
theorem spec_l04Sum.mono_l : ∀ k,(∀ y0 y1 y2 y3,LeO (spec_l04Sum.l0 k y0 y1 y2 y3) (spec_l04Sum.l0 (k + 1) y0 y1 y2 y3))
  | 0=>fun _ _ _ _ r h=>by simp [spec_l04Sum.l0] at h
  | k + 1=>by
    have ih0:=spec_l04Sum.mono_l k
    · intro y0 y1 y2 y3
      unfold spec_l04Sum.l0
      repeat' first
      | (with_reducible exact ih0 _ _ _ _)
      | (with_reducible exact spec_ItemSize.mono _ _ _ _ _)
      | (with_reducible exact LeO.refl _)
      | (with_reducible exact LeO.none _)
      | (with_reducible refine LeO.ite ?_ ?_)
      | (with_reducible refine LeO.bind ?_ (fun _=>?_))
      | exact ih0 _ _ _ _
      | exact spec_ItemSize.mono _ _ _ _ _
      | exact LeO.none _
      | refine LeO.ite ?_ ?_
      | refine LeO.bind ?_ (fun _=>?_)
theorem spec_l04Sum.mono : ∀ a0 a1 k,LeO (spec_l04Sum.f k a0 a1) (spec_l04Sum.f (k + 1) a0 a1):=by
  intro a0 a1 k
  have ih0:=spec_l04Sum.mono_l k
  unfold spec_l04Sum.f
  repeat' first
      | (with_reducible exact ih0 _ _ _ _)
      | (with_reducible exact spec_ItemSize.mono _ _ _ _ _)
      | (with_reducible exact LeO.refl _)
      | (with_reducible exact LeO.none _)
      | (with_reducible refine LeO.ite ?_ ?_)
      | (with_reducible refine LeO.bind ?_ (fun _=>?_))
      | exact ih0 _ _ _ _
      | exact spec_ItemSize.mono _ _ _ _ _
      | exact LeO.none _
      | refine LeO.ite ?_ ?_
      | refine LeO.bind ?_ (fun _=>?_)
set_option maxHeartbeats 8000000 in
set_option maxRecDepth 100000 in
theorem spec_l04Sum.calls (k : Nat) (a0 : Int) (A1 : Option Addr) (c1 : Nat) (l1 : List (S85)) (r : Int) (w : World) (hr1 : Kd.C k85 w A1 l1.length l1) (hc1 : l1.length ≤ c1) (h : spec_l04Sum.f k a0 l1 = some r) :
    Calls Try.prog 39 #[.int .i64 a0,.slice A1 l1.length c1] w fun e w'=>e = .returned (.int .i64 r) ∧ Below w.heap.size w w':=by
  have hu85:=Try.underlying85
  have HR1:=qn.mk hr1
  have HC1:=qn.mk hc1
  clear hr1 hc1
  have HB:=qn.mk (Below.refl w.heap.size w)
  have H : (spec_l04Sum.l0 k a0 l1 0 0) = some r:=h
  clear h
  have H':=qn.mk H
  clear H
  go_enter Try.func39,Try.ntmps39
  go_wp2
  go_loopg [5,6] k (fun kq v5 v6 w'=>∃ (x5_1 : Int) (x6_1 : Int),v5 = .int .i64 x5_1 ∧ v6 = .int .i64 x6_1 ∧ qn (spec_l04Sum.l0 kq a0 l1 x5_1 x6_1 = some r) ∧ qn (kq ≤ k) ∧ qn (Below w.heap.size w w'))
  case atStart=>exact ⟨(0),(0),(by first|rfl|(simp;done)|(simp [*];done)),(by first|rfl|(simp;done)|(simp [*];done)),H',⟨Nat.le_refl _⟩,⟨by repeat (first|(with_reducible first|exact HB.out|apply qf|apply qa|apply qd)|exact HB.out)⟩⟩
  case round =>
    clear H'
    try clear c1
    try clear p2
    obtain ⟨x5_1,x6_1,rfl,rfl,HA,HK1,HB⟩:=hrel
    cases gk with
    | zero=>exact absurd HA.out (by simp [spec_l04Sum.l0])
    | succ k1 =>
      have H:=HA.out
      clear HA
      simp only [spec_l04Sum.l0] at H
      by_cases c3 : x6_1 < (l1.length : Int)
      · rw [if_pos c3] at H
        have c3b0 : decide (x6_1 < (l1.length : Int)) = true:=decide_eq_true c3
        clear c3
        by_cases c4 : 0 ≤ x6_1
        · rw [if_pos c4] at H
          have c4b0 : decide (0 ≤ x6_1) = true:=decide_eq_true c4
          clear c4
          replace H:=Option.bind_eq_some_iff.mp H
          obtain ⟨t132,A50,H⟩:=H
          replace H : (spec_l04Sum.l0 k1 a0 l1 (wrap64 (x5_1 + t132)) (wrap64 (x6_1 + 1))) = some r:=H
          have A5:=qn.mk A50
          clear A50
          have H':=qn.mk H
          clear H
          have p131 : 0 ≤ (x6_1 : Int):=of_decide_eq_true (by first|(with_reducible assumption)|assumption)
          have q131 : x6_1 < (l1.length : Int):=of_decide_eq_true (by first|(with_reducible assumption)|assumption)
          obtain ⟨ad131,e131,hx131_0,hx131_1,hx131_2⟩:=at_T85 HR1.out x6_1 p131 q131
          cases e131
          replace hx131_0:=cb_ HB hx131_0
          replace hx131_1:=cb_ HB hx131_1
          replace hx131_2:=cb_ HB hx131_2
          replace p131:=eq_true p131
          replace q131:=eq_true q131
          go_wp2_with (first|((with_reducible refine gate_callee (f:=69) rfl ?_);refine goesL_ (some 19) rfl rfl Try.func69 (by kernel_rfl) rfl #[.int .i64 a0,.agg #[.string ((rd_T85 l1 x6_1).f0),.string ((rd_T85 l1 x6_1).f1),.int .i64 ((rd_T85 l1 x6_1).f2)]] rfl (by (try simp only [List.map_toArray,List.map_cons,List.map_nil]);first|done|rfl|(simp only [List.length_drop,List.length_take];rfl)) ?_;(with_reducible refine (spec_ItemSize.calls k1 a0 ((rd_T85 l1 x6_1).f0) ((rd_T85 l1 x6_1).f1) ((rd_T85 l1 x6_1).f2) t132 _ A5.out).mono ?_);rintro e w6 ⟨rfl,hb⟩;refine ⟨_,rfl,?_⟩;have n0_:=hs_ HB hb;clear HB;have HB:=n0_;clear n0_;(try clear hb);(try clear hb2);(try clear hk);(try clear hi)))
          go_roundg k1
          case measure=>have:=HK1.out;omega
          case rel=>exact ⟨(wrap64 (x5_1 + t132)),(wrap64 (x6_1 + 1)),(by first|rfl|(simp;done)|(simp [*];done)),(by first|rfl|(simp;done)|(simp [*];done)),H',⟨by have:=HK1.out;omega⟩,⟨by repeat (first|(with_reducible first|exact HB.out|apply qf|apply qa|apply qd)|exact HB.out)⟩⟩
        · rw [if_neg c4] at H
          exact absurd H (by simp)
      · rw [if_neg c3] at H
        have c3b0 : decide (x6_1 < (l1.length : Int)) = false:=decide_eq_false c3
        clear c3
        obtain rfl:=Option.some.inj H
        go_wp2
        go_ret
        exact ⟨by first|rfl|(simp [errW_none,errW_some] <;> rfl)|(simp [*,errW_none,errW_some] <;> rfl),by repeat (first|(with_reducible first|exact HB.out|apply qf|apply qa|apply qd)|exact HB.out)⟩

end Go.Proofs.Ytcdofljgeiohgaa.QFnExactPageText
