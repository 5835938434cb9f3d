/- Lean functions for the Go functions that the law FnExactReadPage reaches, and that each Go function comes to just its Lean function's answer; by a program of this session. -/
import Derived.Test.YtfmemcffbfahhaaZFnExactReadPagex0
import Derived.Test.YtfmemcffbfahhaaZFnExactReadPagex5
import Derived.Test.YtfmemcffbfahhaaZFnExactReadPagex9
import Derived.Test.YtfmemcffbfahhaaZFnExactReadPagex10
import Derived.Test.YtfmemcffbfahhaaZFnExactReadPagex11
namespace Go.Proofs.Ytfmemcffbfahhaa.QFnExactReadPage
open Go.RowKit Go.Proofs.YtfmemcffbfahhaaW.PrintWords Go.Proofs.YtfmemcffbfahhaaW.PrintLast Go.Proofs.YtfmemcffbfahhaaW.PrintMore
attribute [local go_sem] max2_int min2_int max_two min_two max_three min_three max_four min_four   -- for this text's walks alone
set_option linter.unusedVariables false
set_option linter.unusedSimpArgs false

/-! ### laws_FnExactReadPage: function 5 -/
mutual
def laws_FnExactReadPage.j0 : Nat → ByteArray → Bool → Bool → Int → List (S61) → Int → List (S61) → Option (Bool)
  | 0,_,_,_,_,_,_,_=>none
  | k + 1,x0,x4,x32,x310000,x310001,x316000,x316001=>if x32 = true then (some false) else ((laws_markPage.f k x316000 x316001 1).bind fun bt317=>((laws_heldPage.f k x316000 bt317.2 1).bind fun t319=>(if t319 < 0 then (some false) else (if t319 = bt317.1 then ((impl_ReadPage.f k x0).bind fun bt320=>((laws_eqPage.f k bt320.1 bt320.2.1 x310000 x310001).bind fun t326=>(if t326 = true then (laws_FnExactReadPage.j1 k bt317.1 (bt320.2.2 != x4) x316000 bt317.2) else (laws_FnExactReadPage.j1 k bt317.1 true x316000 bt317.2)))) else (some false)))))
def laws_FnExactReadPage.j1 : Nat → Int → Bool → Int → List (S61) → Option (Bool)
  | 0,_,_,_,_=>none
  | k + 1,x7,x57,x316000,x316001=>if x57 = true then (some false) else ((laws_heldPage.f k x316000 x316001 1).bind fun t327=>(if t327 < 0 then (some false) else (if t327 = x7 then (some true) else (some false))))
end
def laws_FnExactReadPage.f (k : Nat) (a0 : ByteArray) : Option (Bool):=if (a0.size : Int) > 1048576 then (some true) else ((spec_ReadPage.f k a0).bind fun bt304=>((impl_ReadPage.f k a0).bind fun bt310=>((laws_eqPage.f k bt310.1 bt310.2.1 bt304.1 bt304.2.1).bind fun t316=>(if t316 = true then (laws_FnExactReadPage.j0 k a0 bt304.2.2 (bt310.2.2 != bt304.2.2) bt304.1 bt304.2.1 bt310.1 bt310.2.1) else (laws_FnExactReadPage.j0 k a0 bt304.2.2 true bt304.1 bt304.2.1 bt310.1 bt310.2.1)))))
theorem laws_FnExactReadPage.mono_l : ∀ k,(∀ y0 y1 y2 y3 y4 y5 y6,LeO (laws_FnExactReadPage.j0 k y0 y1 y2 y3 y4 y5 y6) (laws_FnExactReadPage.j0 (k + 1) y0 y1 y2 y3 y4 y5 y6)) ∧ (∀ y0 y1 y2 y3,LeO (laws_FnExactReadPage.j1 k y0 y1 y2 y3) (laws_FnExactReadPage.j1 (k + 1) y0 y1 y2 y3))
  | 0=>⟨fun _ _ _ _ _ _ _ r h=>by simp [laws_FnExactReadPage.j0] at h,fun _ _ _ _ r h=>by simp [laws_FnExactReadPage.j1] at h⟩
  | k + 1=>by
    obtain ⟨ih0,ih1⟩:=laws_FnExactReadPage.mono_l k
    refine ⟨?_,?_⟩
    · intro y0 y1 y2 y3 y4 y5 y6
      unfold laws_FnExactReadPage.j0
      repeat' first
      | (with_reducible exact ih0 _ _ _ _ _ _ _)
      | (with_reducible exact ih1 _ _ _ _)
      | (with_reducible exact impl_ReadPage.mono _ _)
      | (with_reducible exact laws_eqPage.mono _ _ _ _ _)
      | (with_reducible exact laws_heldPage.mono _ _ _ _)
      | (with_reducible exact laws_markPage.mono _ _ _ _)
      | (with_reducible exact spec_ReadPage.mono _ _)
      | (with_reducible exact LeO.refl _)
      | (with_reducible exact LeO.none _)
      | (with_reducible refine LeO.ite ?_ ?_)
      | (with_reducible refine LeO.bind ?_ (fun _=>?_))
      | exact ih0 _ _ _ _ _ _ _
      | exact ih1 _ _ _ _
      | exact impl_ReadPage.mono _ _
      | exact laws_eqPage.mono _ _ _ _ _
      | exact laws_heldPage.mono _ _ _ _
      | exact laws_markPage.mono _ _ _ _
      | exact spec_ReadPage.mono _ _
      | exact LeO.none _
      | refine LeO.ite ?_ ?_
      | refine LeO.bind ?_ (fun _=>?_)
    · intro y0 y1 y2 y3
      unfold laws_FnExactReadPage.j1
      repeat' first
      | (with_reducible exact ih0 _ _ _ _ _ _ _)
      | (with_reducible exact ih1 _ _ _ _)
      | (with_reducible exact impl_ReadPage.mono _ _)
      | (with_reducible exact laws_eqPage.mono _ _ _ _ _)
      | (with_reducible exact laws_heldPage.mono _ _ _ _)
      | (with_reducible exact laws_markPage.mono _ _ _ _)
      | (with_reducible exact spec_ReadPage.mono _ _)
      | (with_reducible exact LeO.refl _)
      | (with_reducible exact LeO.none _)
      | (with_reducible refine LeO.ite ?_ ?_)
      | (with_reducible refine LeO.bind ?_ (fun _=>?_))
      | exact ih0 _ _ _ _ _ _ _
      | exact ih1 _ _ _ _
      | exact impl_ReadPage.mono _ _
      | exact laws_eqPage.mono _ _ _ _ _
      | exact laws_heldPage.mono _ _ _ _
      | exact laws_markPage.mono _ _ _ _
      | exact spec_ReadPage.mono _ _
      | exact LeO.none _
      | refine LeO.ite ?_ ?_
      | refine LeO.bind ?_ (fun _=>?_)
theorem laws_FnExactReadPage.mono : ∀ a0 k,LeO (laws_FnExactReadPage.f k a0) (laws_FnExactReadPage.f (k + 1) a0):=by
  intro a0 k
  obtain ⟨ih0,ih1⟩:=laws_FnExactReadPage.mono_l k
  unfold laws_FnExactReadPage.f
  repeat' first
      | (with_reducible exact ih0 _ _ _ _ _ _ _)
      | (with_reducible exact ih1 _ _ _ _)
      | (with_reducible exact impl_ReadPage.mono _ _)
      | (with_reducible exact laws_eqPage.mono _ _ _ _ _)
      | (with_reducible exact laws_heldPage.mono _ _ _ _)
      | (with_reducible exact laws_markPage.mono _ _ _ _)
      | (with_reducible exact spec_ReadPage.mono _ _)
      | (with_reducible exact LeO.refl _)
      | (with_reducible exact LeO.none _)
      | (with_reducible refine LeO.ite ?_ ?_)
      | (with_reducible refine LeO.bind ?_ (fun _=>?_))
      | exact ih0 _ _ _ _ _ _ _
      | exact ih1 _ _ _ _
      | exact impl_ReadPage.mono _ _
      | exact laws_eqPage.mono _ _ _ _ _
      | exact laws_heldPage.mono _ _ _ _
      | exact laws_markPage.mono _ _ _ _
      | exact spec_ReadPage.mono _ _
      | exact LeO.none _
      | refine LeO.ite ?_ ?_
      | refine LeO.bind ?_ (fun _=>?_)
set_option maxHeartbeats 8000000 in
set_option maxRecDepth 100000 in
theorem laws_FnExactReadPage.calls (k : Nat) (a0 : ByteArray) (r : Bool) (w : World) (h : laws_FnExactReadPage.f k a0 = some r) :
    Calls Try.prog 5 #[.string a0] w fun e w'=>e = .returned (.bool r) ∧ Below w.heap.size w w':=by
  have hu50:=Try.underlying50
  have HB:=qn.mk (Below.refl w.heap.size w)
  have H : (if (a0.size : Int) > 1048576 then (some true) else ((spec_ReadPage.f k a0).bind fun bt304=>((impl_ReadPage.f k a0).bind fun bt310=>((laws_eqPage.f k bt310.1 bt310.2.1 bt304.1 bt304.2.1).bind fun t316=>(if t316 = true then (laws_FnExactReadPage.j0 k a0 bt304.2.2 (bt310.2.2 != bt304.2.2) bt304.1 bt304.2.1 bt310.1 bt310.2.1) else (laws_FnExactReadPage.j0 k a0 bt304.2.2 true bt304.1 bt304.2.1 bt310.1 bt310.2.1)))))) = some r:=h
  clear h
  by_cases c2 : (a0.size : Int) > 1048576
  · rw [if_pos c2] at H
    have c2b0 : decide (1048576 < (a0.size : Int)) = true:=decide_eq_true c2
    have c2b1 : decide (1048576 < a0.size) = true:=decide_eq_true (by omega)
    clear c2
    obtain rfl:=Option.some.inj H
    go_enter Try.func5,Try.ntmps5
    go_wp2
    go_ret
    exact ⟨by first|rfl|(simp [errW_none,errW_some] <;> rfl)|(simp [*,errW_none,errW_some] <;> rfl),by repeat (first|(with_reducible first|exact HB.out|apply qf|apply qa|apply qd)|exact HB.out)⟩
  · rw [if_neg c2] at H
    have c2b0 : decide (1048576 < (a0.size : Int)) = false:=decide_eq_false c2
    have c2b1 : decide (1048576 < a0.size) = false:=decide_eq_false (by omega)
    clear c2
    replace H:=Option.bind_eq_some_iff.mp H
    obtain ⟨⟨t304,t305,t308⟩,A30,H⟩:=H
    replace H : ((impl_ReadPage.f k a0).bind fun bt310=>((laws_eqPage.f k bt310.1 bt310.2.1 t304 t305).bind fun t316=>(if t316 = true then (laws_FnExactReadPage.j0 k a0 t308 (bt310.2.2 != t308) t304 t305 bt310.1 bt310.2.1) else (laws_FnExactReadPage.j0 k a0 t308 true t304 t305 bt310.1 bt310.2.1)))) = some r:=H
    have A3:=qn.mk A30
    clear A30
    replace H:=Option.bind_eq_some_iff.mp H
    obtain ⟨⟨t310,t311,t314⟩,A40,H⟩:=H
    replace H : ((laws_eqPage.f k t310 t311 t304 t305).bind fun t316=>(if t316 = true then (laws_FnExactReadPage.j0 k a0 t308 (t314 != t308) t304 t305 t310 t311) else (laws_FnExactReadPage.j0 k a0 t308 true t304 t305 t310 t311))) = some r:=H
    have A4:=qn.mk A40
    clear A40
    have HC5:=qn.mk H
    clear H
    go_enter Try.func5,Try.ntmps5
    go_upto_region 5 with (first|((with_reducible refine gate_callee (f:=25) rfl ?_);refine goesL_ (some 16) rfl rfl Try.func25 (by kernel_rfl) rfl #[.string a0] rfl (by (try simp only [List.map_toArray,List.map_cons,List.map_nil]);first|done|rfl|(simp only [List.length_drop,List.length_take];rfl)) ?_;(with_reducible refine (spec_ReadPage.calls k a0 t304 t305 t308 _ A3.out).mono ?_);rintro e w6 ⟨v306,rfl,ho0,hb⟩;refine ⟨_,rfl,?_⟩;have n0_:=qn.mk (Kd.R_lower ho0 (qj (by repeat (first|(with_reducible first|exact HB.out|apply qf|apply qa|apply qd)|exact HB.out))));have n1_:=hs_ HB hb;clear HB;have HO307:=n0_;have HB:=n1_;clear n0_ n1_;(try clear hb);(try clear hb2);(try clear hk);(try clear hi);(try clear ho0))|((with_reducible refine gate_dst (N:=3) rfl ?_);refine box_event ?hg (N:=3) ?hd (cs:=#[.int .i64 0,.slice none 0 0]) (t:=50) ?hr ?_;(case hd=>rfl);(case hg=>rfl);(case hr=>first|(go_simp;done)|(go_simp;rfl));intro gb309 hg w7 hbox hb;have n0_:=rb_ HO307 hb;have n1_:=hs_ HB hb;have n2_:=qn.mk (hbox);have n3_:=qn.mk ((by rw [hg];exact (qj (by repeat (first|(with_reducible first|exact HB.out|apply qf|apply qa|apply qd)|exact HB.out))) : w.heap.size ≤ gb309));have n4_:=qn.mk ((by rw [hg];exact (qj (by repeat (first|(with_reducible first|exact HB.out|apply qf|apply qa|apply qd)|exact HB.out))) : w.heap.size ≤ gb309));clear HO307;clear HB;have HO307:=n0_;have HB:=n1_;have BK309:=n2_;have GW309:=n3_;have GE309:=n4_;clear n0_ n1_ n2_ n3_ n4_;clear hb hbox hg;have hcz8_0 : w7.cell? ⟨gb309,0,none⟩ = some (.int .i64 0):=(qh BK309.out 0).trans rfl;have hcz8_1 : w7.cell? ⟨gb309,1,none⟩ = some (.slice none 0 0):=(qh BK309.out 1).trans rfl;have hfz8_0:=qi BK309.out 0;have hfz8_1:=qi BK309.out 1;obtain ⟨Ao9,co9,eo9⟩:=Kd.R_slice HO307.out;subst eo9)|((with_reducible refine gate_callee (f:=26) rfl ?_);refine goesL_ (some 21) rfl rfl Try.func26 (by kernel_rfl) rfl #[.string a0] rfl (by (try simp only [List.map_toArray,List.map_cons,List.map_nil]);first|done|rfl|(simp only [List.length_drop,List.length_take];rfl)) ?_;(with_reducible refine (impl_ReadPage.calls k a0 t310 t311 t314 _ A4.out).mono ?_);rintro e w10 ⟨v312,rfl,ho0,hb⟩;refine ⟨_,rfl,?_⟩;have n0_:=qn.mk (Kd.R_elder' (by (with_reducible repeat (first|apply Kd.R_alloc|apply Kd.R_drewN|apply Kd.R_drew));exact (Kd.R_mono (Kd.R_far (p:=⟨gb309,1,none⟩) (Kd.R_far (p:=⟨gb309,0,none⟩) (Kd.R_types HO307.out BK309.out (by decide)) (fun _ hk=>hk.2) (.int .i64 t304)) (fun _ hk=>hk.2) (.slice Ao9 t305.length co9)) (fun _ h_=>h_.1))) (Kd.R_base ho0) hb);have n1_:=qn.mk (Kd.R_lower (Kd.R_new' ho0 (Kd.R_lt (by (with_reducible repeat (first|apply Kd.R_alloc|apply Kd.R_drewN|apply Kd.R_drew));exact (Kd.R_mono (Kd.R_far (p:=⟨gb309,1,none⟩) (Kd.R_far (p:=⟨gb309,0,none⟩) (Kd.R_types HO307.out BK309.out (by decide)) (fun _ hk=>hk.2) (.int .i64 t304)) (fun _ hk=>hk.2) (.slice Ao9 t305.length co9)) (fun _ h_=>h_.1))))) (qj (by repeat (first|(with_reducible first|exact HB.out|apply qf|apply qa|apply qd|refine qg ?_ GE309.out)|exact HB.out))));have n2_:=qn.mk (ql (g:=gb309) (o:=.cells #[.int .i64 t304,.slice Ao9 t305.length co9] 50 (0,0)) (by (with_reducible repeat (first|refine qb ?_ _|refine qe ?_|refine qc ?_ _));refine blk_put (cs:=#[.int .i64 t304,.slice none 0 0]) ?_ 1 _ rfl;(with_reducible repeat (first|refine qb ?_ _|refine qe ?_|refine qc ?_ _));refine blk_put (cs:=#[.int .i64 0,.slice none 0 0]) ?_ 0 _ rfl;(with_reducible repeat (first|refine qb ?_ _|refine qe ?_|refine qc ?_ _));exact BK309.out) hb);have n3_:=hs_ HB hb;clear HO307;clear BK309;clear HB;have HO307:=n0_;have HO313:=n1_;have BK309:=n2_;have HB:=n3_;clear n0_ n1_ n2_ n3_;(try clear hb);(try clear hb2);(try clear hk);(try clear hi);(try clear ho0))|((with_reducible refine gate_dst (N:=5) rfl ?_);refine box_event ?hg (N:=5) ?hd (cs:=#[.int .i64 0,.slice none 0 0]) (t:=50) ?hr ?_;(case hd=>rfl);(case hg=>rfl);(case hr=>first|(go_simp;done)|(go_simp;rfl));intro gb315 hg w11 hbox hb;have n0_:=rb_ HO307 hb;have n1_:=rb_ HO313 hb;have n2_:=bb_ BK309 hb;have n3_:=hs_ HB hb;have n4_:=qn.mk (hbox);have n5_:=qn.mk ((by rw [hg];exact (qj (by repeat (first|(with_reducible first|exact HB.out|apply qf|apply qa|apply qd|refine qg ?_ GE309.out)|exact HB.out))) : w.heap.size ≤ gb315));have n6_:=qn.mk ((by rw [hg];exact (qj (by repeat (first|(with_reducible first|exact HB.out|apply qf|apply qa|apply qd|refine qg ?_ GE309.out)|exact HB.out))) : w.heap.size ≤ gb315));have n7_:=qn.mk ((by rw [hg];exact nl_ BK309 : gb309 ≠ gb315));have n8_:=qn.mk ((by rw [hg];exact ng_ BK309 : gb315 ≠ gb309));clear HO307;clear HO313;clear BK309;clear HB;have HO307:=n0_;have HO313:=n1_;have BK309:=n2_;have HB:=n3_;have BK315:=n4_;have GW315:=n5_;have GE315:=n6_;have NB309_315:=n7_;have NB315_309:=n8_;clear n0_ n1_ n2_ n3_ n4_ n5_ n6_ n7_ n8_;clear hb hbox hg;have hnb12:=NB315_309.out;have hnc12:=NB309_315.out;have hcz13_0 : w11.cell? ⟨gb315,0,none⟩ = some (.int .i64 0):=(qh BK315.out 0).trans rfl;have hcz13_1 : w11.cell? ⟨gb315,1,none⟩ = some (.slice none 0 0):=(qh BK315.out 1).trans rfl;have hfz13_0:=qi BK315.out 0;have hfz13_1:=qi BK315.out 1;obtain ⟨Ao14,co14,eo14⟩:=Kd.R_slice HO313.out;subst eo14))
    (try simp only [Act.put,List.setIfInBounds_toArray,List.set_cons_zero,List.set_cons_succ])
    go_cut [32] (fun v32 wc=>∃ (kq : Nat) (x32_4 : Bool),v32 = .bool x32_4 ∧ qn (laws_FnExactReadPage.j0 kq a0 t308 x32_4 t304 t305 t310 t311 = some r) ∧ qn (kq ≤ k) ∧ qn (Kd.R k61 61 wc w.heap.size (fun k_=>some k_ ≠ ((.slice Ao14 t311.length co14) : Value).ownBlock) (.slice Ao9 t305.length co9) t305) ∧ qn (Kd.R k61 61 wc w.heap.size (fun k_=>some k_ ≠ ((.slice Ao9 t305.length co9) : Value).ownBlock) (.slice Ao14 t311.length co14) t311) ∧ qn (wc.heap[gb309]? = some (.cells #[.int .i64 t304,(.slice Ao9 t305.length co9)] 50 (0,0))) ∧ qn (wc.heap[gb315]? = some (.cells #[.int .i64 t310,(.slice Ao14 t311.length co14)] 50 (0,0))) ∧ qn (Below w.heap.size w wc))
    case first =>
      have H:=HC5.out
      clear HC5
      replace H:=Option.bind_eq_some_iff.mp H
      obtain ⟨t316,A150,H⟩:=H
      replace H : (if t316 = true then (laws_FnExactReadPage.j0 k a0 t308 (t314 != t308) t304 t305 t310 t311) else (laws_FnExactReadPage.j0 k a0 t308 true t304 t305 t310 t311)) = some r:=H
      have A15:=qn.mk A150
      clear A150
      by_cases c16 : t316 = true
      · subst c16
        have H1 : (laws_FnExactReadPage.j0 k a0 t308 (t314 != t308) t304 t305 t310 t311) = some r:=by rw [if_pos rfl] at H;exact H
        clear H
        have H:=H1
        clear H1
        have H':=qn.mk H
        clear H
        have hnb17:=NB315_309.out
        have hnc17:=NB309_315.out
        have hcz18_0 : w11.cell? ⟨gb315,0,none⟩ = some (.int .i64 0):=(qh BK315.out 0).trans rfl
        have hcz18_1 : w11.cell? ⟨gb315,1,none⟩ = some (.slice none 0 0):=(qh BK315.out 1).trans rfl
        have hfz18_0:=qi BK315.out 0
        have hfz18_1:=qi BK315.out 1
        have hcz19_0 : w11.cell? ⟨gb309,0,none⟩ = some (.int .i64 t304):=(qh BK309.out 0).trans rfl
        have hcz19_1 : w11.cell? ⟨gb309,1,none⟩ = some (.slice Ao9 t305.length co9):=(qh BK309.out 1).trans rfl
        have hfz19_0:=qi BK309.out 0
        have hfz19_1:=qi BK309.out 1
        go_wp2_with (first|((with_reducible refine gate_callee (f:=27) rfl ?_);refine goesL_ (some 26) rfl rfl Try.func27 (by kernel_rfl) rfl #[.agg #[.int .i64 t310,.slice Ao14 t311.length co14],.agg #[.int .i64 t304,.slice Ao9 t305.length co9]] rfl (by (try simp only [List.map_toArray,List.map_cons,List.map_nil]);first|done|rfl|(simp only [List.length_drop,List.length_take];rfl)) ?_;(with_reducible refine (laws_eqPage.calls k t310 _ _ t311 t304 _ _ t305 true _ ?side1 ?side2 ?side3 ?side4 A15.out).mono ?_);(case side1=>refine (Kd.R_reads' (e:=61) (base:=w.heap.size) (ok:=fun k_=>(True ∧ some k_ ≠ (.slice Ao9 t305.length co9 : Value).ownBlock)) (n:=t311.length) (c:=co14) ?_).2.2;exact (by (with_reducible repeat (first|apply Kd.R_alloc|apply Kd.R_drewN|apply Kd.R_drew));exact (Kd.R_mono (Kd.R_far (p:=⟨gb315,1,none⟩) (Kd.R_far (p:=⟨gb315,0,none⟩) (Kd.R_types HO313.out BK315.out (by decide)) (fun _ hk=>hk.2) (.int .i64 t310)) (fun _ hk=>hk.2) (.slice Ao14 t311.length co14)) (fun _ h_=>h_.1))));(case side2=>exact (Kd.R_reads' HO313.out).2.1);(case side3=>refine (Kd.R_reads' (e:=61) (base:=w.heap.size) (ok:=fun k_=>(True ∧ some k_ ≠ (.slice Ao14 t311.length co14 : Value).ownBlock)) (n:=t305.length) (c:=co9) ?_).2.2;exact (by (with_reducible repeat (first|apply Kd.R_alloc|apply Kd.R_drewN|apply Kd.R_drew));exact (Kd.R_mono (Kd.R_far (p:=⟨gb315,1,none⟩) (Kd.R_far (p:=⟨gb315,0,none⟩) (Kd.R_types HO307.out BK315.out (by decide)) (fun _ hk=>hk.2) (.int .i64 t310)) (fun _ hk=>hk.2) (.slice Ao14 t311.length co14)) (fun _ h_=>h_.1))));(case side4=>exact (Kd.R_reads' HO307.out).2.1);rintro e w20 ⟨rfl,hb⟩;refine ⟨_,rfl,?_⟩;have n0_:=qn.mk (Kd.R_below (by (with_reducible repeat (first|apply Kd.R_alloc|apply Kd.R_drewN|apply Kd.R_drew));exact (Kd.R_mono (Kd.R_far (p:=⟨gb315,1,none⟩) (Kd.R_far (p:=⟨gb315,0,none⟩) (Kd.R_types HO307.out BK315.out (by decide)) (fun _ hk=>hk.2) (.int .i64 t310)) (fun _ hk=>hk.2) (.slice Ao14 t311.length co14)) (fun _ h_=>h_.1))) hb);have n1_:=qn.mk (Kd.R_below (by (with_reducible repeat (first|apply Kd.R_alloc|apply Kd.R_drewN|apply Kd.R_drew));exact (Kd.R_mono (Kd.R_far (p:=⟨gb315,1,none⟩) (Kd.R_far (p:=⟨gb315,0,none⟩) (Kd.R_types HO313.out BK315.out (by decide)) (fun _ hk=>hk.2) (.int .i64 t310)) (fun _ hk=>hk.2) (.slice Ao14 t311.length co14)) (fun _ h_=>h_.1))) hb);have n2_:=qn.mk (ql (g:=gb309) (o:=.cells #[.int .i64 t304,.slice Ao9 t305.length co9] 50 (0,0)) (by (with_reducible repeat (first|refine qb ?_ _|refine qe ?_|refine qc ?_ _));refine blk_far ?_ NB309_315.out _;(with_reducible repeat (first|refine qb ?_ _|refine qe ?_|refine qc ?_ _));refine blk_far ?_ NB309_315.out _;(with_reducible repeat (first|refine qb ?_ _|refine qe ?_|refine qc ?_ _));exact BK309.out) hb);have n3_:=qn.mk (ql (g:=gb315) (o:=.cells #[.int .i64 t310,.slice Ao14 t311.length co14] 50 (0,0)) (by (with_reducible repeat (first|refine qb ?_ _|refine qe ?_|refine qc ?_ _));refine blk_put (cs:=#[.int .i64 t310,.slice none 0 0]) ?_ 1 _ rfl;(with_reducible repeat (first|refine qb ?_ _|refine qe ?_|refine qc ?_ _));refine blk_put (cs:=#[.int .i64 0,.slice none 0 0]) ?_ 0 _ rfl;(with_reducible repeat (first|refine qb ?_ _|refine qe ?_|refine qc ?_ _));exact BK315.out) hb);have n4_:=hs_ HB hb;clear HO307;clear HO313;clear BK309;clear BK315;clear HB;have HO307:=n0_;have HO313:=n1_;have BK309:=n2_;have BK315:=n3_;have HB:=n4_;clear n0_ n1_ n2_ n3_ n4_;(try clear hb);(try clear hb2);(try clear hk);(try clear hi)))
        go_meet
        case rel=>exact ⟨_,((t314 != t308)),(by first|rfl|(simp;done)|(simp [*];done)),H',⟨by first|omega|exact Nat.le_refl _⟩,⟨by (with_reducible repeat (first|apply Kd.R_alloc|apply Kd.R_drewN|apply Kd.R_drew));exact Kd.R_mono HO307.out (fun _ hk=>hk.2)⟩,⟨by (with_reducible repeat (first|apply Kd.R_alloc|apply Kd.R_drewN|apply Kd.R_drew));exact Kd.R_mono HO313.out (fun _ hk=>hk.2)⟩,⟨by (with_reducible repeat (first|refine qb ?_ _|refine qe ?_|refine qc ?_ _));exact BK309.out⟩,⟨by (with_reducible repeat (first|refine qb ?_ _|refine qe ?_|refine qc ?_ _));exact BK315.out⟩,⟨by repeat (first|(with_reducible first|exact HB.out|apply qf|apply qa|apply qd|refine qg ?_ GE309.out|refine qg ?_ GE315.out)|exact HB.out)⟩⟩
      · replace c16:=Bool.eq_false_iff.mpr c16
        subst c16
        have H1 : (laws_FnExactReadPage.j0 k a0 t308 true t304 t305 t310 t311) = some r:=by rw [if_neg (show ¬ (false = true) by decide)] at H;exact H
        clear H
        have H:=H1
        clear H1
        have H':=qn.mk H
        clear H
        have hnb21:=NB315_309.out
        have hnc21:=NB309_315.out
        have hcz22_0 : w11.cell? ⟨gb315,0,none⟩ = some (.int .i64 0):=(qh BK315.out 0).trans rfl
        have hcz22_1 : w11.cell? ⟨gb315,1,none⟩ = some (.slice none 0 0):=(qh BK315.out 1).trans rfl
        have hfz22_0:=qi BK315.out 0
        have hfz22_1:=qi BK315.out 1
        have hcz23_0 : w11.cell? ⟨gb309,0,none⟩ = some (.int .i64 t304):=(qh BK309.out 0).trans rfl
        have hcz23_1 : w11.cell? ⟨gb309,1,none⟩ = some (.slice Ao9 t305.length co9):=(qh BK309.out 1).trans rfl
        have hfz23_0:=qi BK309.out 0
        have hfz23_1:=qi BK309.out 1
        go_wp2_with (first|((with_reducible refine gate_callee (f:=27) rfl ?_);refine goesL_ (some 26) rfl rfl Try.func27 (by kernel_rfl) rfl #[.agg #[.int .i64 t310,.slice Ao14 t311.length co14],.agg #[.int .i64 t304,.slice Ao9 t305.length co9]] rfl (by (try simp only [List.map_toArray,List.map_cons,List.map_nil]);first|done|rfl|(simp only [List.length_drop,List.length_take];rfl)) ?_;(with_reducible refine (laws_eqPage.calls k t310 _ _ t311 t304 _ _ t305 false _ ?side1 ?side2 ?side3 ?side4 A15.out).mono ?_);(case side1=>refine (Kd.R_reads' (e:=61) (base:=w.heap.size) (ok:=fun k_=>(True ∧ some k_ ≠ (.slice Ao9 t305.length co9 : Value).ownBlock)) (n:=t311.length) (c:=co14) ?_).2.2;exact (by (with_reducible repeat (first|apply Kd.R_alloc|apply Kd.R_drewN|apply Kd.R_drew));exact (Kd.R_mono (Kd.R_far (p:=⟨gb315,1,none⟩) (Kd.R_far (p:=⟨gb315,0,none⟩) (Kd.R_types HO313.out BK315.out (by decide)) (fun _ hk=>hk.2) (.int .i64 t310)) (fun _ hk=>hk.2) (.slice Ao14 t311.length co14)) (fun _ h_=>h_.1))));(case side2=>exact (Kd.R_reads' HO313.out).2.1);(case side3=>refine (Kd.R_reads' (e:=61) (base:=w.heap.size) (ok:=fun k_=>(True ∧ some k_ ≠ (.slice Ao14 t311.length co14 : Value).ownBlock)) (n:=t305.length) (c:=co9) ?_).2.2;exact (by (with_reducible repeat (first|apply Kd.R_alloc|apply Kd.R_drewN|apply Kd.R_drew));exact (Kd.R_mono (Kd.R_far (p:=⟨gb315,1,none⟩) (Kd.R_far (p:=⟨gb315,0,none⟩) (Kd.R_types HO307.out BK315.out (by decide)) (fun _ hk=>hk.2) (.int .i64 t310)) (fun _ hk=>hk.2) (.slice Ao14 t311.length co14)) (fun _ h_=>h_.1))));(case side4=>exact (Kd.R_reads' HO307.out).2.1);rintro e w24 ⟨rfl,hb⟩;refine ⟨_,rfl,?_⟩;have n0_:=qn.mk (Kd.R_below (by (with_reducible repeat (first|apply Kd.R_alloc|apply Kd.R_drewN|apply Kd.R_drew));exact (Kd.R_mono (Kd.R_far (p:=⟨gb315,1,none⟩) (Kd.R_far (p:=⟨gb315,0,none⟩) (Kd.R_types HO307.out BK315.out (by decide)) (fun _ hk=>hk.2) (.int .i64 t310)) (fun _ hk=>hk.2) (.slice Ao14 t311.length co14)) (fun _ h_=>h_.1))) hb);have n1_:=qn.mk (Kd.R_below (by (with_reducible repeat (first|apply Kd.R_alloc|apply Kd.R_drewN|apply Kd.R_drew));exact (Kd.R_mono (Kd.R_far (p:=⟨gb315,1,none⟩) (Kd.R_far (p:=⟨gb315,0,none⟩) (Kd.R_types HO313.out BK315.out (by decide)) (fun _ hk=>hk.2) (.int .i64 t310)) (fun _ hk=>hk.2) (.slice Ao14 t311.length co14)) (fun _ h_=>h_.1))) hb);have n2_:=qn.mk (ql (g:=gb309) (o:=.cells #[.int .i64 t304,.slice Ao9 t305.length co9] 50 (0,0)) (by (with_reducible repeat (first|refine qb ?_ _|refine qe ?_|refine qc ?_ _));refine blk_far ?_ NB309_315.out _;(with_reducible repeat (first|refine qb ?_ _|refine qe ?_|refine qc ?_ _));refine blk_far ?_ NB309_315.out _;(with_reducible repeat (first|refine qb ?_ _|refine qe ?_|refine qc ?_ _));exact BK309.out) hb);have n3_:=qn.mk (ql (g:=gb315) (o:=.cells #[.int .i64 t310,.slice Ao14 t311.length co14] 50 (0,0)) (by (with_reducible repeat (first|refine qb ?_ _|refine qe ?_|refine qc ?_ _));refine blk_put (cs:=#[.int .i64 t310,.slice none 0 0]) ?_ 1 _ rfl;(with_reducible repeat (first|refine qb ?_ _|refine qe ?_|refine qc ?_ _));refine blk_put (cs:=#[.int .i64 0,.slice none 0 0]) ?_ 0 _ rfl;(with_reducible repeat (first|refine qb ?_ _|refine qe ?_|refine qc ?_ _));exact BK315.out) hb);have n4_:=hs_ HB hb;clear HO307;clear HO313;clear BK309;clear BK315;clear HB;have HO307:=n0_;have HO313:=n1_;have BK309:=n2_;have BK315:=n3_;have HB:=n4_;clear n0_ n1_ n2_ n3_ n4_;(try clear hb);(try clear hb2);(try clear hk);(try clear hi)))
        go_meet
        case rel=>exact ⟨_,(true),(by first|rfl|(simp;done)|(simp [*];done)),H',⟨by first|omega|exact Nat.le_refl _⟩,⟨by (with_reducible repeat (first|apply Kd.R_alloc|apply Kd.R_drewN|apply Kd.R_drew));exact Kd.R_mono HO307.out (fun _ hk=>hk.2)⟩,⟨by (with_reducible repeat (first|apply Kd.R_alloc|apply Kd.R_drewN|apply Kd.R_drew));exact Kd.R_mono HO313.out (fun _ hk=>hk.2)⟩,⟨by (with_reducible repeat (first|refine qb ?_ _|refine qe ?_|refine qc ?_ _));exact BK309.out⟩,⟨by (with_reducible repeat (first|refine qb ?_ _|refine qe ?_|refine qc ?_ _));exact BK315.out⟩,⟨by repeat (first|(with_reducible first|exact HB.out|apply qf|apply qa|apply qd|refine qg ?_ GE309.out|refine qg ?_ GE315.out)|exact HB.out)⟩⟩
    case rest =>
      clear HC5
      try clear c1
      try clear c2
      try clear c2b0
      try clear c2b1
      try clear p2
      try clear c5
      try clear c12
      try clear c16
      try clear c17
      try clear c21
      try clear hcz13_0
      try clear hcz13_1
      try clear hcz18_0
      try clear hcz18_1
      try clear hcz19_0
      try clear hcz19_1
      try clear hcz22_0
      try clear hcz22_1
      try clear hcz23_0
      try clear hcz23_1
      try clear hcz8_0
      try clear hcz8_1
      try clear hfz13_0
      try clear hfz13_1
      try clear hfz18_0
      try clear hfz18_1
      try clear hfz19_0
      try clear hfz19_1
      try clear hfz22_0
      try clear hfz22_1
      try clear hfz23_0
      try clear hfz23_1
      try clear hfz8_0
      try clear hfz8_1
      obtain ⟨kq,x32_4,rfl,HA,HJ4,HO_310001,HO_316001,BK309,BK315,HB⟩:=hcut
      cases kq with
      | zero=>exact absurd HA.out (by simp [laws_FnExactReadPage.j0])
      | succ kj4 =>
        have H:=HA.out
        clear HA
        simp only [laws_FnExactReadPage.j0] at H
        by_cases c25 : x32_4 = true
        · subst c25
          have H1 : (some false) = some r:=by rw [if_pos rfl] at H;exact H
          clear H
          have H:=H1
          clear H1
          obtain rfl:=Option.some.inj H
          go_wp2
          go_ret
          exact ⟨by first|rfl|(simp [errW_none,errW_some] <;> rfl)|(simp [*,errW_none,errW_some] <;> rfl),by repeat (first|(with_reducible first|exact HB.out|apply qf|apply qa|apply qd|refine qg ?_ GE309.out|refine qg ?_ GE315.out)|exact HB.out)⟩
        · replace c25:=Bool.eq_false_iff.mpr c25
          subst c25
          have H1 : ((laws_markPage.f kj4 t310 t311 1).bind fun bt317=>((laws_heldPage.f kj4 t310 bt317.2 1).bind fun t319=>(if t319 < 0 then (some false) else (if t319 = bt317.1 then ((impl_ReadPage.f kj4 a0).bind fun bt320=>((laws_eqPage.f kj4 bt320.1 bt320.2.1 t304 t305).bind fun t326=>(if t326 = true then (laws_FnExactReadPage.j1 kj4 bt317.1 (bt320.2.2 != t308) t310 bt317.2) else (laws_FnExactReadPage.j1 kj4 bt317.1 true t310 bt317.2)))) else (some false))))) = some r:=by rw [if_neg (show ¬ (false = true) by decide)] at H;exact H
          clear H
          have H:=H1
          clear H1
          replace H:=Option.bind_eq_some_iff.mp H
          obtain ⟨⟨t317,t318⟩,A260,H⟩:=H
          replace H : ((laws_heldPage.f kj4 t310 t318 1).bind fun t319=>(if t319 < 0 then (some false) else (if t319 = t317 then ((impl_ReadPage.f kj4 a0).bind fun bt320=>((laws_eqPage.f kj4 bt320.1 bt320.2.1 t304 t305).bind fun t326=>(if t326 = true then (laws_FnExactReadPage.j1 kj4 t317 (bt320.2.2 != t308) t310 t318) else (laws_FnExactReadPage.j1 kj4 t317 true t310 t318)))) else (some false)))) = some r:=H
          have A26:=qn.mk A260
          clear A260
          replace H:=Option.bind_eq_some_iff.mp H
          obtain ⟨t319,A270,H⟩:=H
          replace H : (if t319 < 0 then (some false) else (if t319 = t317 then ((impl_ReadPage.f kj4 a0).bind fun bt320=>((laws_eqPage.f kj4 bt320.1 bt320.2.1 t304 t305).bind fun t326=>(if t326 = true then (laws_FnExactReadPage.j1 kj4 t317 (bt320.2.2 != t308) t310 t318) else (laws_FnExactReadPage.j1 kj4 t317 true t310 t318)))) else (some false))) = some r:=H
          have A27:=qn.mk A270
          clear A270
          by_cases c28 : t319 < 0
          · rw [if_pos c28] at H
            have c28b0 : decide (t319 < 0) = true:=decide_eq_true c28
            clear c28
            obtain rfl:=Option.some.inj H
            have hnb29:=NB315_309.out
            have hnc29:=NB309_315.out
            have hcz30_0 : wc.cell? ⟨gb315,0,none⟩ = some (.int .i64 t310):=(qh BK315.out 0).trans rfl
            have hcz30_1 : wc.cell? ⟨gb315,1,none⟩ = some (.slice Ao14 t311.length co14):=(qh BK315.out 1).trans rfl
            have hfz30_0:=qi BK315.out 0
            have hfz30_1:=qi BK315.out 1
            go_wp2_with (first|((with_reducible refine gate_callee (f:=28) rfl ?_);refine goesL_ (some 35) rfl rfl Try.func28 (by kernel_rfl) rfl #[.agg #[.int .i64 t310,.slice Ao14 t311.length co14],.int .i64 1] rfl (by (try simp only [List.map_toArray,List.map_cons,List.map_nil]);first|done|rfl|(simp only [List.length_drop,List.length_take];rfl)) ?_;(with_reducible refine (laws_markPage.calls kj4 t310 (fun k_=>some k_ = (.slice Ao14 t311.length co14 : Value).ownBlock) (.slice Ao14 t311.length co14) t311 1 t317 t318 w _ ?side1 ?side2 A26.out).mono ?_);(case side1=>repeat (first|(with_reducible first|exact HB.out|apply qf|apply qa|apply qd|refine qg ?_ GE309.out|refine qg ?_ GE315.out)|exact HB.out));(case side2=>exact Kd.R_tight rfl HO_316001.out);rintro e w31 ⟨rfl,hy0,hb,hkp⟩;refine ⟨_,rfl,?_⟩;have n0_:=qn.mk (Kd.R_mono (ok':=fun k_=>some k_ ≠ (.slice Ao14 t311.length co14 : Value).ownBlock) (Kd.R_keptB (HO_310001.out) hkp (fun k_ hk_ hs_=>(hk_) hs_)) (fun k_ hk_=>hk_.1));have n1_:=qn.mk (Kd.R_reok rfl hy0 (fun k_ e_=>HO_316001.out.1 k_ e_));have n2_:=qn.mk (blk_kept (by (with_reducible repeat (first|refine qb ?_ _|refine qe ?_|refine qc ?_ _));exact BK309.out) hkp (fun hs_=>(fun e_=>(Kd.R_ne HO_316001.out BK309.out (by decide)) e_) hs_));have n3_:=qn.mk (blk_kept (by (with_reducible repeat (first|refine qb ?_ _|refine qe ?_|refine qc ?_ _));exact BK315.out) hkp (fun hs_=>(fun e_=>(Kd.R_ne HO_316001.out BK315.out (by decide)) e_) hs_));have n4_:=qn.mk (hb);clear HO_310001;clear HO_316001;clear BK309;clear BK315;clear HB;have HO_310001:=n0_;have HO_316001:=n1_;have BK309:=n2_;have BK315:=n3_;have HB:=n4_;clear n0_ n1_ n2_ n3_ n4_;(try clear hb);(try clear hkp);(try clear hy0);have hcz32_0 : w31.cell? ⟨gb315,0,none⟩ = some (.int .i64 t310):=(qh BK315.out 0).trans rfl;have hcz32_1 : w31.cell? ⟨gb315,1,none⟩ = some (.slice Ao14 t311.length co14):=(qh BK315.out 1).trans rfl;have hfz32_0:=qi BK315.out 0;have hfz32_1:=qi BK315.out 1)|((with_reducible refine gate_callee (f:=29) rfl ?_);refine goesL_ (some 38) rfl rfl Try.func29 (by kernel_rfl) rfl #[.agg #[.int .i64 t310,.slice Ao14 t318.length co14],.int .i64 1] rfl (by (try simp only [List.map_toArray,List.map_cons,List.map_nil]);first|done|(rw [show t318.length = t311.length from (Kd.R_reads' HO_316001.out).1.symm] <;> rfl)|rfl|(simp only [List.length_drop,List.length_take];rfl)) ?_;(with_reducible refine (laws_heldPage.calls kj4 t310 _ _ t318 1 t319 _ ?side1 ?side2 A27.out).mono ?_);(case side1=>repeat (first|exact (Kd.R_reads' HO_316001.out).2.2|(with_reducible refine Kd.C_alloc ?_ _)|(with_reducible refine Kd.C_drewN ?_ _)|(with_reducible refine Kd.C_drew ?_)));(case side2=>rw [show t318.length = t311.length from (Kd.R_reads' HO_316001.out).1.symm];exact (Kd.R_reads' HO_316001.out).2.1);rintro e w33 ⟨rfl,hb⟩;refine ⟨_,rfl,?_⟩;have n0_:=rb_ HO_310001 hb;have n1_:=rb_ HO_316001 hb;have n2_:=bb_ BK309 hb;have n3_:=bb_ BK315 hb;have n4_:=hs_ HB hb;clear HO_310001;clear HO_316001;clear BK309;clear BK315;clear HB;have HO_310001:=n0_;have HO_316001:=n1_;have BK309:=n2_;have BK315:=n3_;have HB:=n4_;clear n0_ n1_ n2_ n3_ n4_;(try clear hb);(try clear hb2);(try clear hk);(try clear hi)))
            go_ret
            exact ⟨by first|rfl|(simp [errW_none,errW_some] <;> rfl)|(simp [*,errW_none,errW_some] <;> rfl),by repeat (first|(with_reducible first|exact HB.out|apply qf|apply qa|apply qd|refine qg ?_ GE309.out|refine qg ?_ GE315.out)|exact HB.out)⟩
          · rw [if_neg c28] at H
            have c28b0 : decide (t319 < 0) = false:=decide_eq_false c28
            clear c28
            by_cases c34 : t319 = t317
            · rw [if_pos c34] at H
              have c34b0 : (t319 == t317) = true:=beq_iff_eq.mpr c34
              have c34b1 : (t319 != t317) = false:=bne_eq_false_iff_eq.mpr c34
              clear c34
              replace H:=Option.bind_eq_some_iff.mp H
              obtain ⟨⟨t320,t321,t324⟩,A350,H⟩:=H
              replace H : ((laws_eqPage.f kj4 t320 t321 t304 t305).bind fun t326=>(if t326 = true then (laws_FnExactReadPage.j1 kj4 t317 (t324 != t308) t310 t318) else (laws_FnExactReadPage.j1 kj4 t317 true t310 t318))) = some r:=H
              have A35:=qn.mk A350
              clear A350
              have HC36:=qn.mk H
              clear H
              have hnb37:=NB315_309.out
              have hnc37:=NB309_315.out
              have hcz38_0 : wc.cell? ⟨gb315,0,none⟩ = some (.int .i64 t310):=(qh BK315.out 0).trans rfl
              have hcz38_1 : wc.cell? ⟨gb315,1,none⟩ = some (.slice Ao14 t311.length co14):=(qh BK315.out 1).trans rfl
              have hfz38_0:=qi BK315.out 0
              have hfz38_1:=qi BK315.out 1
              go_upto_region 16 with (first|((with_reducible refine gate_callee (f:=28) rfl ?_);refine goesL_ (some 35) rfl rfl Try.func28 (by kernel_rfl) rfl #[.agg #[.int .i64 t310,.slice Ao14 t311.length co14],.int .i64 1] rfl (by (try simp only [List.map_toArray,List.map_cons,List.map_nil]);first|done|rfl|(simp only [List.length_drop,List.length_take];rfl)) ?_;(with_reducible refine (laws_markPage.calls kj4 t310 (fun k_=>some k_ = (.slice Ao14 t311.length co14 : Value).ownBlock) (.slice Ao14 t311.length co14) t311 1 t317 t318 w _ ?side1 ?side2 A26.out).mono ?_);(case side1=>repeat (first|(with_reducible first|exact HB.out|apply qf|apply qa|apply qd|refine qg ?_ GE309.out|refine qg ?_ GE315.out)|exact HB.out));(case side2=>exact Kd.R_tight rfl HO_316001.out);rintro e w39 ⟨rfl,hy0,hb,hkp⟩;refine ⟨_,rfl,?_⟩;have n0_:=qn.mk (Kd.R_mono (ok':=fun k_=>some k_ ≠ (.slice Ao14 t311.length co14 : Value).ownBlock) (Kd.R_keptB (HO_310001.out) hkp (fun k_ hk_ hs_=>(hk_) hs_)) (fun k_ hk_=>hk_.1));have n1_:=qn.mk (Kd.R_reok rfl hy0 (fun k_ e_=>HO_316001.out.1 k_ e_));have n2_:=qn.mk (blk_kept (by (with_reducible repeat (first|refine qb ?_ _|refine qe ?_|refine qc ?_ _));exact BK309.out) hkp (fun hs_=>(fun e_=>(Kd.R_ne HO_316001.out BK309.out (by decide)) e_) hs_));have n3_:=qn.mk (blk_kept (by (with_reducible repeat (first|refine qb ?_ _|refine qe ?_|refine qc ?_ _));exact BK315.out) hkp (fun hs_=>(fun e_=>(Kd.R_ne HO_316001.out BK315.out (by decide)) e_) hs_));have n4_:=qn.mk (hb);clear HO_310001;clear HO_316001;clear BK309;clear BK315;clear HB;have HO_310001:=n0_;have HO_316001:=n1_;have BK309:=n2_;have BK315:=n3_;have HB:=n4_;clear n0_ n1_ n2_ n3_ n4_;(try clear hb);(try clear hkp);(try clear hy0);have hcz40_0 : w39.cell? ⟨gb315,0,none⟩ = some (.int .i64 t310):=(qh BK315.out 0).trans rfl;have hcz40_1 : w39.cell? ⟨gb315,1,none⟩ = some (.slice Ao14 t311.length co14):=(qh BK315.out 1).trans rfl;have hfz40_0:=qi BK315.out 0;have hfz40_1:=qi BK315.out 1)|((with_reducible refine gate_callee (f:=29) rfl ?_);refine goesL_ (some 38) rfl rfl Try.func29 (by kernel_rfl) rfl #[.agg #[.int .i64 t310,.slice Ao14 t318.length co14],.int .i64 1] rfl (by (try simp only [List.map_toArray,List.map_cons,List.map_nil]);first|done|(rw [show t318.length = t311.length from (Kd.R_reads' HO_316001.out).1.symm] <;> rfl)|rfl|(simp only [List.length_drop,List.length_take];rfl)) ?_;(with_reducible refine (laws_heldPage.calls kj4 t310 _ _ t318 1 t319 _ ?side1 ?side2 A27.out).mono ?_);(case side1=>repeat (first|exact (Kd.R_reads' HO_316001.out).2.2|(with_reducible refine Kd.C_alloc ?_ _)|(with_reducible refine Kd.C_drewN ?_ _)|(with_reducible refine Kd.C_drew ?_)));(case side2=>rw [show t318.length = t311.length from (Kd.R_reads' HO_316001.out).1.symm];exact (Kd.R_reads' HO_316001.out).2.1);rintro e w41 ⟨rfl,hb⟩;refine ⟨_,rfl,?_⟩;have n0_:=rb_ HO_310001 hb;have n1_:=rb_ HO_316001 hb;have n2_:=bb_ BK309 hb;have n3_:=bb_ BK315 hb;have n4_:=hs_ HB hb;clear HO_310001;clear HO_316001;clear BK309;clear BK315;clear HB;have HO_310001:=n0_;have HO_316001:=n1_;have BK309:=n2_;have BK315:=n3_;have HB:=n4_;clear n0_ n1_ n2_ n3_ n4_;(try clear hb);(try clear hb2);(try clear hk);(try clear hi))|((with_reducible refine gate_callee (f:=26) rfl ?_);refine goesL_ (some 46) rfl rfl Try.func26 (by kernel_rfl) rfl #[.string a0] rfl (by (try simp only [List.map_toArray,List.map_cons,List.map_nil]);first|done|rfl|(simp only [List.length_drop,List.length_take];rfl)) ?_;(with_reducible refine (impl_ReadPage.calls kj4 a0 t320 t321 t324 _ A35.out).mono ?_);rintro e w42 ⟨v322,rfl,ho0,hb⟩;refine ⟨_,rfl,?_⟩;have n0_:=qn.mk (Kd.R_elder' (by (with_reducible repeat (first|apply Kd.R_alloc|apply Kd.R_drewN|apply Kd.R_drew));exact HO_310001.out) (Kd.R_base ho0) hb);have n1_:=qn.mk (Kd.R_elder' (by (with_reducible repeat (first|apply Kd.R_alloc|apply Kd.R_drewN|apply Kd.R_drew));exact HO_316001.out) (Kd.R_base ho0) hb);have n2_:=qn.mk (Kd.R_lower (Kd.R_new' (Kd.R_new' ho0 (Kd.R_lt (by (with_reducible repeat (first|apply Kd.R_alloc|apply Kd.R_drewN|apply Kd.R_drew));exact HO_310001.out))) (Kd.R_lt (by (with_reducible repeat (first|apply Kd.R_alloc|apply Kd.R_drewN|apply Kd.R_drew));exact HO_316001.out))) (qj (by repeat (first|(with_reducible first|exact HB.out|apply qf|apply qa|apply qd|refine qg ?_ GE309.out|refine qg ?_ GE315.out)|exact HB.out))));have n3_:=bb_ BK309 hb;have n4_:=bb_ BK315 hb;have n5_:=hs_ HB hb;clear HO_310001;clear HO_316001;clear BK309;clear BK315;clear HB;have HO_310001:=n0_;have HO_316001:=n1_;have HO323:=n2_;have BK309:=n3_;have BK315:=n4_;have HB:=n5_;clear n0_ n1_ n2_ n3_ n4_ n5_;(try clear hb);(try clear hb2);(try clear hk);(try clear hi);(try clear ho0))|((with_reducible refine gate_dst (N:=9) rfl ?_);refine box_event ?hg (N:=9) ?hd (cs:=#[.int .i64 0,.slice none 0 0]) (t:=50) ?hr ?_;(case hd=>rfl);(case hg=>rfl);(case hr=>first|(go_simp;done)|(go_simp;rfl));intro gb325 hg w43 hbox hb;have n0_:=rb_ HO_310001 hb;have n1_:=rb_ HO_316001 hb;have n2_:=rb_ HO323 hb;have n3_:=bb_ BK309 hb;have n4_:=bb_ BK315 hb;have n5_:=hs_ HB hb;have n6_:=qn.mk (hbox);have n7_:=qn.mk ((by rw [hg];exact (qj (by repeat (first|(with_reducible first|exact HB.out|apply qf|apply qa|apply qd|refine qg ?_ GE309.out|refine qg ?_ GE315.out)|exact HB.out))) : w.heap.size ≤ gb325));have n8_:=qn.mk ((by rw [hg];exact (qj (by repeat (first|(with_reducible first|exact HB.out|apply qf|apply qa|apply qd|refine qg ?_ GE309.out|refine qg ?_ GE315.out)|exact HB.out))) : w.heap.size ≤ gb325));have n9_:=qn.mk ((by rw [hg];exact nl_ BK309 : gb309 ≠ gb325));have n10_:=qn.mk ((by rw [hg];exact ng_ BK309 : gb325 ≠ gb309));have n11_:=qn.mk ((by rw [hg];exact nl_ BK315 : gb315 ≠ gb325));have n12_:=qn.mk ((by rw [hg];exact ng_ BK315 : gb325 ≠ gb315));clear HO_310001;clear HO_316001;clear HO323;clear BK309;clear BK315;clear HB;have HO_310001:=n0_;have HO_316001:=n1_;have HO323:=n2_;have BK309:=n3_;have BK315:=n4_;have HB:=n5_;have BK325:=n6_;have GW325:=n7_;have GE325:=n8_;have NB309_325:=n9_;have NB325_309:=n10_;have NB315_325:=n11_;have NB325_315:=n12_;clear n0_ n1_ n2_ n3_ n4_ n5_ n6_ n7_ n8_ n9_ n10_ n11_ n12_;clear hb hbox hg;have hnb44:=NB325_309.out;have hnc44:=NB309_325.out;have hnb45:=NB325_315.out;have hnc45:=NB315_325.out;have hcz46_0 : w43.cell? ⟨gb325,0,none⟩ = some (.int .i64 0):=(qh BK325.out 0).trans rfl;have hcz46_1 : w43.cell? ⟨gb325,1,none⟩ = some (.slice none 0 0):=(qh BK325.out 1).trans rfl;have hfz46_0:=qi BK325.out 0;have hfz46_1:=qi BK325.out 1;obtain ⟨Ao47,co47,eo47⟩:=Kd.R_slice HO323.out;subst eo47))
              (try simp only [Act.put,List.setIfInBounds_toArray,List.set_cons_zero,List.set_cons_succ])
              go_cut [57] (fun v57 wc=>∃ (kq : Nat) (x57_35 : Bool),v57 = .bool x57_35 ∧ qn (laws_FnExactReadPage.j1 kq t317 x57_35 t310 t318 = some r) ∧ qn (kq ≤ kj4) ∧ qn (Kd.R k61 61 wc w.heap.size (fun k_=>some k_ ≠ ((.slice Ao14 t311.length co14) : Value).ownBlock ∧ some k_ ≠ ((.slice Ao47 t321.length co47) : Value).ownBlock) (.slice Ao9 t305.length co9) t305) ∧ qn (Kd.R k61 61 wc w.heap.size (fun k_=>some k_ ≠ ((.slice Ao9 t305.length co9) : Value).ownBlock ∧ some k_ ≠ ((.slice Ao47 t321.length co47) : Value).ownBlock) (.slice Ao14 t311.length co14) t318) ∧ qn (Kd.R k61 61 wc w.heap.size (fun k_=>some k_ ≠ ((.slice Ao9 t305.length co9) : Value).ownBlock ∧ some k_ ≠ ((.slice Ao14 t311.length co14) : Value).ownBlock) (.slice Ao47 t321.length co47) t321) ∧ qn (wc.heap[gb309]? = some (.cells #[.int .i64 t304,(.slice Ao9 t305.length co9)] 50 (0,0))) ∧ qn (wc.heap[gb315]? = some (.cells #[.int .i64 t310,(.slice Ao14 t311.length co14)] 50 (0,0))) ∧ qn (wc.heap[gb325]? = some (.cells #[.int .i64 t320,(.slice Ao47 t321.length co47)] 50 (0,0))) ∧ qn (Below w.heap.size w wc))
              case first =>
                have H:=HC36.out
                clear HC36
                replace H:=Option.bind_eq_some_iff.mp H
                obtain ⟨t326,A480,H⟩:=H
                replace H : (if t326 = true then (laws_FnExactReadPage.j1 kj4 t317 (t324 != t308) t310 t318) else (laws_FnExactReadPage.j1 kj4 t317 true t310 t318)) = some r:=H
                have A48:=qn.mk A480
                clear A480
                by_cases c49 : t326 = true
                · subst c49
                  have H1 : (laws_FnExactReadPage.j1 kj4 t317 (t324 != t308) t310 t318) = some r:=by rw [if_pos rfl] at H;exact H
                  clear H
                  have H:=H1
                  clear H1
                  have H':=qn.mk H
                  clear H
                  have hnb50:=NB325_309.out
                  have hnc50:=NB309_325.out
                  have hnb51:=NB325_315.out
                  have hnc51:=NB315_325.out
                  have hcz52_0 : w43.cell? ⟨gb325,0,none⟩ = some (.int .i64 0):=(qh BK325.out 0).trans rfl
                  have hcz52_1 : w43.cell? ⟨gb325,1,none⟩ = some (.slice none 0 0):=(qh BK325.out 1).trans rfl
                  have hfz52_0:=qi BK325.out 0
                  have hfz52_1:=qi BK325.out 1
                  have hnb53:=NB309_315.out
                  have hnc53:=NB315_309.out
                  have hcz54_0 : w43.cell? ⟨gb309,0,none⟩ = some (.int .i64 t304):=(qh BK309.out 0).trans rfl
                  have hcz54_1 : w43.cell? ⟨gb309,1,none⟩ = some (.slice Ao9 t305.length co9):=(qh BK309.out 1).trans rfl
                  have hfz54_0:=qi BK309.out 0
                  have hfz54_1:=qi BK309.out 1
                  go_wp2_with (first|((with_reducible refine gate_callee (f:=27) rfl ?_);refine goesL_ (some 51) rfl rfl Try.func27 (by kernel_rfl) rfl #[.agg #[.int .i64 t320,.slice Ao47 t321.length co47],.agg #[.int .i64 t304,.slice Ao9 t305.length co9]] rfl (by (try simp only [List.map_toArray,List.map_cons,List.map_nil]);first|done|rfl|(simp only [List.length_drop,List.length_take];rfl)) ?_;(with_reducible refine (laws_eqPage.calls kj4 t320 _ _ t321 t304 _ _ t305 true _ ?side1 ?side2 ?side3 ?side4 A48.out).mono ?_);(case side1=>refine (Kd.R_reads' (e:=61) (base:=w.heap.size) (ok:=fun k_=>((True ∧ some k_ ≠ (.slice Ao9 t305.length co9 : Value).ownBlock) ∧ some k_ ≠ (.slice Ao14 t311.length co14 : Value).ownBlock)) (n:=t321.length) (c:=co47) ?_).2.2;exact (by (with_reducible repeat (first|apply Kd.R_alloc|apply Kd.R_drewN|apply Kd.R_drew));exact (Kd.R_mono (Kd.R_far (p:=⟨gb325,1,none⟩) (Kd.R_far (p:=⟨gb325,0,none⟩) (Kd.R_types HO323.out BK325.out (by decide)) (fun _ hk=>hk.2) (.int .i64 t320)) (fun _ hk=>hk.2) (.slice Ao47 t321.length co47)) (fun _ h_=>h_.1))));(case side2=>exact (Kd.R_reads' HO323.out).2.1);(case side3=>refine (Kd.R_reads' (e:=61) (base:=w.heap.size) (ok:=fun k_=>(some k_ ≠ (.slice Ao14 t311.length co14 : Value).ownBlock ∧ some k_ ≠ (.slice Ao47 t321.length co47 : Value).ownBlock)) (n:=t305.length) (c:=co9) ?_).2.2;exact (by (with_reducible repeat (first|apply Kd.R_alloc|apply Kd.R_drewN|apply Kd.R_drew));exact (Kd.R_mono (Kd.R_far (p:=⟨gb325,1,none⟩) (Kd.R_far (p:=⟨gb325,0,none⟩) (Kd.R_types HO_310001.out BK325.out (by decide)) (fun _ hk=>hk.2) (.int .i64 t320)) (fun _ hk=>hk.2) (.slice Ao47 t321.length co47)) (fun _ h_=>h_.1))));(case side4=>exact (Kd.R_reads' HO_310001.out).2.1);rintro e w55 ⟨rfl,hb⟩;refine ⟨_,rfl,?_⟩;have n0_:=qn.mk (Kd.R_below (by (with_reducible repeat (first|apply Kd.R_alloc|apply Kd.R_drewN|apply Kd.R_drew));exact (Kd.R_mono (Kd.R_far (p:=⟨gb325,1,none⟩) (Kd.R_far (p:=⟨gb325,0,none⟩) (Kd.R_types HO_310001.out BK325.out (by decide)) (fun _ hk=>hk.2) (.int .i64 t320)) (fun _ hk=>hk.2) (.slice Ao47 t321.length co47)) (fun _ h_=>h_.1))) hb);have n1_:=qn.mk (Kd.R_below (by (with_reducible repeat (first|apply Kd.R_alloc|apply Kd.R_drewN|apply Kd.R_drew));exact (Kd.R_mono (Kd.R_far (p:=⟨gb325,1,none⟩) (Kd.R_far (p:=⟨gb325,0,none⟩) (Kd.R_types HO_316001.out BK325.out (by decide)) (fun _ hk=>hk.2) (.int .i64 t320)) (fun _ hk=>hk.2) (.slice Ao47 t321.length co47)) (fun _ h_=>h_.1))) hb);have n2_:=qn.mk (Kd.R_below (by (with_reducible repeat (first|apply Kd.R_alloc|apply Kd.R_drewN|apply Kd.R_drew));exact (Kd.R_mono (Kd.R_far (p:=⟨gb325,1,none⟩) (Kd.R_far (p:=⟨gb325,0,none⟩) (Kd.R_types HO323.out BK325.out (by decide)) (fun _ hk=>hk.2) (.int .i64 t320)) (fun _ hk=>hk.2) (.slice Ao47 t321.length co47)) (fun _ h_=>h_.1))) hb);have n3_:=qn.mk (ql (g:=gb309) (o:=.cells #[.int .i64 t304,.slice Ao9 t305.length co9] 50 (0,0)) (by (with_reducible repeat (first|refine qb ?_ _|refine qe ?_|refine qc ?_ _));refine blk_far ?_ NB309_325.out _;(with_reducible repeat (first|refine qb ?_ _|refine qe ?_|refine qc ?_ _));refine blk_far ?_ NB309_325.out _;(with_reducible repeat (first|refine qb ?_ _|refine qe ?_|refine qc ?_ _));exact BK309.out) hb);have n4_:=qn.mk (ql (g:=gb315) (o:=.cells #[.int .i64 t310,.slice Ao14 t311.length co14] 50 (0,0)) (by (with_reducible repeat (first|refine qb ?_ _|refine qe ?_|refine qc ?_ _));refine blk_far ?_ NB315_325.out _;(with_reducible repeat (first|refine qb ?_ _|refine qe ?_|refine qc ?_ _));refine blk_far ?_ NB315_325.out _;(with_reducible repeat (first|refine qb ?_ _|refine qe ?_|refine qc ?_ _));exact BK315.out) hb);have n5_:=qn.mk (ql (g:=gb325) (o:=.cells #[.int .i64 t320,.slice Ao47 t321.length co47] 50 (0,0)) (by (with_reducible repeat (first|refine qb ?_ _|refine qe ?_|refine qc ?_ _));refine blk_put (cs:=#[.int .i64 t320,.slice none 0 0]) ?_ 1 _ rfl;(with_reducible repeat (first|refine qb ?_ _|refine qe ?_|refine qc ?_ _));refine blk_put (cs:=#[.int .i64 0,.slice none 0 0]) ?_ 0 _ rfl;(with_reducible repeat (first|refine qb ?_ _|refine qe ?_|refine qc ?_ _));exact BK325.out) hb);have n6_:=hs_ HB hb;clear HO_310001;clear HO_316001;clear HO323;clear BK309;clear BK315;clear BK325;clear HB;have HO_310001:=n0_;have HO_316001:=n1_;have HO323:=n2_;have BK309:=n3_;have BK315:=n4_;have BK325:=n5_;have HB:=n6_;clear n0_ n1_ n2_ n3_ n4_ n5_ n6_;(try clear hb);(try clear hb2);(try clear hk);(try clear hi)))
                  go_meet
                  case rel=>exact ⟨_,((t324 != t308)),(by first|rfl|(simp;done)|(simp [*];done)),H',⟨by have:=HJ4.out;first|omega|exact Nat.le_refl _⟩,⟨by (with_reducible repeat (first|apply Kd.R_alloc|apply Kd.R_drewN|apply Kd.R_drew));exact HO_310001.out⟩,⟨by (with_reducible repeat (first|apply Kd.R_alloc|apply Kd.R_drewN|apply Kd.R_drew));exact HO_316001.out⟩,⟨by (with_reducible repeat (first|apply Kd.R_alloc|apply Kd.R_drewN|apply Kd.R_drew));exact Kd.R_mono HO323.out (fun _ hk=>⟨hk.1.2,hk.2⟩)⟩,⟨by (with_reducible repeat (first|refine qb ?_ _|refine qe ?_|refine qc ?_ _));exact BK309.out⟩,⟨by (with_reducible repeat (first|refine qb ?_ _|refine qe ?_|refine qc ?_ _));exact BK315.out⟩,⟨by (with_reducible repeat (first|refine qb ?_ _|refine qe ?_|refine qc ?_ _));exact BK325.out⟩,⟨by repeat (first|(with_reducible first|exact HB.out|apply qf|apply qa|apply qd|refine qg ?_ GE309.out|refine qg ?_ GE315.out|refine qg ?_ GE325.out)|exact HB.out)⟩⟩
                · replace c49:=Bool.eq_false_iff.mpr c49
                  subst c49
                  have H1 : (laws_FnExactReadPage.j1 kj4 t317 true t310 t318) = some r:=by rw [if_neg (show ¬ (false = true) by decide)] at H;exact H
                  clear H
                  have H:=H1
                  clear H1
                  have H':=qn.mk H
                  clear H
                  have hnb56:=NB325_309.out
                  have hnc56:=NB309_325.out
                  have hnb57:=NB325_315.out
                  have hnc57:=NB315_325.out
                  have hcz58_0 : w43.cell? ⟨gb325,0,none⟩ = some (.int .i64 0):=(qh BK325.out 0).trans rfl
                  have hcz58_1 : w43.cell? ⟨gb325,1,none⟩ = some (.slice none 0 0):=(qh BK325.out 1).trans rfl
                  have hfz58_0:=qi BK325.out 0
                  have hfz58_1:=qi BK325.out 1
                  have hnb59:=NB309_315.out
                  have hnc59:=NB315_309.out
                  have hcz60_0 : w43.cell? ⟨gb309,0,none⟩ = some (.int .i64 t304):=(qh BK309.out 0).trans rfl
                  have hcz60_1 : w43.cell? ⟨gb309,1,none⟩ = some (.slice Ao9 t305.length co9):=(qh BK309.out 1).trans rfl
                  have hfz60_0:=qi BK309.out 0
                  have hfz60_1:=qi BK309.out 1
                  go_wp2_with (first|((with_reducible refine gate_callee (f:=27) rfl ?_);refine goesL_ (some 51) rfl rfl Try.func27 (by kernel_rfl) rfl #[.agg #[.int .i64 t320,.slice Ao47 t321.length co47],.agg #[.int .i64 t304,.slice Ao9 t305.length co9]] rfl (by (try simp only [List.map_toArray,List.map_cons,List.map_nil]);first|done|rfl|(simp only [List.length_drop,List.length_take];rfl)) ?_;(with_reducible refine (laws_eqPage.calls kj4 t320 _ _ t321 t304 _ _ t305 false _ ?side1 ?side2 ?side3 ?side4 A48.out).mono ?_);(case side1=>refine (Kd.R_reads' (e:=61) (base:=w.heap.size) (ok:=fun k_=>((True ∧ some k_ ≠ (.slice Ao9 t305.length co9 : Value).ownBlock) ∧ some k_ ≠ (.slice Ao14 t311.length co14 : Value).ownBlock)) (n:=t321.length) (c:=co47) ?_).2.2;exact (by (with_reducible repeat (first|apply Kd.R_alloc|apply Kd.R_drewN|apply Kd.R_drew));exact (Kd.R_mono (Kd.R_far (p:=⟨gb325,1,none⟩) (Kd.R_far (p:=⟨gb325,0,none⟩) (Kd.R_types HO323.out BK325.out (by decide)) (fun _ hk=>hk.2) (.int .i64 t320)) (fun _ hk=>hk.2) (.slice Ao47 t321.length co47)) (fun _ h_=>h_.1))));(case side2=>exact (Kd.R_reads' HO323.out).2.1);(case side3=>refine (Kd.R_reads' (e:=61) (base:=w.heap.size) (ok:=fun k_=>(some k_ ≠ (.slice Ao14 t311.length co14 : Value).ownBlock ∧ some k_ ≠ (.slice Ao47 t321.length co47 : Value).ownBlock)) (n:=t305.length) (c:=co9) ?_).2.2;exact (by (with_reducible repeat (first|apply Kd.R_alloc|apply Kd.R_drewN|apply Kd.R_drew));exact (Kd.R_mono (Kd.R_far (p:=⟨gb325,1,none⟩) (Kd.R_far (p:=⟨gb325,0,none⟩) (Kd.R_types HO_310001.out BK325.out (by decide)) (fun _ hk=>hk.2) (.int .i64 t320)) (fun _ hk=>hk.2) (.slice Ao47 t321.length co47)) (fun _ h_=>h_.1))));(case side4=>exact (Kd.R_reads' HO_310001.out).2.1);rintro e w61 ⟨rfl,hb⟩;refine ⟨_,rfl,?_⟩;have n0_:=qn.mk (Kd.R_below (by (with_reducible repeat (first|apply Kd.R_alloc|apply Kd.R_drewN|apply Kd.R_drew));exact (Kd.R_mono (Kd.R_far (p:=⟨gb325,1,none⟩) (Kd.R_far (p:=⟨gb325,0,none⟩) (Kd.R_types HO_310001.out BK325.out (by decide)) (fun _ hk=>hk.2) (.int .i64 t320)) (fun _ hk=>hk.2) (.slice Ao47 t321.length co47)) (fun _ h_=>h_.1))) hb);have n1_:=qn.mk (Kd.R_below (by (with_reducible repeat (first|apply Kd.R_alloc|apply Kd.R_drewN|apply Kd.R_drew));exact (Kd.R_mono (Kd.R_far (p:=⟨gb325,1,none⟩) (Kd.R_far (p:=⟨gb325,0,none⟩) (Kd.R_types HO_316001.out BK325.out (by decide)) (fun _ hk=>hk.2) (.int .i64 t320)) (fun _ hk=>hk.2) (.slice Ao47 t321.length co47)) (fun _ h_=>h_.1))) hb);have n2_:=qn.mk (Kd.R_below (by (with_reducible repeat (first|apply Kd.R_alloc|apply Kd.R_drewN|apply Kd.R_drew));exact (Kd.R_mono (Kd.R_far (p:=⟨gb325,1,none⟩) (Kd.R_far (p:=⟨gb325,0,none⟩) (Kd.R_types HO323.out BK325.out (by decide)) (fun _ hk=>hk.2) (.int .i64 t320)) (fun _ hk=>hk.2) (.slice Ao47 t321.length co47)) (fun _ h_=>h_.1))) hb);have n3_:=qn.mk (ql (g:=gb309) (o:=.cells #[.int .i64 t304,.slice Ao9 t305.length co9] 50 (0,0)) (by (with_reducible repeat (first|refine qb ?_ _|refine qe ?_|refine qc ?_ _));refine blk_far ?_ NB309_325.out _;(with_reducible repeat (first|refine qb ?_ _|refine qe ?_|refine qc ?_ _));refine blk_far ?_ NB309_325.out _;(with_reducible repeat (first|refine qb ?_ _|refine qe ?_|refine qc ?_ _));exact BK309.out) hb);have n4_:=qn.mk (ql (g:=gb315) (o:=.cells #[.int .i64 t310,.slice Ao14 t311.length co14] 50 (0,0)) (by (with_reducible repeat (first|refine qb ?_ _|refine qe ?_|refine qc ?_ _));refine blk_far ?_ NB315_325.out _;(with_reducible repeat (first|refine qb ?_ _|refine qe ?_|refine qc ?_ _));refine blk_far ?_ NB315_325.out _;(with_reducible repeat (first|refine qb ?_ _|refine qe ?_|refine qc ?_ _));exact BK315.out) hb);have n5_:=qn.mk (ql (g:=gb325) (o:=.cells #[.int .i64 t320,.slice Ao47 t321.length co47] 50 (0,0)) (by (with_reducible repeat (first|refine qb ?_ _|refine qe ?_|refine qc ?_ _));refine blk_put (cs:=#[.int .i64 t320,.slice none 0 0]) ?_ 1 _ rfl;(with_reducible repeat (first|refine qb ?_ _|refine qe ?_|refine qc ?_ _));refine blk_put (cs:=#[.int .i64 0,.slice none 0 0]) ?_ 0 _ rfl;(with_reducible repeat (first|refine qb ?_ _|refine qe ?_|refine qc ?_ _));exact BK325.out) hb);have n6_:=hs_ HB hb;clear HO_310001;clear HO_316001;clear HO323;clear BK309;clear BK315;clear BK325;clear HB;have HO_310001:=n0_;have HO_316001:=n1_;have HO323:=n2_;have BK309:=n3_;have BK315:=n4_;have BK325:=n5_;have HB:=n6_;clear n0_ n1_ n2_ n3_ n4_ n5_ n6_;(try clear hb);(try clear hb2);(try clear hk);(try clear hi)))
                  go_meet
                  case rel=>exact ⟨_,(true),(by first|rfl|(simp;done)|(simp [*];done)),H',⟨by have:=HJ4.out;first|omega|exact Nat.le_refl _⟩,⟨by (with_reducible repeat (first|apply Kd.R_alloc|apply Kd.R_drewN|apply Kd.R_drew));exact HO_310001.out⟩,⟨by (with_reducible repeat (first|apply Kd.R_alloc|apply Kd.R_drewN|apply Kd.R_drew));exact HO_316001.out⟩,⟨by (with_reducible repeat (first|apply Kd.R_alloc|apply Kd.R_drewN|apply Kd.R_drew));exact Kd.R_mono HO323.out (fun _ hk=>⟨hk.1.2,hk.2⟩)⟩,⟨by (with_reducible repeat (first|refine qb ?_ _|refine qe ?_|refine qc ?_ _));exact BK309.out⟩,⟨by (with_reducible repeat (first|refine qb ?_ _|refine qe ?_|refine qc ?_ _));exact BK315.out⟩,⟨by (with_reducible repeat (first|refine qb ?_ _|refine qe ?_|refine qc ?_ _));exact BK325.out⟩,⟨by repeat (first|(with_reducible first|exact HB.out|apply qf|apply qa|apply qd|refine qg ?_ GE309.out|refine qg ?_ GE315.out|refine qg ?_ GE325.out)|exact HB.out)⟩⟩
              case rest =>
                clear HC36
                try clear c1
                try clear c2
                try clear c2b0
                try clear c2b1
                try clear p2
                try clear c3
                try clear c4
                try clear c5
                try clear c12
                try clear c16
                try clear c17
                try clear c21
                try clear c25
                try clear c26
                try clear c27
                try clear c28
                try clear c28b0
                try clear c29
                try clear c34
                try clear c34b0
                try clear c34b1
                try clear c37
                try clear c44
                try clear c45
                try clear c49
                try clear c50
                try clear c51
                try clear c53
                try clear c56
                try clear c57
                try clear c59
                try clear hcz13_0
                try clear hcz13_1
                try clear hcz18_0
                try clear hcz18_1
                try clear hcz19_0
                try clear hcz19_1
                try clear hcz22_0
                try clear hcz22_1
                try clear hcz23_0
                try clear hcz23_1
                try clear hcz30_0
                try clear hcz30_1
                try clear hcz32_0
                try clear hcz32_1
                try clear hcz38_0
                try clear hcz38_1
                try clear hcz40_0
                try clear hcz40_1
                try clear hcz46_0
                try clear hcz46_1
                try clear hcz52_0
                try clear hcz52_1
                try clear hcz54_0
                try clear hcz54_1
                try clear hcz58_0
                try clear hcz58_1
                try clear hcz60_0
                try clear hcz60_1
                try clear hcz8_0
                try clear hcz8_1
                try clear hfz13_0
                try clear hfz13_1
                try clear hfz18_0
                try clear hfz18_1
                try clear hfz19_0
                try clear hfz19_1
                try clear hfz22_0
                try clear hfz22_1
                try clear hfz23_0
                try clear hfz23_1
                try clear hfz30_0
                try clear hfz30_1
                try clear hfz32_0
                try clear hfz32_1
                try clear hfz38_0
                try clear hfz38_1
                try clear hfz40_0
                try clear hfz40_1
                try clear hfz46_0
                try clear hfz46_1
                try clear hfz52_0
                try clear hfz52_1
                try clear hfz54_0
                try clear hfz54_1
                try clear hfz58_0
                try clear hfz58_1
                try clear hfz60_0
                try clear hfz60_1
                try clear hfz8_0
                try clear hfz8_1
                try clear p2
                obtain ⟨kq,x57_35,rfl,HA,HJ35,HO_310001,HO_316001,HO_326001,BK309,BK315,BK325,HB⟩:=hcut
                have hl316001_35:=(Kd.R_reads' HO_316001.out).1
                rw [hl316001_35] at HO_316001
                (try simp only [hl316001_35])
                (try simp only [hl316001_35] at BK309)
                (try simp only [hl316001_35] at BK315)
                (try simp only [hl316001_35] at BK325)
                (try simp only [hl316001_35] at HO_310001)
                (try simp only [hl316001_35] at HO_326001)
                cases kq with
                | zero=>exact absurd HA.out (by simp [laws_FnExactReadPage.j1])
                | succ kj35 =>
                  have H:=HA.out
                  clear HA
                  simp only [laws_FnExactReadPage.j1] at H
                  by_cases c62 : x57_35 = true
                  · subst c62
                    have H1 : (some false) = some r:=by rw [if_pos rfl] at H;exact H
                    clear H
                    have H:=H1
                    clear H1
                    obtain rfl:=Option.some.inj H
                    go_wp2
                    go_ret
                    exact ⟨by first|rfl|(simp [errW_none,errW_some] <;> rfl)|(simp [*,errW_none,errW_some] <;> rfl),by repeat (first|(with_reducible first|exact HB.out|apply qf|apply qa|apply qd|refine qg ?_ GE309.out|refine qg ?_ GE315.out|refine qg ?_ GE325.out)|exact HB.out)⟩
                  · replace c62:=Bool.eq_false_iff.mpr c62
                    subst c62
                    have H1 : ((laws_heldPage.f kj35 t310 t318 1).bind fun t327=>(if t327 < 0 then (some false) else (if t327 = t317 then (some true) else (some false)))) = some r:=by rw [if_neg (show ¬ (false = true) by decide)] at H;exact H
                    clear H
                    have H:=H1
                    clear H1
                    replace H:=Option.bind_eq_some_iff.mp H
                    obtain ⟨t327,A630,H⟩:=H
                    replace H : (if t327 < 0 then (some false) else (if t327 = t317 then (some true) else (some false))) = some r:=H
                    have A63:=qn.mk A630
                    clear A630
                    by_cases c64 : t327 < 0
                    · rw [if_pos c64] at H
                      have c64b0 : decide (t327 < 0) = true:=decide_eq_true c64
                      clear c64
                      obtain rfl:=Option.some.inj H
                      have hnb65:=NB315_309.out
                      have hnc65:=NB309_315.out
                      have hnb66:=NB315_325.out
                      have hnc66:=NB325_315.out
                      have hcz67_0 : wc.cell? ⟨gb315,0,none⟩ = some (.int .i64 t310):=(qh BK315.out 0).trans rfl
                      have hcz67_1 : wc.cell? ⟨gb315,1,none⟩ = some (.slice Ao14 t318.length co14):=(qh BK315.out 1).trans rfl
                      have hfz67_0:=qi BK315.out 0
                      have hfz67_1:=qi BK315.out 1
                      go_wp2_with (first|((with_reducible refine gate_callee (f:=29) rfl ?_);refine goesL_ (some 60) rfl rfl Try.func29 (by kernel_rfl) rfl #[.agg #[.int .i64 t310,.slice Ao14 t318.length co14],.int .i64 1] rfl (by (try simp only [List.map_toArray,List.map_cons,List.map_nil]);first|done|rfl|(simp only [List.length_drop,List.length_take];rfl)) ?_;(with_reducible refine (laws_heldPage.calls kj35 t310 _ _ t318 1 t327 _ ?side1 ?side2 A63.out).mono ?_);(case side1=>repeat (first|exact (Kd.R_reads' HO_316001.out).2.2|(with_reducible refine Kd.C_alloc ?_ _)|(with_reducible refine Kd.C_drewN ?_ _)|(with_reducible refine Kd.C_drew ?_)));(case side2=>exact (Kd.R_reads' HO_316001.out).2.1);rintro e w68 ⟨rfl,hb⟩;refine ⟨_,rfl,?_⟩;have n0_:=rb_ HO_310001 hb;have n1_:=rb_ HO_316001 hb;have n2_:=rb_ HO_326001 hb;have n3_:=bb_ BK309 hb;have n4_:=bb_ BK315 hb;have n5_:=bb_ BK325 hb;have n6_:=hs_ HB hb;clear HO_310001;clear HO_316001;clear HO_326001;clear BK309;clear BK315;clear BK325;clear HB;have HO_310001:=n0_;have HO_316001:=n1_;have HO_326001:=n2_;have BK309:=n3_;have BK315:=n4_;have BK325:=n5_;have HB:=n6_;clear n0_ n1_ n2_ n3_ n4_ n5_ n6_;(try clear hb);(try clear hb2);(try clear hk);(try clear hi)))
                      go_ret
                      exact ⟨by first|rfl|(simp [errW_none,errW_some] <;> rfl)|(simp [*,errW_none,errW_some] <;> rfl),by repeat (first|(with_reducible first|exact HB.out|apply qf|apply qa|apply qd|refine qg ?_ GE309.out|refine qg ?_ GE315.out|refine qg ?_ GE325.out)|exact HB.out)⟩
                    · rw [if_neg c64] at H
                      have c64b0 : decide (t327 < 0) = false:=decide_eq_false c64
                      clear c64
                      by_cases c69 : t327 = t317
                      · rw [if_pos c69] at H
                        have c69b0 : (t327 == t317) = true:=beq_iff_eq.mpr c69
                        have c69b1 : (t327 != t317) = false:=bne_eq_false_iff_eq.mpr c69
                        clear c69
                        obtain rfl:=Option.some.inj H
                        have hnb70:=NB315_309.out
                        have hnc70:=NB309_315.out
                        have hnb71:=NB315_325.out
                        have hnc71:=NB325_315.out
                        have hcz72_0 : wc.cell? ⟨gb315,0,none⟩ = some (.int .i64 t310):=(qh BK315.out 0).trans rfl
                        have hcz72_1 : wc.cell? ⟨gb315,1,none⟩ = some (.slice Ao14 t318.length co14):=(qh BK315.out 1).trans rfl
                        have hfz72_0:=qi BK315.out 0
                        have hfz72_1:=qi BK315.out 1
                        go_wp2_with (first|((with_reducible refine gate_callee (f:=29) rfl ?_);refine goesL_ (some 60) rfl rfl Try.func29 (by kernel_rfl) rfl #[.agg #[.int .i64 t310,.slice Ao14 t318.length co14],.int .i64 1] rfl (by (try simp only [List.map_toArray,List.map_cons,List.map_nil]);first|done|rfl|(simp only [List.length_drop,List.length_take];rfl)) ?_;(with_reducible refine (laws_heldPage.calls kj35 t310 _ _ t318 1 t327 _ ?side1 ?side2 A63.out).mono ?_);(case side1=>repeat (first|exact (Kd.R_reads' HO_316001.out).2.2|(with_reducible refine Kd.C_alloc ?_ _)|(with_reducible refine Kd.C_drewN ?_ _)|(with_reducible refine Kd.C_drew ?_)));(case side2=>exact (Kd.R_reads' HO_316001.out).2.1);rintro e w73 ⟨rfl,hb⟩;refine ⟨_,rfl,?_⟩;have n0_:=rb_ HO_310001 hb;have n1_:=rb_ HO_316001 hb;have n2_:=rb_ HO_326001 hb;have n3_:=bb_ BK309 hb;have n4_:=bb_ BK315 hb;have n5_:=bb_ BK325 hb;have n6_:=hs_ HB hb;clear HO_310001;clear HO_316001;clear HO_326001;clear BK309;clear BK315;clear BK325;clear HB;have HO_310001:=n0_;have HO_316001:=n1_;have HO_326001:=n2_;have BK309:=n3_;have BK315:=n4_;have BK325:=n5_;have HB:=n6_;clear n0_ n1_ n2_ n3_ n4_ n5_ n6_;(try clear hb);(try clear hb2);(try clear hk);(try clear hi)))
                        go_ret
                        exact ⟨by first|rfl|(simp [errW_none,errW_some] <;> rfl)|(simp [*,errW_none,errW_some] <;> rfl),by repeat (first|(with_reducible first|exact HB.out|apply qf|apply qa|apply qd|refine qg ?_ GE309.out|refine qg ?_ GE315.out|refine qg ?_ GE325.out)|exact HB.out)⟩
                      · rw [if_neg c69] at H
                        have c69b0 : (t327 == t317) = false:=beq_eq_false_iff_ne.mpr c69
                        have c69b1 : (t327 != t317) = true:=bne_iff_ne.mpr c69
                        obtain rfl:=Option.some.inj H
                        have hnb74:=NB315_309.out
                        have hnc74:=NB309_315.out
                        have hnb75:=NB315_325.out
                        have hnc75:=NB325_315.out
                        have hcz76_0 : wc.cell? ⟨gb315,0,none⟩ = some (.int .i64 t310):=(qh BK315.out 0).trans rfl
                        have hcz76_1 : wc.cell? ⟨gb315,1,none⟩ = some (.slice Ao14 t318.length co14):=(qh BK315.out 1).trans rfl
                        have hfz76_0:=qi BK315.out 0
                        have hfz76_1:=qi BK315.out 1
                        go_wp2_with (first|((with_reducible refine gate_callee (f:=29) rfl ?_);refine goesL_ (some 60) rfl rfl Try.func29 (by kernel_rfl) rfl #[.agg #[.int .i64 t310,.slice Ao14 t318.length co14],.int .i64 1] rfl (by (try simp only [List.map_toArray,List.map_cons,List.map_nil]);first|done|rfl|(simp only [List.length_drop,List.length_take];rfl)) ?_;(with_reducible refine (laws_heldPage.calls kj35 t310 _ _ t318 1 t327 _ ?side1 ?side2 A63.out).mono ?_);(case side1=>repeat (first|exact (Kd.R_reads' HO_316001.out).2.2|(with_reducible refine Kd.C_alloc ?_ _)|(with_reducible refine Kd.C_drewN ?_ _)|(with_reducible refine Kd.C_drew ?_)));(case side2=>exact (Kd.R_reads' HO_316001.out).2.1);rintro e w77 ⟨rfl,hb⟩;refine ⟨_,rfl,?_⟩;have n0_:=rb_ HO_310001 hb;have n1_:=rb_ HO_316001 hb;have n2_:=rb_ HO_326001 hb;have n3_:=bb_ BK309 hb;have n4_:=bb_ BK315 hb;have n5_:=bb_ BK325 hb;have n6_:=hs_ HB hb;clear HO_310001;clear HO_316001;clear HO_326001;clear BK309;clear BK315;clear BK325;clear HB;have HO_310001:=n0_;have HO_316001:=n1_;have HO_326001:=n2_;have BK309:=n3_;have BK315:=n4_;have BK325:=n5_;have HB:=n6_;clear n0_ n1_ n2_ n3_ n4_ n5_ n6_;(try clear hb);(try clear hb2);(try clear hk);(try clear hi)))
                        go_ret
                        exact ⟨by first|rfl|(simp [errW_none,errW_some] <;> rfl)|(simp [*,errW_none,errW_some] <;> rfl),by repeat (first|(with_reducible first|exact HB.out|apply qf|apply qa|apply qd|refine qg ?_ GE309.out|refine qg ?_ GE315.out|refine qg ?_ GE325.out)|exact HB.out)⟩
            · rw [if_neg c34] at H
              have c34b0 : (t319 == t317) = false:=beq_eq_false_iff_ne.mpr c34
              have c34b1 : (t319 != t317) = true:=bne_iff_ne.mpr c34
              obtain rfl:=Option.some.inj H
              have hnb78:=NB315_309.out
              have hnc78:=NB309_315.out
              have hcz79_0 : wc.cell? ⟨gb315,0,none⟩ = some (.int .i64 t310):=(qh BK315.out 0).trans rfl
              have hcz79_1 : wc.cell? ⟨gb315,1,none⟩ = some (.slice Ao14 t311.length co14):=(qh BK315.out 1).trans rfl
              have hfz79_0:=qi BK315.out 0
              have hfz79_1:=qi BK315.out 1
              go_wp2_with (first|((with_reducible refine gate_callee (f:=28) rfl ?_);refine goesL_ (some 35) rfl rfl Try.func28 (by kernel_rfl) rfl #[.agg #[.int .i64 t310,.slice Ao14 t311.length co14],.int .i64 1] rfl (by (try simp only [List.map_toArray,List.map_cons,List.map_nil]);first|done|rfl|(simp only [List.length_drop,List.length_take];rfl)) ?_;(with_reducible refine (laws_markPage.calls kj4 t310 (fun k_=>some k_ = (.slice Ao14 t311.length co14 : Value).ownBlock) (.slice Ao14 t311.length co14) t311 1 t317 t318 w _ ?side1 ?side2 A26.out).mono ?_);(case side1=>repeat (first|(with_reducible first|exact HB.out|apply qf|apply qa|apply qd|refine qg ?_ GE309.out|refine qg ?_ GE315.out)|exact HB.out));(case side2=>exact Kd.R_tight rfl HO_316001.out);rintro e w80 ⟨rfl,hy0,hb,hkp⟩;refine ⟨_,rfl,?_⟩;have n0_:=qn.mk (Kd.R_mono (ok':=fun k_=>some k_ ≠ (.slice Ao14 t311.length co14 : Value).ownBlock) (Kd.R_keptB (HO_310001.out) hkp (fun k_ hk_ hs_=>(hk_) hs_)) (fun k_ hk_=>hk_.1));have n1_:=qn.mk (Kd.R_reok rfl hy0 (fun k_ e_=>HO_316001.out.1 k_ e_));have n2_:=qn.mk (blk_kept (by (with_reducible repeat (first|refine qb ?_ _|refine qe ?_|refine qc ?_ _));exact BK309.out) hkp (fun hs_=>(fun e_=>(Kd.R_ne HO_316001.out BK309.out (by decide)) e_) hs_));have n3_:=qn.mk (blk_kept (by (with_reducible repeat (first|refine qb ?_ _|refine qe ?_|refine qc ?_ _));exact BK315.out) hkp (fun hs_=>(fun e_=>(Kd.R_ne HO_316001.out BK315.out (by decide)) e_) hs_));have n4_:=qn.mk (hb);clear HO_310001;clear HO_316001;clear BK309;clear BK315;clear HB;have HO_310001:=n0_;have HO_316001:=n1_;have BK309:=n2_;have BK315:=n3_;have HB:=n4_;clear n0_ n1_ n2_ n3_ n4_;(try clear hb);(try clear hkp);(try clear hy0);have hcz81_0 : w80.cell? ⟨gb315,0,none⟩ = some (.int .i64 t310):=(qh BK315.out 0).trans rfl;have hcz81_1 : w80.cell? ⟨gb315,1,none⟩ = some (.slice Ao14 t311.length co14):=(qh BK315.out 1).trans rfl;have hfz81_0:=qi BK315.out 0;have hfz81_1:=qi BK315.out 1)|((with_reducible refine gate_callee (f:=29) rfl ?_);refine goesL_ (some 38) rfl rfl Try.func29 (by kernel_rfl) rfl #[.agg #[.int .i64 t310,.slice Ao14 t318.length co14],.int .i64 1] rfl (by (try simp only [List.map_toArray,List.map_cons,List.map_nil]);first|done|(rw [show t318.length = t311.length from (Kd.R_reads' HO_316001.out).1.symm] <;> rfl)|rfl|(simp only [List.length_drop,List.length_take];rfl)) ?_;(with_reducible refine (laws_heldPage.calls kj4 t310 _ _ t318 1 t319 _ ?side1 ?side2 A27.out).mono ?_);(case side1=>repeat (first|exact (Kd.R_reads' HO_316001.out).2.2|(with_reducible refine Kd.C_alloc ?_ _)|(with_reducible refine Kd.C_drewN ?_ _)|(with_reducible refine Kd.C_drew ?_)));(case side2=>rw [show t318.length = t311.length from (Kd.R_reads' HO_316001.out).1.symm];exact (Kd.R_reads' HO_316001.out).2.1);rintro e w82 ⟨rfl,hb⟩;refine ⟨_,rfl,?_⟩;have n0_:=rb_ HO_310001 hb;have n1_:=rb_ HO_316001 hb;have n2_:=bb_ BK309 hb;have n3_:=bb_ BK315 hb;have n4_:=hs_ HB hb;clear HO_310001;clear HO_316001;clear BK309;clear BK315;clear HB;have HO_310001:=n0_;have HO_316001:=n1_;have BK309:=n2_;have BK315:=n3_;have HB:=n4_;clear n0_ n1_ n2_ n3_ n4_;(try clear hb);(try clear hb2);(try clear hk);(try clear hi)))
              go_ret
              exact ⟨by first|rfl|(simp [errW_none,errW_some] <;> rfl)|(simp [*,errW_none,errW_some] <;> rfl),by repeat (first|(with_reducible first|exact HB.out|apply qf|apply qa|apply qd|refine qg ?_ GE309.out|refine qg ?_ GE315.out)|exact HB.out)⟩

/-- THE ONE PURE STATEMENT of laws_FnExactReadPage: yours. -/
def laws_FnExactReadPage.Pure : Prop:=∀ (a0 : ByteArray),a0.size ≤ 140737488351232 → ∃ k,laws_FnExactReadPage.f k a0 = some true
theorem laws_FnExactReadPage.walk (P : laws_FnExactReadPage.Pure) (a0 : ByteArray) (w : World) (w0 : a0.size ≤ 140737488351232) :
    Calls Try.prog 5 #[.string a0] w fun e w'=>e = .returned (.bool true) ∧ Below w.heap.size w w':=by
  obtain ⟨k,h⟩:=P a0 w0
  refine (laws_FnExactReadPage.calls k a0 true w h).mono ?_
  rintro e w' ⟨rfl,hd⟩
  exact ⟨rfl,hd⟩

end Go.Proofs.Ytfmemcffbfahhaa.QFnExactReadPage
