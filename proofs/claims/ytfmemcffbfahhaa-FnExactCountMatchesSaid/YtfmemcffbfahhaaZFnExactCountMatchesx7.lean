/- Lean functions for the Go functions that the law FnExactCountMatches reaches, and that each Go function comes to just its Lean function's answer; by a program of this session. -/
import Derived.Test.YtfmemcffbfahhaaZFnExactCountMatchesx0
import Derived.Test.YtfmemcffbfahhaaZFnExactCountMatchesx1
import Derived.Test.YtfmemcffbfahhaaZFnExactCountMatchesx4
import Derived.Test.YtfmemcffbfahhaaZFnExactCountMatchesx5
import Derived.Test.YtfmemcffbfahhaaZFnExactCountMatchesx8
import Derived.Test.YtfmemcffbfahhaaZFnExactCountMatchesx6
namespace Go.Proofs.Ytfmemcffbfahhaa.QFnExactCountMatches
open Go.RowKit Go.Proofs.YtfmemcffbfahhaaW.PrintWords Go.Proofs.YtfmemcffbfahhaaW.PrintLast Go.Proofs.YtfmemcffbfahhaaW.PrintMore
attribute [local go_sem] max2_int min2_int max_two min_two max_three min_three max_four min_four   -- for this text's walks alone
set_option linter.unusedVariables false
set_option linter.unusedSimpArgs false

/-! ### laws_FnExactCountMatches: function 7 -/
def laws_FnExactCountMatches.f (k : Nat) (a0_0 : Int) (l0_1 : List (S148)) : Option (Bool):=(laws_szGraph.f a0_0 l0_1 1048576).bind fun t209=>(if t209 < 0 then (some true) else ((laws_toGraph.f k a0_0 l0_1).bind fun bt210=>((spec_CountMatches.f k bt210.1 bt210.2).bind fun t214=>((laws_toGraph.f k a0_0 l0_1).bind fun bt215=>((impl_CountMatches.f k bt215.1 bt215.2).bind fun t220=>(if t220 = t214 then ((laws_toGraph.f k a0_0 l0_1).bind fun bt221=>((laws_eqGraph.f k bt215.1 bt215.2 bt221.1 bt221.2).bind fun t225=>(if t225 = true then (some true) else (some false)))) else (some false)))))))
theorem laws_FnExactCountMatches.mono : ∀ a0 a1 k,LeO (laws_FnExactCountMatches.f k a0 a1) (laws_FnExactCountMatches.f (k + 1) a0 a1):=by
  intro a0 a1 k
  unfold laws_FnExactCountMatches.f
  repeat' first
      | (with_reducible exact impl_CountMatches.mono _ _ _)
      | (with_reducible exact laws_eqGraph.mono _ _ _ _ _)
      | (with_reducible exact laws_toGraph.mono _ _ _)
      | (with_reducible exact spec_CountMatches.mono _ _ _)
      | (with_reducible exact LeO.refl _)
      | (with_reducible exact LeO.none _)
      | (with_reducible refine LeO.ite ?_ ?_)
      | (with_reducible refine LeO.bind ?_ (fun _=>?_))
      | exact impl_CountMatches.mono _ _ _
      | exact laws_eqGraph.mono _ _ _ _ _
      | exact laws_toGraph.mono _ _ _
      | exact spec_CountMatches.mono _ _ _
      | exact LeO.none _
      | refine LeO.ite ?_ ?_
      | refine LeO.bind ?_ (fun _=>?_)
set_option maxHeartbeats 8000000 in
set_option maxRecDepth 100000 in
theorem laws_FnExactCountMatches.calls (k : Nat) (a0_0 : Int) (A0_1 : Option Addr) (c0_1 : Nat) (l0_1 : List (S148)) (r : Bool) (w : World) (hr0_1 : Kd.C k148 w A0_1 l0_1.length l0_1) (hc0_1 : l0_1.length ≤ c0_1) (h : laws_FnExactCountMatches.f k a0_0 l0_1 = some r) :
    Calls Try.prog 7 #[.agg #[.int .i64 a0_0,.slice A0_1 l0_1.length c0_1]] w fun e w'=>e = .returned (.bool r) ∧ Below w.heap.size w w':=by
  have hu65:=Try.underlying65
  have hu26:=Try.underlying26
  have HR0_1:=qn.mk hr0_1
  have HC0_1:=qn.mk hc0_1
  clear hr0_1 hc0_1
  have HB:=qn.mk (Below.refl w.heap.size w)
  have H : ((laws_szGraph.f a0_0 l0_1 1048576).bind fun t209=>(if t209 < 0 then (some true) else ((laws_toGraph.f k a0_0 l0_1).bind fun bt210=>((spec_CountMatches.f k bt210.1 bt210.2).bind fun t214=>((laws_toGraph.f k a0_0 l0_1).bind fun bt215=>((impl_CountMatches.f k bt215.1 bt215.2).bind fun t220=>(if t220 = t214 then ((laws_toGraph.f k a0_0 l0_1).bind fun bt221=>((laws_eqGraph.f k bt215.1 bt215.2 bt221.1 bt221.2).bind fun t225=>(if t225 = true then (some true) else (some false)))) else (some false)))))))) = some r:=h
  clear h
  replace H:=Option.bind_eq_some_iff.mp H
  obtain ⟨t209,A20,H⟩:=H
  replace H : (if t209 < 0 then (some true) else ((laws_toGraph.f k a0_0 l0_1).bind fun bt210=>((spec_CountMatches.f k bt210.1 bt210.2).bind fun t214=>((laws_toGraph.f k a0_0 l0_1).bind fun bt215=>((impl_CountMatches.f k bt215.1 bt215.2).bind fun t220=>(if t220 = t214 then ((laws_toGraph.f k a0_0 l0_1).bind fun bt221=>((laws_eqGraph.f k bt215.1 bt215.2 bt221.1 bt221.2).bind fun t225=>(if t225 = true then (some true) else (some false)))) else (some false))))))) = some r:=H
  have A2:=qn.mk A20
  clear A20
  by_cases c3 : t209 < 0
  · rw [if_pos c3] at H
    have c3b0 : decide (t209 < 0) = true:=decide_eq_true c3
    clear c3
    obtain rfl:=Option.some.inj H
    go_enter Try.func7,Try.ntmps7
    go_wp2_with (first|((with_reducible refine gate_dst (N:=1) rfl ?_);refine box_event ?hg (N:=1) ?hd (cs:=#[.int .i64 a0_0,.slice A0_1 l0_1.length c0_1]) (t:=65) ?hr ?_;(case hd=>rfl);(case hg=>rfl);(case hr=>first|(go_simp;done)|(go_simp;rfl));intro gb208 hg w4 hbox hb;have n0_:=hs_ HB hb;have n1_:=qn.mk (hbox);have n2_:=qn.mk ((by rw [hg];exact (qj (by repeat (first|(with_reducible first|exact HB.out|apply qf|apply qa|apply qd)|exact HB.out))) : w.heap.size ≤ gb208));have n3_:=qn.mk ((by rw [hg];exact (qj (by repeat (first|(with_reducible first|exact HB.out|apply qf|apply qa|apply qd)|exact HB.out))) : w.heap.size ≤ gb208));clear HB;have HB:=n0_;have BK208:=n1_;have GW208:=n2_;have GE208:=n3_;clear n0_ n1_ n2_ n3_;clear hb hbox hg;have hcz5_0 : w4.cell? ⟨gb208,0,none⟩ = some (.int .i64 a0_0):=(qh BK208.out 0).trans rfl;have hcz5_1 : w4.cell? ⟨gb208,1,none⟩ = some (.slice A0_1 l0_1.length c0_1):=(qh BK208.out 1).trans rfl;have hfz5_0:=qi BK208.out 0;have hfz5_1:=qi BK208.out 1)|((with_reducible refine gate_callee (f:=33) rfl ?_);refine goesL_ (some 9) rfl rfl Try.func33 (by kernel_rfl) rfl #[.agg #[.int .i64 a0_0,.slice A0_1 l0_1.length c0_1],.int .i64 1048576] rfl (by (try simp only [List.map_toArray,List.map_cons,List.map_nil]);first|done|rfl|(simp only [List.length_drop,List.length_take];rfl)) ?_;(with_reducible refine (laws_szGraph.calls a0_0 _ _ l0_1 1048576 t209 _ ?side1 ?side2 A2.out).mono ?_);(case side1=>repeat (first|exact (Kd.C_below HR0_1.out HB.out)|(with_reducible refine Kd.C_alloc ?_ _)|(with_reducible refine Kd.C_drewN ?_ _)|(with_reducible refine Kd.C_drew ?_)));(case side2=>exact HC0_1.out);rintro e w6 ⟨rfl,hb⟩;refine ⟨_,rfl,?_⟩;have n0_:=bb_ BK208 hb;have n1_:=hs_ HB hb;clear BK208;clear HB;have BK208:=n0_;have HB:=n1_;clear n0_ n1_;(try clear hb);(try clear hb2);(try clear hk);(try clear hi)))
    go_ret
    exact ⟨by first|rfl|(simp [errW_none,errW_some] <;> rfl)|(simp [*,errW_none,errW_some] <;> rfl),by repeat (first|(with_reducible first|exact HB.out|apply qf|apply qa|apply qd|refine qg ?_ GE208.out)|exact HB.out)⟩
  · rw [if_neg c3] at H
    have c3b0 : decide (t209 < 0) = false:=decide_eq_false c3
    clear c3
    replace H:=Option.bind_eq_some_iff.mp H
    obtain ⟨⟨t210,t211⟩,A70,H⟩:=H
    replace H : ((spec_CountMatches.f k t210 t211).bind fun t214=>((laws_toGraph.f k a0_0 l0_1).bind fun bt215=>((impl_CountMatches.f k bt215.1 bt215.2).bind fun t220=>(if t220 = t214 then ((laws_toGraph.f k a0_0 l0_1).bind fun bt221=>((laws_eqGraph.f k bt215.1 bt215.2 bt221.1 bt221.2).bind fun t225=>(if t225 = true then (some true) else (some false)))) else (some false))))) = some r:=H
    have A7:=qn.mk A70
    clear A70
    replace H:=Option.bind_eq_some_iff.mp H
    obtain ⟨t214,A80,H⟩:=H
    replace H : ((laws_toGraph.f k a0_0 l0_1).bind fun bt215=>((impl_CountMatches.f k bt215.1 bt215.2).bind fun t220=>(if t220 = t214 then ((laws_toGraph.f k a0_0 l0_1).bind fun bt221=>((laws_eqGraph.f k bt215.1 bt215.2 bt221.1 bt221.2).bind fun t225=>(if t225 = true then (some true) else (some false)))) else (some false)))) = some r:=H
    have A8:=qn.mk A80
    clear A80
    replace H:=Option.bind_eq_some_iff.mp H
    obtain ⟨⟨t215,t216⟩,A90,H⟩:=H
    replace H : ((impl_CountMatches.f k t215 t216).bind fun t220=>(if t220 = t214 then ((laws_toGraph.f k a0_0 l0_1).bind fun bt221=>((laws_eqGraph.f k t215 t216 bt221.1 bt221.2).bind fun t225=>(if t225 = true then (some true) else (some false)))) else (some false))) = some r:=H
    have A9:=qn.mk A90
    clear A90
    replace H:=Option.bind_eq_some_iff.mp H
    obtain ⟨t220,A100,H⟩:=H
    replace H : (if t220 = t214 then ((laws_toGraph.f k a0_0 l0_1).bind fun bt221=>((laws_eqGraph.f k t215 t216 bt221.1 bt221.2).bind fun t225=>(if t225 = true then (some true) else (some false)))) else (some false)) = some r:=H
    have A10:=qn.mk A100
    clear A100
    by_cases c11 : t220 = t214
    · rw [if_pos c11] at H
      have c11b0 : (t220 == t214) = true:=beq_iff_eq.mpr c11
      have c11b1 : (t220 != t214) = false:=bne_eq_false_iff_eq.mpr c11
      clear c11
      replace H:=Option.bind_eq_some_iff.mp H
      obtain ⟨⟨t221,t222⟩,A120,H⟩:=H
      replace H : ((laws_eqGraph.f k t215 t216 t221 t222).bind fun t225=>(if t225 = true then (some true) else (some false))) = some r:=H
      have A12:=qn.mk A120
      clear A120
      replace H:=Option.bind_eq_some_iff.mp H
      obtain ⟨t225,A130,H⟩:=H
      replace H : (if t225 = true then (some true) else (some false)) = some r:=H
      have A13:=qn.mk A130
      clear A130
      by_cases c14 : t225 = true
      · subst c14
        have H1 : (some true) = some r:=by rw [if_pos rfl] at H;exact H
        clear H
        have H:=H1
        clear H1
        obtain rfl:=Option.some.inj H
        go_enter Try.func7,Try.ntmps7
        try go_wp2_with (first|((with_reducible refine gate_dst (N:=1) rfl ?_);refine box_event ?hg (N:=1) ?hd (cs:=#[.int .i64 a0_0,.slice A0_1 l0_1.length c0_1]) (t:=65) ?hr ?_;(case hd=>rfl);(case hg=>rfl);(case hr=>first|(go_simp;done)|(go_simp;rfl));intro gb208 hg w15 hbox hb;have n0_:=hs_ HB hb;have n1_:=qn.mk (hbox);have n2_:=qn.mk ((by rw [hg];exact (qj (by repeat (first|(with_reducible first|exact HB.out|apply qf|apply qa|apply qd)|exact HB.out))) : w.heap.size ≤ gb208));have n3_:=qn.mk ((by rw [hg];exact (qj (by repeat (first|(with_reducible first|exact HB.out|apply qf|apply qa|apply qd)|exact HB.out))) : w.heap.size ≤ gb208));clear HB;have HB:=n0_;have BK208:=n1_;have GW208:=n2_;have GE208:=n3_;clear n0_ n1_ n2_ n3_;clear hb hbox hg;have hcz16_0 : w15.cell? ⟨gb208,0,none⟩ = some (.int .i64 a0_0):=(qh BK208.out 0).trans rfl;have hcz16_1 : w15.cell? ⟨gb208,1,none⟩ = some (.slice A0_1 l0_1.length c0_1):=(qh BK208.out 1).trans rfl;have hfz16_0:=qi BK208.out 0;have hfz16_1:=qi BK208.out 1)|((with_reducible refine gate_callee (f:=33) rfl ?_);refine goesL_ (some 9) rfl rfl Try.func33 (by kernel_rfl) rfl #[.agg #[.int .i64 a0_0,.slice A0_1 l0_1.length c0_1],.int .i64 1048576] rfl (by (try simp only [List.map_toArray,List.map_cons,List.map_nil]);first|done|rfl|(simp only [List.length_drop,List.length_take];rfl)) ?_;(with_reducible refine (laws_szGraph.calls a0_0 _ _ l0_1 1048576 t209 _ ?side1 ?side2 A2.out).mono ?_);(case side1=>repeat (first|exact (Kd.C_below HR0_1.out HB.out)|(with_reducible refine Kd.C_alloc ?_ _)|(with_reducible refine Kd.C_drewN ?_ _)|(with_reducible refine Kd.C_drew ?_)));(case side2=>exact HC0_1.out);rintro e w17 ⟨rfl,hb⟩;refine ⟨_,rfl,?_⟩;have n0_:=bb_ BK208 hb;have n1_:=hs_ HB hb;clear BK208;clear HB;have BK208:=n0_;have HB:=n1_;clear n0_ n1_;(try clear hb);(try clear hb2);(try clear hk);(try clear hi);have hcz18_0 : w17.cell? ⟨gb208,0,none⟩ = some (.int .i64 a0_0):=(qh BK208.out 0).trans rfl;have hcz18_1 : w17.cell? ⟨gb208,1,none⟩ = some (.slice A0_1 l0_1.length c0_1):=(qh BK208.out 1).trans rfl;have hfz18_0:=qi BK208.out 0;have hfz18_1:=qi BK208.out 1)|((with_reducible refine gate_callee (f:=35) rfl ?_);refine goesL_ (some 13) rfl rfl Try.func35 (by kernel_rfl) rfl #[.agg #[.int .i64 a0_0,.slice A0_1 l0_1.length c0_1]] rfl (by (try simp only [List.map_toArray,List.map_cons,List.map_nil]);first|done|rfl|(simp only [List.length_drop,List.length_take];rfl)) ?_;(with_reducible refine (laws_toGraph.calls k a0_0 _ _ l0_1 t210 t211 _ ?side1 ?side2 A7.out).mono ?_);(case side1=>repeat (first|exact (Kd.C_below HR0_1.out HB.out)|(with_reducible refine Kd.C_alloc ?_ _)|(with_reducible refine Kd.C_drewN ?_ _)|(with_reducible refine Kd.C_drew ?_)));(case side2=>exact HC0_1.out);rintro e w19 ⟨v212,rfl,ho0,hb⟩;refine ⟨_,rfl,?_⟩;have n0_:=qn.mk (Kd.R_lower ho0 (qj (by repeat (first|(with_reducible first|exact HB.out|apply qf|apply qa|apply qd|refine qg ?_ GE208.out)|exact HB.out))));have n1_:=bb_ BK208 hb;have n2_:=hs_ HB hb;clear BK208;clear HB;have HO213:=n0_;have BK208:=n1_;have HB:=n2_;clear n0_ n1_ n2_;(try clear hb);(try clear hb2);(try clear hk);(try clear hi);(try clear ho0);obtain ⟨Ao20,co20,eo20⟩:=Kd.R_slice HO213.out;subst eo20)|((with_reducible refine gate_callee (f:=34) rfl ?_);refine goesL_ (some 14) rfl rfl Try.func34 (by kernel_rfl) rfl #[.agg #[.int .i64 t210,.slice Ao20 t211.length co20]] rfl (by (try simp only [List.map_toArray,List.map_cons,List.map_nil]);first|done|rfl|(simp only [List.length_drop,List.length_take];rfl)) ?_;(with_reducible refine (spec_CountMatches.calls k t210 _ _ t211 t214 _ ?side1 ?side2 A8.out).mono ?_);(case side1=>repeat (first|exact (Kd.R_reads' HO213.out).2.2|(with_reducible refine Kd.C_alloc ?_ _)|(with_reducible refine Kd.C_drewN ?_ _)|(with_reducible refine Kd.C_drew ?_)));(case side2=>exact (Kd.R_reads' HO213.out).2.1);rintro e w21 ⟨rfl,hb⟩;refine ⟨_,rfl,?_⟩;have n0_:=rb_ HO213 hb;have n1_:=bb_ BK208 hb;have n2_:=hs_ HB hb;clear HO213;clear BK208;clear HB;have HO213:=n0_;have BK208:=n1_;have HB:=n2_;clear n0_ n1_ n2_;(try clear hb);(try clear hb2);(try clear hk);(try clear hi);have hcz22_0 : w21.cell? ⟨gb208,0,none⟩ = some (.int .i64 a0_0):=(qh BK208.out 0).trans rfl;have hcz22_1 : w21.cell? ⟨gb208,1,none⟩ = some (.slice A0_1 l0_1.length c0_1):=(qh BK208.out 1).trans rfl;have hfz22_0:=qi BK208.out 0;have hfz22_1:=qi BK208.out 1)|((with_reducible refine gate_callee (f:=35) rfl ?_);refine goesL_ (some 16) rfl rfl Try.func35 (by kernel_rfl) rfl #[.agg #[.int .i64 a0_0,.slice A0_1 l0_1.length c0_1]] rfl (by (try simp only [List.map_toArray,List.map_cons,List.map_nil]);first|done|rfl|(simp only [List.length_drop,List.length_take];rfl)) ?_;(with_reducible refine (laws_toGraph.calls k a0_0 _ _ l0_1 t215 t216 _ ?side1 ?side2 A9.out).mono ?_);(case side1=>repeat (first|exact (Kd.C_below HR0_1.out HB.out)|(with_reducible refine Kd.C_alloc ?_ _)|(with_reducible refine Kd.C_drewN ?_ _)|(with_reducible refine Kd.C_drew ?_)));(case side2=>exact HC0_1.out);rintro e w23 ⟨v217,rfl,ho0,hb⟩;refine ⟨_,rfl,?_⟩;have n0_:=qn.mk (Kd.R_elder' (by (with_reducible repeat (first|apply Kd.R_alloc|apply Kd.R_drewN|apply Kd.R_drew));exact HO213.out) (Kd.R_base ho0) hb);have n1_:=qn.mk (Kd.R_lower (Kd.R_new' ho0 (Kd.R_lt (by (with_reducible repeat (first|apply Kd.R_alloc|apply Kd.R_drewN|apply Kd.R_drew));exact HO213.out))) (qj (by repeat (first|(with_reducible first|exact HB.out|apply qf|apply qa|apply qd|refine qg ?_ GE208.out)|exact HB.out))));have n2_:=bb_ BK208 hb;have n3_:=hs_ HB hb;clear HO213;clear BK208;clear HB;have HO213:=n0_;have HO218:=n1_;have BK208:=n2_;have HB:=n3_;clear n0_ n1_ n2_ n3_;(try clear hb);(try clear hb2);(try clear hk);(try clear hi);(try clear ho0))|((with_reducible refine gate_dst (N:=5) rfl ?_);refine box_event ?hg (N:=5) ?hd (cs:=#[.int .i64 0,.slice none 0 0]) (t:=26) ?hr ?_;(case hd=>rfl);(case hg=>rfl);(case hr=>first|(go_simp;done)|(go_simp;rfl));intro gb219 hg w24 hbox hb;have n0_:=rb_ HO213 hb;have n1_:=rb_ HO218 hb;have n2_:=bb_ BK208 hb;have n3_:=hs_ HB hb;have n4_:=qn.mk (hbox);have n5_:=qn.mk ((by rw [hg];exact (qj (by repeat (first|(with_reducible first|exact HB.out|apply qf|apply qa|apply qd|refine qg ?_ GE208.out)|exact HB.out))) : w.heap.size ≤ gb219));have n6_:=qn.mk ((by rw [hg];exact (qj (by repeat (first|(with_reducible first|exact HB.out|apply qf|apply qa|apply qd|refine qg ?_ GE208.out)|exact HB.out))) : w.heap.size ≤ gb219));have n7_:=qn.mk ((by rw [hg];exact nl_ BK208 : gb208 ≠ gb219));have n8_:=qn.mk ((by rw [hg];exact ng_ BK208 : gb219 ≠ gb208));clear HO213;clear HO218;clear BK208;clear HB;have HO213:=n0_;have HO218:=n1_;have BK208:=n2_;have HB:=n3_;have BK219:=n4_;have GW219:=n5_;have GE219:=n6_;have NB208_219:=n7_;have NB219_208:=n8_;clear n0_ n1_ n2_ n3_ n4_ n5_ n6_ n7_ n8_;clear hb hbox hg;have hnb25:=NB219_208.out;have hnc25:=NB208_219.out;have hcz26_0 : w24.cell? ⟨gb219,0,none⟩ = some (.int .i64 0):=(qh BK219.out 0).trans rfl;have hcz26_1 : w24.cell? ⟨gb219,1,none⟩ = some (.slice none 0 0):=(qh BK219.out 1).trans rfl;have hfz26_0:=qi BK219.out 0;have hfz26_1:=qi BK219.out 1;obtain ⟨Ao27,co27,eo27⟩:=Kd.R_slice HO218.out;subst eo27)|((with_reducible refine gate_callee (f:=36) rfl ?_);refine goesL_ (some 18) rfl rfl Try.func36 (by kernel_rfl) rfl #[.agg #[.int .i64 t215,.slice Ao27 t216.length co27]] rfl (by (try simp only [List.map_toArray,List.map_cons,List.map_nil]);first|done|rfl|(simp only [List.length_drop,List.length_take];rfl)) ?_;(with_reducible refine (impl_CountMatches.calls k t215 _ _ t216 t220 _ ?side1 ?side2 A10.out).mono ?_);(case side1=>refine (Kd.R_reads' (e:=36) (base:=w.heap.size) (ok:=fun k_=>(True ∧ some k_ ≠ (.slice Ao20 t211.length co20 : Value).ownBlock)) (n:=t216.length) (c:=co27) ?_).2.2;exact (by (with_reducible repeat (first|apply Kd.R_alloc|apply Kd.R_drewN|apply Kd.R_drew));exact (Kd.R_mono (Kd.R_far (p:=⟨gb219,1,none⟩) (Kd.R_far (p:=⟨gb219,0,none⟩) (Kd.R_types HO218.out BK219.out (by decide)) (fun _ hk=>hk.2) (.int .i64 t215)) (fun _ hk=>hk.2) (.slice Ao27 t216.length co27)) (fun _ h_=>h_.1))));(case side2=>exact (Kd.R_reads' HO218.out).2.1);rintro e w28 ⟨rfl,hb⟩;refine ⟨_,rfl,?_⟩;have n0_:=qn.mk (Kd.R_below (by (with_reducible repeat (first|apply Kd.R_alloc|apply Kd.R_drewN|apply Kd.R_drew));exact (Kd.R_mono (Kd.R_far (p:=⟨gb219,1,none⟩) (Kd.R_far (p:=⟨gb219,0,none⟩) (Kd.R_types HO213.out BK219.out (by decide)) (fun _ hk=>hk.2) (.int .i64 t215)) (fun _ hk=>hk.2) (.slice Ao27 t216.length co27)) (fun _ h_=>h_.1))) hb);have n1_:=qn.mk (Kd.R_below (by (with_reducible repeat (first|apply Kd.R_alloc|apply Kd.R_drewN|apply Kd.R_drew));exact (Kd.R_mono (Kd.R_far (p:=⟨gb219,1,none⟩) (Kd.R_far (p:=⟨gb219,0,none⟩) (Kd.R_types HO218.out BK219.out (by decide)) (fun _ hk=>hk.2) (.int .i64 t215)) (fun _ hk=>hk.2) (.slice Ao27 t216.length co27)) (fun _ h_=>h_.1))) hb);have n2_:=qn.mk (ql (g:=gb208) (o:=.cells #[.int .i64 a0_0,.slice A0_1 l0_1.length c0_1] 65 (0,0)) (by (with_reducible repeat (first|refine qb ?_ _|refine qe ?_|refine qc ?_ _));refine blk_far ?_ NB208_219.out _;(with_reducible repeat (first|refine qb ?_ _|refine qe ?_|refine qc ?_ _));refine blk_far ?_ NB208_219.out _;(with_reducible repeat (first|refine qb ?_ _|refine qe ?_|refine qc ?_ _));exact BK208.out) hb);have n3_:=qn.mk (ql (g:=gb219) (o:=.cells #[.int .i64 t215,.slice Ao27 t216.length co27] 26 (0,0)) (by (with_reducible repeat (first|refine qb ?_ _|refine qe ?_|refine qc ?_ _));refine blk_put (cs:=#[.int .i64 t215,.slice none 0 0]) ?_ 1 _ rfl;(with_reducible repeat (first|refine qb ?_ _|refine qe ?_|refine qc ?_ _));refine blk_put (cs:=#[.int .i64 0,.slice none 0 0]) ?_ 0 _ rfl;(with_reducible repeat (first|refine qb ?_ _|refine qe ?_|refine qc ?_ _));exact BK219.out) hb);have n4_:=hs_ HB hb;clear HO213;clear HO218;clear BK208;clear BK219;clear HB;have HO213:=n0_;have HO218:=n1_;have BK208:=n2_;have BK219:=n3_;have HB:=n4_;clear n0_ n1_ n2_ n3_ n4_;(try clear hb);(try clear hb2);(try clear hk);(try clear hi)))
        have n0_:=qn.mk (Kd.R_drew HO213.out)
        have n1_:=qn.mk (Kd.R_drew HO218.out)
        have n2_:=qn.mk (qe BK208.out)
        have n3_:=qn.mk (qe BK219.out)
        have n4_:=qn.mk (qd HB.out)
        clear HO213
        clear HO218
        clear BK208
        clear BK219
        clear HB
        have HO213:=n0_
        have HO218:=n1_
        have BK208:=n2_
        have BK219:=n3_
        have HB:=n4_
        clear n0_ n1_ n2_ n3_ n4_
        refine start_ (n:=5) (S:=fun w'=>w'.cell? ⟨gb219,0,none⟩ = some (.int .i64 t215) ∧ w'.cell? ⟨gb219,1,none⟩ = some (.slice Ao27 t216.length co27) ∧ w'.cell? ⟨gb208,0,none⟩ = some (.int .i64 a0_0) ∧ w'.cell? ⟨gb208,1,none⟩ = some (.slice A0_1 l0_1.length c0_1)) (ds:=[]) #[false,false,false,false,false] (by kernel_rfl) rfl rfl ⟨(qh BK219.out 0).trans rfl,(qh BK219.out 1).trans rfl,(qh BK208.out 0).trans rfl,(qh BK208.out 1).trans rfl⟩ (fun hHeld=>?_)
        generalize w28.drew = w29 at HO213 HO218 BK208 BK219 HB hHeld ⊢
        refine take_ (i:=0) (N:=some 22) (v:=?_) (a':=?_) #[true,false,false,false,false] rfl rfl (by kernel_rfl) (fun _ _ _ h=>h) (Or.inl ⟨by rfl,?_⟩) hHeld ?_ ?_
        rotate_left
        · rintro w' ⟨s0,s1,s2,s3⟩
          go_simp
          with_reducible rfl
        rotate_left
        · simp only [Act.put,List.setIfInBounds_toArray,List.set_cons_zero,List.set_cons_succ,i64_w,i32_w]
          rfl
        refine take_ (i:=1) (N:=some 23) (v:=?_) (a':=?_) #[true,true,false,false,false] rfl rfl (by kernel_rfl) (fun _ _ _ h=>h) (Or.inl ⟨by rfl,?_⟩) hHeld ?_ ?_
        rotate_left
        · rintro w' ⟨s0,s1,s2,s3⟩
          go_simp
          with_reducible rfl
        rotate_left
        · simp only [Act.put,List.setIfInBounds_toArray,List.set_cons_zero,List.set_cons_succ,i64_w,i32_w]
          rfl
        refine one_ (i:=2) (N:=some 24) #[true,true,true,false,false] rfl rfl (by kernel_rfl) (by decide) (fun K hK=>?_)
        refine goes_ Try.func35 (by kernel_rfl) rfl #[.agg #[.int .i64 a0_0,.slice A0_1 l0_1.length c0_1]] (by rfl) rfl rfl (by (try simp only [List.map_toArray,List.map_cons,List.map_nil]);first|done|rfl|(simp only [List.length_drop,List.length_take];rfl)) ?_
        with_reducible refine (laws_toGraph.calls k a0_0 _ _ l0_1 t221 t222 _ ?side1 ?side2 A12.out).mono ?_
        (case side1=>repeat (first|exact (Kd.C_below HR0_1.out HB.out)|(with_reducible refine Kd.C_alloc ?_ _)|(with_reducible refine Kd.C_drewN ?_ _)|(with_reducible refine Kd.C_drew ?_)))
        (case side2=>exact HC0_1.out)
        rintro e w30 ⟨v223,rfl,ho0,hb⟩
        refine ⟨_,rfl,?_⟩
        have n0_:=qn.mk (Kd.R_elder' (by (with_reducible repeat (first|apply Kd.R_alloc|apply Kd.R_drewN|apply Kd.R_drew));exact HO213.out) (Kd.R_base ho0) hb)
        have n1_:=qn.mk (Kd.R_elder' (by (with_reducible repeat (first|apply Kd.R_alloc|apply Kd.R_drewN|apply Kd.R_drew));exact HO218.out) (Kd.R_base ho0) hb)
        have n2_:=qn.mk (Kd.R_lower (Kd.R_new' (Kd.R_new' ho0 (Kd.R_lt (by (with_reducible repeat (first|apply Kd.R_alloc|apply Kd.R_drewN|apply Kd.R_drew));exact HO213.out))) (Kd.R_lt (by (with_reducible repeat (first|apply Kd.R_alloc|apply Kd.R_drewN|apply Kd.R_drew));exact HO218.out))) (qj (by repeat (first|(with_reducible first|exact HB.out|apply qf|apply qa|apply qd|refine qg ?_ GE208.out|refine qg ?_ GE219.out)|exact HB.out))))
        have n3_:=bb_ BK208 hb
        have n4_:=bb_ BK219 hb
        have n5_:=hs_ HB hb
        clear HO213
        clear HO218
        clear BK208
        clear BK219
        clear HB
        have HO213:=n0_
        have HO218:=n1_
        have HO224:=n2_
        have BK208:=n3_
        have BK219:=n4_
        have HB:=n5_
        clear n0_ n1_ n2_ n3_ n4_ n5_
        (try clear hb)
        (try clear hb2)
        (try clear hk)
        (try clear hi)
        (try clear ho0)
        obtain ⟨Ao31,co31,eo31⟩:=Kd.R_slice HO224.out
        (first|subst eo31|(injection eo31 with f1_ f2_ f3_;have f4_:=f1_.symm;have f5_:=f3_.symm;clear f1_ f2_ f3_;subst f4_;subst f5_))
        refine hK.out _ _ ⟨(qh BK219.out 0).trans rfl,(qh BK219.out 1).trans rfl,(qh BK208.out 0).trans rfl,(qh BK208.out 1).trans rfl⟩ (fun hHeld=>?_)
        clear hK K
        refine norm_ (a':=?_) ?_ ?_
        rotate_left
        · show Act.put _ (some 24) _ = _
          simp only [Act.put,List.setIfInBounds_toArray,List.set_cons_zero,List.set_cons_succ,i64_w,i32_w]
          rfl
        refine one_ (i:=3) (N:=some 25) #[true,true,true,true,false] rfl rfl (by kernel_rfl) (by decide) (fun K hK=>?_)
        refine goes_ Try.func37 (by kernel_rfl) rfl #[.agg #[.int .i64 t215,.slice Ao27 t216.length co27],.agg #[.int .i64 t221,.slice Ao31 t222.length co31]] (by rfl) rfl rfl (by (try simp only [List.map_toArray,List.map_cons,List.map_nil]);first|done|rfl|(simp only [List.length_drop,List.length_take];rfl)) ?_
        with_reducible refine (laws_eqGraph.calls k t215 _ _ t216 t221 _ _ t222 true _ ?side1 ?side2 ?side3 ?side4 A13.out).mono ?_
        (case side1=>repeat (first|exact (Kd.R_reads' HO218.out).2.2|(with_reducible refine Kd.C_alloc ?_ _)|(with_reducible refine Kd.C_drewN ?_ _)|(with_reducible refine Kd.C_drew ?_)))
        (case side2=>exact (Kd.R_reads' HO218.out).2.1)
        (case side3=>repeat (first|exact (Kd.R_reads' HO224.out).2.2|(with_reducible refine Kd.C_alloc ?_ _)|(with_reducible refine Kd.C_drewN ?_ _)|(with_reducible refine Kd.C_drew ?_)))
        (case side4=>exact (Kd.R_reads' HO224.out).2.1)
        rintro e w32 ⟨rfl,hb⟩
        refine ⟨_,rfl,?_⟩
        have n0_:=rb_ HO213 hb
        have n1_:=rb_ HO218 hb
        have n2_:=rb_ HO224 hb
        have n3_:=bb_ BK208 hb
        have n4_:=bb_ BK219 hb
        have n5_:=hs_ HB hb
        clear HO213
        clear HO218
        clear HO224
        clear BK208
        clear BK219
        clear HB
        have HO213:=n0_
        have HO218:=n1_
        have HO224:=n2_
        have BK208:=n3_
        have BK219:=n4_
        have HB:=n5_
        clear n0_ n1_ n2_ n3_ n4_ n5_
        (try clear hb)
        (try clear hb2)
        (try clear hk)
        (try clear hi)
        refine hK.out _ _ ⟨(qh BK219.out 0).trans rfl,(qh BK219.out 1).trans rfl,(qh BK208.out 0).trans rfl,(qh BK208.out 1).trans rfl⟩ (fun hHeld=>?_)
        clear hK K
        refine norm_ (a':=?_) ?_ ?_
        rotate_left
        · show Act.put _ (some 25) _ = _
          simp only [Act.put,List.setIfInBounds_toArray,List.set_cons_zero,List.set_cons_succ,i64_w,i32_w]
          rfl
        refine pure_ (i:=4) (N:=some 26) (v:=?_) (a':=?_) #[true,true,true,true,true] rfl rfl (by kernel_rfl) (fun _ _ _ h=>h) (Or.inl ⟨by rfl,?_⟩) ?_ ?_
        rotate_left
        · intro w'
          go_simp
          with_reducible rfl
        rotate_left
        · simp only [Act.put,List.setIfInBounds_toArray,List.set_cons_zero,List.set_cons_succ,i64_w,i32_w]
          rfl
        refine done_ (by kernel_rfl) ?_
        try go_wp2
        go_ret
        exact ⟨by first|rfl|(simp [errW_none,errW_some] <;> rfl)|(simp [*,errW_none,errW_some] <;> rfl),by repeat (first|(with_reducible first|exact HB.out|apply qf|apply qa|apply qd|refine qg ?_ GE208.out|refine qg ?_ GE219.out)|exact HB.out)⟩
      · replace c14:=Bool.eq_false_iff.mpr c14
        subst c14
        have H1 : (some false) = some r:=by rw [if_neg (show ¬ (false = true) by decide)] at H;exact H
        clear H
        have H:=H1
        clear H1
        obtain rfl:=Option.some.inj H
        go_enter Try.func7,Try.ntmps7
        try go_wp2_with (first|((with_reducible refine gate_dst (N:=1) rfl ?_);refine box_event ?hg (N:=1) ?hd (cs:=#[.int .i64 a0_0,.slice A0_1 l0_1.length c0_1]) (t:=65) ?hr ?_;(case hd=>rfl);(case hg=>rfl);(case hr=>first|(go_simp;done)|(go_simp;rfl));intro gb208 hg w33 hbox hb;have n0_:=hs_ HB hb;have n1_:=qn.mk (hbox);have n2_:=qn.mk ((by rw [hg];exact (qj (by repeat (first|(with_reducible first|exact HB.out|apply qf|apply qa|apply qd)|exact HB.out))) : w.heap.size ≤ gb208));have n3_:=qn.mk ((by rw [hg];exact (qj (by repeat (first|(with_reducible first|exact HB.out|apply qf|apply qa|apply qd)|exact HB.out))) : w.heap.size ≤ gb208));clear HB;have HB:=n0_;have BK208:=n1_;have GW208:=n2_;have GE208:=n3_;clear n0_ n1_ n2_ n3_;clear hb hbox hg;have hcz34_0 : w33.cell? ⟨gb208,0,none⟩ = some (.int .i64 a0_0):=(qh BK208.out 0).trans rfl;have hcz34_1 : w33.cell? ⟨gb208,1,none⟩ = some (.slice A0_1 l0_1.length c0_1):=(qh BK208.out 1).trans rfl;have hfz34_0:=qi BK208.out 0;have hfz34_1:=qi BK208.out 1)|((with_reducible refine gate_callee (f:=33) rfl ?_);refine goesL_ (some 9) rfl rfl Try.func33 (by kernel_rfl) rfl #[.agg #[.int .i64 a0_0,.slice A0_1 l0_1.length c0_1],.int .i64 1048576] rfl (by (try simp only [List.map_toArray,List.map_cons,List.map_nil]);first|done|rfl|(simp only [List.length_drop,List.length_take];rfl)) ?_;(with_reducible refine (laws_szGraph.calls a0_0 _ _ l0_1 1048576 t209 _ ?side1 ?side2 A2.out).mono ?_);(case side1=>repeat (first|exact (Kd.C_below HR0_1.out HB.out)|(with_reducible refine Kd.C_alloc ?_ _)|(with_reducible refine Kd.C_drewN ?_ _)|(with_reducible refine Kd.C_drew ?_)));(case side2=>exact HC0_1.out);rintro e w35 ⟨rfl,hb⟩;refine ⟨_,rfl,?_⟩;have n0_:=bb_ BK208 hb;have n1_:=hs_ HB hb;clear BK208;clear HB;have BK208:=n0_;have HB:=n1_;clear n0_ n1_;(try clear hb);(try clear hb2);(try clear hk);(try clear hi);have hcz36_0 : w35.cell? ⟨gb208,0,none⟩ = some (.int .i64 a0_0):=(qh BK208.out 0).trans rfl;have hcz36_1 : w35.cell? ⟨gb208,1,none⟩ = some (.slice A0_1 l0_1.length c0_1):=(qh BK208.out 1).trans rfl;have hfz36_0:=qi BK208.out 0;have hfz36_1:=qi BK208.out 1)|((with_reducible refine gate_callee (f:=35) rfl ?_);refine goesL_ (some 13) rfl rfl Try.func35 (by kernel_rfl) rfl #[.agg #[.int .i64 a0_0,.slice A0_1 l0_1.length c0_1]] rfl (by (try simp only [List.map_toArray,List.map_cons,List.map_nil]);first|done|rfl|(simp only [List.length_drop,List.length_take];rfl)) ?_;(with_reducible refine (laws_toGraph.calls k a0_0 _ _ l0_1 t210 t211 _ ?side1 ?side2 A7.out).mono ?_);(case side1=>repeat (first|exact (Kd.C_below HR0_1.out HB.out)|(with_reducible refine Kd.C_alloc ?_ _)|(with_reducible refine Kd.C_drewN ?_ _)|(with_reducible refine Kd.C_drew ?_)));(case side2=>exact HC0_1.out);rintro e w37 ⟨v212,rfl,ho0,hb⟩;refine ⟨_,rfl,?_⟩;have n0_:=qn.mk (Kd.R_lower ho0 (qj (by repeat (first|(with_reducible first|exact HB.out|apply qf|apply qa|apply qd|refine qg ?_ GE208.out)|exact HB.out))));have n1_:=bb_ BK208 hb;have n2_:=hs_ HB hb;clear BK208;clear HB;have HO213:=n0_;have BK208:=n1_;have HB:=n2_;clear n0_ n1_ n2_;(try clear hb);(try clear hb2);(try clear hk);(try clear hi);(try clear ho0);obtain ⟨Ao38,co38,eo38⟩:=Kd.R_slice HO213.out;subst eo38)|((with_reducible refine gate_callee (f:=34) rfl ?_);refine goesL_ (some 14) rfl rfl Try.func34 (by kernel_rfl) rfl #[.agg #[.int .i64 t210,.slice Ao38 t211.length co38]] rfl (by (try simp only [List.map_toArray,List.map_cons,List.map_nil]);first|done|rfl|(simp only [List.length_drop,List.length_take];rfl)) ?_;(with_reducible refine (spec_CountMatches.calls k t210 _ _ t211 t214 _ ?side1 ?side2 A8.out).mono ?_);(case side1=>repeat (first|exact (Kd.R_reads' HO213.out).2.2|(with_reducible refine Kd.C_alloc ?_ _)|(with_reducible refine Kd.C_drewN ?_ _)|(with_reducible refine Kd.C_drew ?_)));(case side2=>exact (Kd.R_reads' HO213.out).2.1);rintro e w39 ⟨rfl,hb⟩;refine ⟨_,rfl,?_⟩;have n0_:=rb_ HO213 hb;have n1_:=bb_ BK208 hb;have n2_:=hs_ HB hb;clear HO213;clear BK208;clear HB;have HO213:=n0_;have BK208:=n1_;have HB:=n2_;clear n0_ n1_ n2_;(try clear hb);(try clear hb2);(try clear hk);(try clear hi);have hcz40_0 : w39.cell? ⟨gb208,0,none⟩ = some (.int .i64 a0_0):=(qh BK208.out 0).trans rfl;have hcz40_1 : w39.cell? ⟨gb208,1,none⟩ = some (.slice A0_1 l0_1.length c0_1):=(qh BK208.out 1).trans rfl;have hfz40_0:=qi BK208.out 0;have hfz40_1:=qi BK208.out 1)|((with_reducible refine gate_callee (f:=35) rfl ?_);refine goesL_ (some 16) rfl rfl Try.func35 (by kernel_rfl) rfl #[.agg #[.int .i64 a0_0,.slice A0_1 l0_1.length c0_1]] rfl (by (try simp only [List.map_toArray,List.map_cons,List.map_nil]);first|done|rfl|(simp only [List.length_drop,List.length_take];rfl)) ?_;(with_reducible refine (laws_toGraph.calls k a0_0 _ _ l0_1 t215 t216 _ ?side1 ?side2 A9.out).mono ?_);(case side1=>repeat (first|exact (Kd.C_below HR0_1.out HB.out)|(with_reducible refine Kd.C_alloc ?_ _)|(with_reducible refine Kd.C_drewN ?_ _)|(with_reducible refine Kd.C_drew ?_)));(case side2=>exact HC0_1.out);rintro e w41 ⟨v217,rfl,ho0,hb⟩;refine ⟨_,rfl,?_⟩;have n0_:=qn.mk (Kd.R_elder' (by (with_reducible repeat (first|apply Kd.R_alloc|apply Kd.R_drewN|apply Kd.R_drew));exact HO213.out) (Kd.R_base ho0) hb);have n1_:=qn.mk (Kd.R_lower (Kd.R_new' ho0 (Kd.R_lt (by (with_reducible repeat (first|apply Kd.R_alloc|apply Kd.R_drewN|apply Kd.R_drew));exact HO213.out))) (qj (by repeat (first|(with_reducible first|exact HB.out|apply qf|apply qa|apply qd|refine qg ?_ GE208.out)|exact HB.out))));have n2_:=bb_ BK208 hb;have n3_:=hs_ HB hb;clear HO213;clear BK208;clear HB;have HO213:=n0_;have HO218:=n1_;have BK208:=n2_;have HB:=n3_;clear n0_ n1_ n2_ n3_;(try clear hb);(try clear hb2);(try clear hk);(try clear hi);(try clear ho0))|((with_reducible refine gate_dst (N:=5) rfl ?_);refine box_event ?hg (N:=5) ?hd (cs:=#[.int .i64 0,.slice none 0 0]) (t:=26) ?hr ?_;(case hd=>rfl);(case hg=>rfl);(case hr=>first|(go_simp;done)|(go_simp;rfl));intro gb219 hg w42 hbox hb;have n0_:=rb_ HO213 hb;have n1_:=rb_ HO218 hb;have n2_:=bb_ BK208 hb;have n3_:=hs_ HB hb;have n4_:=qn.mk (hbox);have n5_:=qn.mk ((by rw [hg];exact (qj (by repeat (first|(with_reducible first|exact HB.out|apply qf|apply qa|apply qd|refine qg ?_ GE208.out)|exact HB.out))) : w.heap.size ≤ gb219));have n6_:=qn.mk ((by rw [hg];exact (qj (by repeat (first|(with_reducible first|exact HB.out|apply qf|apply qa|apply qd|refine qg ?_ GE208.out)|exact HB.out))) : w.heap.size ≤ gb219));have n7_:=qn.mk ((by rw [hg];exact nl_ BK208 : gb208 ≠ gb219));have n8_:=qn.mk ((by rw [hg];exact ng_ BK208 : gb219 ≠ gb208));clear HO213;clear HO218;clear BK208;clear HB;have HO213:=n0_;have HO218:=n1_;have BK208:=n2_;have HB:=n3_;have BK219:=n4_;have GW219:=n5_;have GE219:=n6_;have NB208_219:=n7_;have NB219_208:=n8_;clear n0_ n1_ n2_ n3_ n4_ n5_ n6_ n7_ n8_;clear hb hbox hg;have hnb43:=NB219_208.out;have hnc43:=NB208_219.out;have hcz44_0 : w42.cell? ⟨gb219,0,none⟩ = some (.int .i64 0):=(qh BK219.out 0).trans rfl;have hcz44_1 : w42.cell? ⟨gb219,1,none⟩ = some (.slice none 0 0):=(qh BK219.out 1).trans rfl;have hfz44_0:=qi BK219.out 0;have hfz44_1:=qi BK219.out 1;obtain ⟨Ao45,co45,eo45⟩:=Kd.R_slice HO218.out;subst eo45)|((with_reducible refine gate_callee (f:=36) rfl ?_);refine goesL_ (some 18) rfl rfl Try.func36 (by kernel_rfl) rfl #[.agg #[.int .i64 t215,.slice Ao45 t216.length co45]] rfl (by (try simp only [List.map_toArray,List.map_cons,List.map_nil]);first|done|rfl|(simp only [List.length_drop,List.length_take];rfl)) ?_;(with_reducible refine (impl_CountMatches.calls k t215 _ _ t216 t220 _ ?side1 ?side2 A10.out).mono ?_);(case side1=>refine (Kd.R_reads' (e:=36) (base:=w.heap.size) (ok:=fun k_=>(True ∧ some k_ ≠ (.slice Ao38 t211.length co38 : Value).ownBlock)) (n:=t216.length) (c:=co45) ?_).2.2;exact (by (with_reducible repeat (first|apply Kd.R_alloc|apply Kd.R_drewN|apply Kd.R_drew));exact (Kd.R_mono (Kd.R_far (p:=⟨gb219,1,none⟩) (Kd.R_far (p:=⟨gb219,0,none⟩) (Kd.R_types HO218.out BK219.out (by decide)) (fun _ hk=>hk.2) (.int .i64 t215)) (fun _ hk=>hk.2) (.slice Ao45 t216.length co45)) (fun _ h_=>h_.1))));(case side2=>exact (Kd.R_reads' HO218.out).2.1);rintro e w46 ⟨rfl,hb⟩;refine ⟨_,rfl,?_⟩;have n0_:=qn.mk (Kd.R_below (by (with_reducible repeat (first|apply Kd.R_alloc|apply Kd.R_drewN|apply Kd.R_drew));exact (Kd.R_mono (Kd.R_far (p:=⟨gb219,1,none⟩) (Kd.R_far (p:=⟨gb219,0,none⟩) (Kd.R_types HO213.out BK219.out (by decide)) (fun _ hk=>hk.2) (.int .i64 t215)) (fun _ hk=>hk.2) (.slice Ao45 t216.length co45)) (fun _ h_=>h_.1))) hb);have n1_:=qn.mk (Kd.R_below (by (with_reducible repeat (first|apply Kd.R_alloc|apply Kd.R_drewN|apply Kd.R_drew));exact (Kd.R_mono (Kd.R_far (p:=⟨gb219,1,none⟩) (Kd.R_far (p:=⟨gb219,0,none⟩) (Kd.R_types HO218.out BK219.out (by decide)) (fun _ hk=>hk.2) (.int .i64 t215)) (fun _ hk=>hk.2) (.slice Ao45 t216.length co45)) (fun _ h_=>h_.1))) hb);have n2_:=qn.mk (ql (g:=gb208) (o:=.cells #[.int .i64 a0_0,.slice A0_1 l0_1.length c0_1] 65 (0,0)) (by (with_reducible repeat (first|refine qb ?_ _|refine qe ?_|refine qc ?_ _));refine blk_far ?_ NB208_219.out _;(with_reducible repeat (first|refine qb ?_ _|refine qe ?_|refine qc ?_ _));refine blk_far ?_ NB208_219.out _;(with_reducible repeat (first|refine qb ?_ _|refine qe ?_|refine qc ?_ _));exact BK208.out) hb);have n3_:=qn.mk (ql (g:=gb219) (o:=.cells #[.int .i64 t215,.slice Ao45 t216.length co45] 26 (0,0)) (by (with_reducible repeat (first|refine qb ?_ _|refine qe ?_|refine qc ?_ _));refine blk_put (cs:=#[.int .i64 t215,.slice none 0 0]) ?_ 1 _ rfl;(with_reducible repeat (first|refine qb ?_ _|refine qe ?_|refine qc ?_ _));refine blk_put (cs:=#[.int .i64 0,.slice none 0 0]) ?_ 0 _ rfl;(with_reducible repeat (first|refine qb ?_ _|refine qe ?_|refine qc ?_ _));exact BK219.out) hb);have n4_:=hs_ HB hb;clear HO213;clear HO218;clear BK208;clear BK219;clear HB;have HO213:=n0_;have HO218:=n1_;have BK208:=n2_;have BK219:=n3_;have HB:=n4_;clear n0_ n1_ n2_ n3_ n4_;(try clear hb);(try clear hb2);(try clear hk);(try clear hi)))
        have n0_:=qn.mk (Kd.R_drew HO213.out)
        have n1_:=qn.mk (Kd.R_drew HO218.out)
        have n2_:=qn.mk (qe BK208.out)
        have n3_:=qn.mk (qe BK219.out)
        have n4_:=qn.mk (qd HB.out)
        clear HO213
        clear HO218
        clear BK208
        clear BK219
        clear HB
        have HO213:=n0_
        have HO218:=n1_
        have BK208:=n2_
        have BK219:=n3_
        have HB:=n4_
        clear n0_ n1_ n2_ n3_ n4_
        refine start_ (n:=5) (S:=fun w'=>w'.cell? ⟨gb219,0,none⟩ = some (.int .i64 t215) ∧ w'.cell? ⟨gb219,1,none⟩ = some (.slice Ao45 t216.length co45) ∧ w'.cell? ⟨gb208,0,none⟩ = some (.int .i64 a0_0) ∧ w'.cell? ⟨gb208,1,none⟩ = some (.slice A0_1 l0_1.length c0_1)) (ds:=[]) #[false,false,false,false,false] (by kernel_rfl) rfl rfl ⟨(qh BK219.out 0).trans rfl,(qh BK219.out 1).trans rfl,(qh BK208.out 0).trans rfl,(qh BK208.out 1).trans rfl⟩ (fun hHeld=>?_)
        generalize w46.drew = w47 at HO213 HO218 BK208 BK219 HB hHeld ⊢
        refine take_ (i:=0) (N:=some 22) (v:=?_) (a':=?_) #[true,false,false,false,false] rfl rfl (by kernel_rfl) (fun _ _ _ h=>h) (Or.inl ⟨by rfl,?_⟩) hHeld ?_ ?_
        rotate_left
        · rintro w' ⟨s0,s1,s2,s3⟩
          go_simp
          with_reducible rfl
        rotate_left
        · simp only [Act.put,List.setIfInBounds_toArray,List.set_cons_zero,List.set_cons_succ,i64_w,i32_w]
          rfl
        refine take_ (i:=1) (N:=some 23) (v:=?_) (a':=?_) #[true,true,false,false,false] rfl rfl (by kernel_rfl) (fun _ _ _ h=>h) (Or.inl ⟨by rfl,?_⟩) hHeld ?_ ?_
        rotate_left
        · rintro w' ⟨s0,s1,s2,s3⟩
          go_simp
          with_reducible rfl
        rotate_left
        · simp only [Act.put,List.setIfInBounds_toArray,List.set_cons_zero,List.set_cons_succ,i64_w,i32_w]
          rfl
        refine one_ (i:=2) (N:=some 24) #[true,true,true,false,false] rfl rfl (by kernel_rfl) (by decide) (fun K hK=>?_)
        refine goes_ Try.func35 (by kernel_rfl) rfl #[.agg #[.int .i64 a0_0,.slice A0_1 l0_1.length c0_1]] (by rfl) rfl rfl (by (try simp only [List.map_toArray,List.map_cons,List.map_nil]);first|done|rfl|(simp only [List.length_drop,List.length_take];rfl)) ?_
        with_reducible refine (laws_toGraph.calls k a0_0 _ _ l0_1 t221 t222 _ ?side1 ?side2 A12.out).mono ?_
        (case side1=>repeat (first|exact (Kd.C_below HR0_1.out HB.out)|(with_reducible refine Kd.C_alloc ?_ _)|(with_reducible refine Kd.C_drewN ?_ _)|(with_reducible refine Kd.C_drew ?_)))
        (case side2=>exact HC0_1.out)
        rintro e w48 ⟨v223,rfl,ho0,hb⟩
        refine ⟨_,rfl,?_⟩
        have n0_:=qn.mk (Kd.R_elder' (by (with_reducible repeat (first|apply Kd.R_alloc|apply Kd.R_drewN|apply Kd.R_drew));exact HO213.out) (Kd.R_base ho0) hb)
        have n1_:=qn.mk (Kd.R_elder' (by (with_reducible repeat (first|apply Kd.R_alloc|apply Kd.R_drewN|apply Kd.R_drew));exact HO218.out) (Kd.R_base ho0) hb)
        have n2_:=qn.mk (Kd.R_lower (Kd.R_new' (Kd.R_new' ho0 (Kd.R_lt (by (with_reducible repeat (first|apply Kd.R_alloc|apply Kd.R_drewN|apply Kd.R_drew));exact HO213.out))) (Kd.R_lt (by (with_reducible repeat (first|apply Kd.R_alloc|apply Kd.R_drewN|apply Kd.R_drew));exact HO218.out))) (qj (by repeat (first|(with_reducible first|exact HB.out|apply qf|apply qa|apply qd|refine qg ?_ GE208.out|refine qg ?_ GE219.out)|exact HB.out))))
        have n3_:=bb_ BK208 hb
        have n4_:=bb_ BK219 hb
        have n5_:=hs_ HB hb
        clear HO213
        clear HO218
        clear BK208
        clear BK219
        clear HB
        have HO213:=n0_
        have HO218:=n1_
        have HO224:=n2_
        have BK208:=n3_
        have BK219:=n4_
        have HB:=n5_
        clear n0_ n1_ n2_ n3_ n4_ n5_
        (try clear hb)
        (try clear hb2)
        (try clear hk)
        (try clear hi)
        (try clear ho0)
        obtain ⟨Ao49,co49,eo49⟩:=Kd.R_slice HO224.out
        (first|subst eo49|(injection eo49 with f1_ f2_ f3_;have f4_:=f1_.symm;have f5_:=f3_.symm;clear f1_ f2_ f3_;subst f4_;subst f5_))
        refine hK.out _ _ ⟨(qh BK219.out 0).trans rfl,(qh BK219.out 1).trans rfl,(qh BK208.out 0).trans rfl,(qh BK208.out 1).trans rfl⟩ (fun hHeld=>?_)
        clear hK K
        refine norm_ (a':=?_) ?_ ?_
        rotate_left
        · show Act.put _ (some 24) _ = _
          simp only [Act.put,List.setIfInBounds_toArray,List.set_cons_zero,List.set_cons_succ,i64_w,i32_w]
          rfl
        refine one_ (i:=3) (N:=some 25) #[true,true,true,true,false] rfl rfl (by kernel_rfl) (by decide) (fun K hK=>?_)
        refine goes_ Try.func37 (by kernel_rfl) rfl #[.agg #[.int .i64 t215,.slice Ao45 t216.length co45],.agg #[.int .i64 t221,.slice Ao49 t222.length co49]] (by rfl) rfl rfl (by (try simp only [List.map_toArray,List.map_cons,List.map_nil]);first|done|rfl|(simp only [List.length_drop,List.length_take];rfl)) ?_
        with_reducible refine (laws_eqGraph.calls k t215 _ _ t216 t221 _ _ t222 false _ ?side1 ?side2 ?side3 ?side4 A13.out).mono ?_
        (case side1=>repeat (first|exact (Kd.R_reads' HO218.out).2.2|(with_reducible refine Kd.C_alloc ?_ _)|(with_reducible refine Kd.C_drewN ?_ _)|(with_reducible refine Kd.C_drew ?_)))
        (case side2=>exact (Kd.R_reads' HO218.out).2.1)
        (case side3=>repeat (first|exact (Kd.R_reads' HO224.out).2.2|(with_reducible refine Kd.C_alloc ?_ _)|(with_reducible refine Kd.C_drewN ?_ _)|(with_reducible refine Kd.C_drew ?_)))
        (case side4=>exact (Kd.R_reads' HO224.out).2.1)
        rintro e w50 ⟨rfl,hb⟩
        refine ⟨_,rfl,?_⟩
        have n0_:=rb_ HO213 hb
        have n1_:=rb_ HO218 hb
        have n2_:=rb_ HO224 hb
        have n3_:=bb_ BK208 hb
        have n4_:=bb_ BK219 hb
        have n5_:=hs_ HB hb
        clear HO213
        clear HO218
        clear HO224
        clear BK208
        clear BK219
        clear HB
        have HO213:=n0_
        have HO218:=n1_
        have HO224:=n2_
        have BK208:=n3_
        have BK219:=n4_
        have HB:=n5_
        clear n0_ n1_ n2_ n3_ n4_ n5_
        (try clear hb)
        (try clear hb2)
        (try clear hk)
        (try clear hi)
        refine hK.out _ _ ⟨(qh BK219.out 0).trans rfl,(qh BK219.out 1).trans rfl,(qh BK208.out 0).trans rfl,(qh BK208.out 1).trans rfl⟩ (fun hHeld=>?_)
        clear hK K
        refine norm_ (a':=?_) ?_ ?_
        rotate_left
        · show Act.put _ (some 25) _ = _
          simp only [Act.put,List.setIfInBounds_toArray,List.set_cons_zero,List.set_cons_succ,i64_w,i32_w]
          rfl
        refine pure_ (i:=4) (N:=some 26) (v:=?_) (a':=?_) #[true,true,true,true,true] rfl rfl (by kernel_rfl) (fun _ _ _ h=>h) (Or.inl ⟨by rfl,?_⟩) ?_ ?_
        rotate_left
        · intro w'
          go_simp
          with_reducible rfl
        rotate_left
        · simp only [Act.put,List.setIfInBounds_toArray,List.set_cons_zero,List.set_cons_succ,i64_w,i32_w]
          rfl
        refine done_ (by kernel_rfl) ?_
        try go_wp2
        go_ret
        exact ⟨by first|rfl|(simp [errW_none,errW_some] <;> rfl)|(simp [*,errW_none,errW_some] <;> rfl),by repeat (first|(with_reducible first|exact HB.out|apply qf|apply qa|apply qd|refine qg ?_ GE208.out|refine qg ?_ GE219.out)|exact HB.out)⟩
    · rw [if_neg c11] at H
      have c11b0 : (t220 == t214) = false:=beq_eq_false_iff_ne.mpr c11
      have c11b1 : (t220 != t214) = true:=bne_iff_ne.mpr c11
      obtain rfl:=Option.some.inj H
      go_enter Try.func7,Try.ntmps7
      go_wp2_with (first|((with_reducible refine gate_dst (N:=1) rfl ?_);refine box_event ?hg (N:=1) ?hd (cs:=#[.int .i64 a0_0,.slice A0_1 l0_1.length c0_1]) (t:=65) ?hr ?_;(case hd=>rfl);(case hg=>rfl);(case hr=>first|(go_simp;done)|(go_simp;rfl));intro gb208 hg w51 hbox hb;have n0_:=hs_ HB hb;have n1_:=qn.mk (hbox);have n2_:=qn.mk ((by rw [hg];exact (qj (by repeat (first|(with_reducible first|exact HB.out|apply qf|apply qa|apply qd)|exact HB.out))) : w.heap.size ≤ gb208));have n3_:=qn.mk ((by rw [hg];exact (qj (by repeat (first|(with_reducible first|exact HB.out|apply qf|apply qa|apply qd)|exact HB.out))) : w.heap.size ≤ gb208));clear HB;have HB:=n0_;have BK208:=n1_;have GW208:=n2_;have GE208:=n3_;clear n0_ n1_ n2_ n3_;clear hb hbox hg;have hcz52_0 : w51.cell? ⟨gb208,0,none⟩ = some (.int .i64 a0_0):=(qh BK208.out 0).trans rfl;have hcz52_1 : w51.cell? ⟨gb208,1,none⟩ = some (.slice A0_1 l0_1.length c0_1):=(qh BK208.out 1).trans rfl;have hfz52_0:=qi BK208.out 0;have hfz52_1:=qi BK208.out 1)|((with_reducible refine gate_callee (f:=33) rfl ?_);refine goesL_ (some 9) rfl rfl Try.func33 (by kernel_rfl) rfl #[.agg #[.int .i64 a0_0,.slice A0_1 l0_1.length c0_1],.int .i64 1048576] rfl (by (try simp only [List.map_toArray,List.map_cons,List.map_nil]);first|done|rfl|(simp only [List.length_drop,List.length_take];rfl)) ?_;(with_reducible refine (laws_szGraph.calls a0_0 _ _ l0_1 1048576 t209 _ ?side1 ?side2 A2.out).mono ?_);(case side1=>repeat (first|exact (Kd.C_below HR0_1.out HB.out)|(with_reducible refine Kd.C_alloc ?_ _)|(with_reducible refine Kd.C_drewN ?_ _)|(with_reducible refine Kd.C_drew ?_)));(case side2=>exact HC0_1.out);rintro e w53 ⟨rfl,hb⟩;refine ⟨_,rfl,?_⟩;have n0_:=bb_ BK208 hb;have n1_:=hs_ HB hb;clear BK208;clear HB;have BK208:=n0_;have HB:=n1_;clear n0_ n1_;(try clear hb);(try clear hb2);(try clear hk);(try clear hi);have hcz54_0 : w53.cell? ⟨gb208,0,none⟩ = some (.int .i64 a0_0):=(qh BK208.out 0).trans rfl;have hcz54_1 : w53.cell? ⟨gb208,1,none⟩ = some (.slice A0_1 l0_1.length c0_1):=(qh BK208.out 1).trans rfl;have hfz54_0:=qi BK208.out 0;have hfz54_1:=qi BK208.out 1)|((with_reducible refine gate_callee (f:=35) rfl ?_);refine goesL_ (some 13) rfl rfl Try.func35 (by kernel_rfl) rfl #[.agg #[.int .i64 a0_0,.slice A0_1 l0_1.length c0_1]] rfl (by (try simp only [List.map_toArray,List.map_cons,List.map_nil]);first|done|rfl|(simp only [List.length_drop,List.length_take];rfl)) ?_;(with_reducible refine (laws_toGraph.calls k a0_0 _ _ l0_1 t210 t211 _ ?side1 ?side2 A7.out).mono ?_);(case side1=>repeat (first|exact (Kd.C_below HR0_1.out HB.out)|(with_reducible refine Kd.C_alloc ?_ _)|(with_reducible refine Kd.C_drewN ?_ _)|(with_reducible refine Kd.C_drew ?_)));(case side2=>exact HC0_1.out);rintro e w55 ⟨v212,rfl,ho0,hb⟩;refine ⟨_,rfl,?_⟩;have n0_:=qn.mk (Kd.R_lower ho0 (qj (by repeat (first|(with_reducible first|exact HB.out|apply qf|apply qa|apply qd|refine qg ?_ GE208.out)|exact HB.out))));have n1_:=bb_ BK208 hb;have n2_:=hs_ HB hb;clear BK208;clear HB;have HO213:=n0_;have BK208:=n1_;have HB:=n2_;clear n0_ n1_ n2_;(try clear hb);(try clear hb2);(try clear hk);(try clear hi);(try clear ho0);obtain ⟨Ao56,co56,eo56⟩:=Kd.R_slice HO213.out;subst eo56)|((with_reducible refine gate_callee (f:=34) rfl ?_);refine goesL_ (some 14) rfl rfl Try.func34 (by kernel_rfl) rfl #[.agg #[.int .i64 t210,.slice Ao56 t211.length co56]] rfl (by (try simp only [List.map_toArray,List.map_cons,List.map_nil]);first|done|rfl|(simp only [List.length_drop,List.length_take];rfl)) ?_;(with_reducible refine (spec_CountMatches.calls k t210 _ _ t211 t214 _ ?side1 ?side2 A8.out).mono ?_);(case side1=>repeat (first|exact (Kd.R_reads' HO213.out).2.2|(with_reducible refine Kd.C_alloc ?_ _)|(with_reducible refine Kd.C_drewN ?_ _)|(with_reducible refine Kd.C_drew ?_)));(case side2=>exact (Kd.R_reads' HO213.out).2.1);rintro e w57 ⟨rfl,hb⟩;refine ⟨_,rfl,?_⟩;have n0_:=rb_ HO213 hb;have n1_:=bb_ BK208 hb;have n2_:=hs_ HB hb;clear HO213;clear BK208;clear HB;have HO213:=n0_;have BK208:=n1_;have HB:=n2_;clear n0_ n1_ n2_;(try clear hb);(try clear hb2);(try clear hk);(try clear hi);have hcz58_0 : w57.cell? ⟨gb208,0,none⟩ = some (.int .i64 a0_0):=(qh BK208.out 0).trans rfl;have hcz58_1 : w57.cell? ⟨gb208,1,none⟩ = some (.slice A0_1 l0_1.length c0_1):=(qh BK208.out 1).trans rfl;have hfz58_0:=qi BK208.out 0;have hfz58_1:=qi BK208.out 1)|((with_reducible refine gate_callee (f:=35) rfl ?_);refine goesL_ (some 16) rfl rfl Try.func35 (by kernel_rfl) rfl #[.agg #[.int .i64 a0_0,.slice A0_1 l0_1.length c0_1]] rfl (by (try simp only [List.map_toArray,List.map_cons,List.map_nil]);first|done|rfl|(simp only [List.length_drop,List.length_take];rfl)) ?_;(with_reducible refine (laws_toGraph.calls k a0_0 _ _ l0_1 t215 t216 _ ?side1 ?side2 A9.out).mono ?_);(case side1=>repeat (first|exact (Kd.C_below HR0_1.out HB.out)|(with_reducible refine Kd.C_alloc ?_ _)|(with_reducible refine Kd.C_drewN ?_ _)|(with_reducible refine Kd.C_drew ?_)));(case side2=>exact HC0_1.out);rintro e w59 ⟨v217,rfl,ho0,hb⟩;refine ⟨_,rfl,?_⟩;have n0_:=qn.mk (Kd.R_elder' (by (with_reducible repeat (first|apply Kd.R_alloc|apply Kd.R_drewN|apply Kd.R_drew));exact HO213.out) (Kd.R_base ho0) hb);have n1_:=qn.mk (Kd.R_lower (Kd.R_new' ho0 (Kd.R_lt (by (with_reducible repeat (first|apply Kd.R_alloc|apply Kd.R_drewN|apply Kd.R_drew));exact HO213.out))) (qj (by repeat (first|(with_reducible first|exact HB.out|apply qf|apply qa|apply qd|refine qg ?_ GE208.out)|exact HB.out))));have n2_:=bb_ BK208 hb;have n3_:=hs_ HB hb;clear HO213;clear BK208;clear HB;have HO213:=n0_;have HO218:=n1_;have BK208:=n2_;have HB:=n3_;clear n0_ n1_ n2_ n3_;(try clear hb);(try clear hb2);(try clear hk);(try clear hi);(try clear ho0))|((with_reducible refine gate_dst (N:=5) rfl ?_);refine box_event ?hg (N:=5) ?hd (cs:=#[.int .i64 0,.slice none 0 0]) (t:=26) ?hr ?_;(case hd=>rfl);(case hg=>rfl);(case hr=>first|(go_simp;done)|(go_simp;rfl));intro gb219 hg w60 hbox hb;have n0_:=rb_ HO213 hb;have n1_:=rb_ HO218 hb;have n2_:=bb_ BK208 hb;have n3_:=hs_ HB hb;have n4_:=qn.mk (hbox);have n5_:=qn.mk ((by rw [hg];exact (qj (by repeat (first|(with_reducible first|exact HB.out|apply qf|apply qa|apply qd|refine qg ?_ GE208.out)|exact HB.out))) : w.heap.size ≤ gb219));have n6_:=qn.mk ((by rw [hg];exact (qj (by repeat (first|(with_reducible first|exact HB.out|apply qf|apply qa|apply qd|refine qg ?_ GE208.out)|exact HB.out))) : w.heap.size ≤ gb219));have n7_:=qn.mk ((by rw [hg];exact nl_ BK208 : gb208 ≠ gb219));have n8_:=qn.mk ((by rw [hg];exact ng_ BK208 : gb219 ≠ gb208));clear HO213;clear HO218;clear BK208;clear HB;have HO213:=n0_;have HO218:=n1_;have BK208:=n2_;have HB:=n3_;have BK219:=n4_;have GW219:=n5_;have GE219:=n6_;have NB208_219:=n7_;have NB219_208:=n8_;clear n0_ n1_ n2_ n3_ n4_ n5_ n6_ n7_ n8_;clear hb hbox hg;have hnb61:=NB219_208.out;have hnc61:=NB208_219.out;have hcz62_0 : w60.cell? ⟨gb219,0,none⟩ = some (.int .i64 0):=(qh BK219.out 0).trans rfl;have hcz62_1 : w60.cell? ⟨gb219,1,none⟩ = some (.slice none 0 0):=(qh BK219.out 1).trans rfl;have hfz62_0:=qi BK219.out 0;have hfz62_1:=qi BK219.out 1;obtain ⟨Ao63,co63,eo63⟩:=Kd.R_slice HO218.out;subst eo63)|((with_reducible refine gate_callee (f:=36) rfl ?_);refine goesL_ (some 18) rfl rfl Try.func36 (by kernel_rfl) rfl #[.agg #[.int .i64 t215,.slice Ao63 t216.length co63]] rfl (by (try simp only [List.map_toArray,List.map_cons,List.map_nil]);first|done|rfl|(simp only [List.length_drop,List.length_take];rfl)) ?_;(with_reducible refine (impl_CountMatches.calls k t215 _ _ t216 t220 _ ?side1 ?side2 A10.out).mono ?_);(case side1=>refine (Kd.R_reads' (e:=36) (base:=w.heap.size) (ok:=fun k_=>(True ∧ some k_ ≠ (.slice Ao56 t211.length co56 : Value).ownBlock)) (n:=t216.length) (c:=co63) ?_).2.2;exact (by (with_reducible repeat (first|apply Kd.R_alloc|apply Kd.R_drewN|apply Kd.R_drew));exact (Kd.R_mono (Kd.R_far (p:=⟨gb219,1,none⟩) (Kd.R_far (p:=⟨gb219,0,none⟩) (Kd.R_types HO218.out BK219.out (by decide)) (fun _ hk=>hk.2) (.int .i64 t215)) (fun _ hk=>hk.2) (.slice Ao63 t216.length co63)) (fun _ h_=>h_.1))));(case side2=>exact (Kd.R_reads' HO218.out).2.1);rintro e w64 ⟨rfl,hb⟩;refine ⟨_,rfl,?_⟩;have n0_:=qn.mk (Kd.R_below (by (with_reducible repeat (first|apply Kd.R_alloc|apply Kd.R_drewN|apply Kd.R_drew));exact (Kd.R_mono (Kd.R_far (p:=⟨gb219,1,none⟩) (Kd.R_far (p:=⟨gb219,0,none⟩) (Kd.R_types HO213.out BK219.out (by decide)) (fun _ hk=>hk.2) (.int .i64 t215)) (fun _ hk=>hk.2) (.slice Ao63 t216.length co63)) (fun _ h_=>h_.1))) hb);have n1_:=qn.mk (Kd.R_below (by (with_reducible repeat (first|apply Kd.R_alloc|apply Kd.R_drewN|apply Kd.R_drew));exact (Kd.R_mono (Kd.R_far (p:=⟨gb219,1,none⟩) (Kd.R_far (p:=⟨gb219,0,none⟩) (Kd.R_types HO218.out BK219.out (by decide)) (fun _ hk=>hk.2) (.int .i64 t215)) (fun _ hk=>hk.2) (.slice Ao63 t216.length co63)) (fun _ h_=>h_.1))) hb);have n2_:=qn.mk (ql (g:=gb208) (o:=.cells #[.int .i64 a0_0,.slice A0_1 l0_1.length c0_1] 65 (0,0)) (by (with_reducible repeat (first|refine qb ?_ _|refine qe ?_|refine qc ?_ _));refine blk_far ?_ NB208_219.out _;(with_reducible repeat (first|refine qb ?_ _|refine qe ?_|refine qc ?_ _));refine blk_far ?_ NB208_219.out _;(with_reducible repeat (first|refine qb ?_ _|refine qe ?_|refine qc ?_ _));exact BK208.out) hb);have n3_:=qn.mk (ql (g:=gb219) (o:=.cells #[.int .i64 t215,.slice Ao63 t216.length co63] 26 (0,0)) (by (with_reducible repeat (first|refine qb ?_ _|refine qe ?_|refine qc ?_ _));refine blk_put (cs:=#[.int .i64 t215,.slice none 0 0]) ?_ 1 _ rfl;(with_reducible repeat (first|refine qb ?_ _|refine qe ?_|refine qc ?_ _));refine blk_put (cs:=#[.int .i64 0,.slice none 0 0]) ?_ 0 _ rfl;(with_reducible repeat (first|refine qb ?_ _|refine qe ?_|refine qc ?_ _));exact BK219.out) hb);have n4_:=hs_ HB hb;clear HO213;clear HO218;clear BK208;clear BK219;clear HB;have HO213:=n0_;have HO218:=n1_;have BK208:=n2_;have BK219:=n3_;have HB:=n4_;clear n0_ n1_ n2_ n3_ n4_;(try clear hb);(try clear hb2);(try clear hk);(try clear hi)))
      go_ret
      exact ⟨by first|rfl|(simp [errW_none,errW_some] <;> rfl)|(simp [*,errW_none,errW_some] <;> rfl),by repeat (first|(with_reducible first|exact HB.out|apply qf|apply qa|apply qd|refine qg ?_ GE208.out|refine qg ?_ GE219.out)|exact HB.out)⟩

end Go.Proofs.Ytfmemcffbfahhaa.QFnExactCountMatches
