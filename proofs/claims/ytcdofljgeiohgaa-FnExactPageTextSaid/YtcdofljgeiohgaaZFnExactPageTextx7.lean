/- Lean functions for the Go functions that the law FnExactPageText reaches, and that each Go function comes to just its Lean function's answer; by a program of this session. -/
import Derived.Test.YtcdofljgeiohgaaZFnExactPageTextx0
import Derived.Test.YtcdofljgeiohgaaZFnExactPageTextx1
import Derived.Test.YtcdofljgeiohgaaZFnExactPageTextx3
import Derived.Test.YtcdofljgeiohgaaZFnExactPageTextx4
import Derived.Test.YtcdofljgeiohgaaZFnExactPageTextx5
import Derived.Test.YtcdofljgeiohgaaZFnExactPageTextx6
namespace Go.Proofs.Ytcdofljgeiohgaa.QFnExactPageText
open Go.RowKit Go.Proofs.YtcdofljgeiohgaaW.PrintWords Go.Proofs.YtcdofljgeiohgaaW.PrintLast Go.Proofs.YtcdofljgeiohgaaW.PrintMore
attribute [local go_sem] max2_int min2_int max_two min_two max_three min_three max_four min_four   -- for this text's walks alone
set_option linter.unusedVariables false
set_option linter.unusedSimpArgs false

/-! ### laws_FnExactPageText: function 4 -/
def laws_FnExactPageText.j0 : Nat → Bool → Int → List (S120) → Int → List (S85) → Option (Bool)
  | 0,_,_,_,_,_=>none
  | k + 1,x34,x220000,x220001,x232000,x232001=>if x34 = true then (some false) else ((laws_toPage.f k x220000 x220001).bind fun bt234=>((laws_eqPage.f k x232000 x232001 bt234.1 bt234.2).bind fun t238=>(if t238 = true then (some true) else (some false))))
def laws_FnExactPageText.f (k : Nat) (a0_0 : Int) (l0_1 : List (S120)) : Option (Bool):=(laws_szPage.f k a0_0 l0_1 1048576).bind fun t220=>(if t220 < 0 then (some true) else ((laws_toPage.f k a0_0 l0_1).bind fun bt221=>((spec_PageText.f k bt221.1 bt221.2).bind fun bt225=>((laws_toPage.f k a0_0 l0_1).bind fun bt227=>((impl_PageText.f k bt227.1 bt227.2).bind fun bt232=>(if bt232.1.toList = bt225.1.toList then (laws_FnExactPageText.j0 k (bt232.2 != bt225.2) a0_0 l0_1 bt227.1 bt227.2) else (laws_FnExactPageText.j0 k true a0_0 l0_1 bt227.1 bt227.2)))))))
theorem laws_FnExactPageText.mono_l : ∀ k,(∀ y0 y1 y2 y3 y4,LeO (laws_FnExactPageText.j0 k y0 y1 y2 y3 y4) (laws_FnExactPageText.j0 (k + 1) y0 y1 y2 y3 y4))
  | 0=>fun _ _ _ _ _ r h=>by simp [laws_FnExactPageText.j0] at h
  | k + 1=>by
    have ih0:=laws_FnExactPageText.mono_l k
    · intro y0 y1 y2 y3 y4
      unfold laws_FnExactPageText.j0
      repeat' first
      | (with_reducible exact ih0 _ _ _ _ _)
      | (with_reducible exact impl_PageText.mono _ _ _)
      | (with_reducible exact laws_eqPage.mono _ _ _ _ _)
      | (with_reducible exact laws_szPage.mono _ _ _ _)
      | (with_reducible exact laws_toPage.mono _ _ _)
      | (with_reducible exact spec_PageText.mono _ _ _)
      | (with_reducible exact LeO.refl _)
      | (with_reducible exact LeO.none _)
      | (with_reducible refine LeO.ite ?_ ?_)
      | (with_reducible refine LeO.bind ?_ (fun _=>?_))
      | exact ih0 _ _ _ _ _
      | exact impl_PageText.mono _ _ _
      | exact laws_eqPage.mono _ _ _ _ _
      | exact laws_szPage.mono _ _ _ _
      | exact laws_toPage.mono _ _ _
      | exact spec_PageText.mono _ _ _
      | exact LeO.none _
      | refine LeO.ite ?_ ?_
      | refine LeO.bind ?_ (fun _=>?_)
theorem laws_FnExactPageText.mono : ∀ a0 a1 k,LeO (laws_FnExactPageText.f k a0 a1) (laws_FnExactPageText.f (k + 1) a0 a1):=by
  intro a0 a1 k
  have ih0:=laws_FnExactPageText.mono_l k
  unfold laws_FnExactPageText.f
  repeat' first
      | (with_reducible exact ih0 _ _ _ _ _)
      | (with_reducible exact impl_PageText.mono _ _ _)
      | (with_reducible exact laws_eqPage.mono _ _ _ _ _)
      | (with_reducible exact laws_szPage.mono _ _ _ _)
      | (with_reducible exact laws_toPage.mono _ _ _)
      | (with_reducible exact spec_PageText.mono _ _ _)
      | (with_reducible exact LeO.refl _)
      | (with_reducible exact LeO.none _)
      | (with_reducible refine LeO.ite ?_ ?_)
      | (with_reducible refine LeO.bind ?_ (fun _=>?_))
      | exact ih0 _ _ _ _ _
      | exact impl_PageText.mono _ _ _
      | exact laws_eqPage.mono _ _ _ _ _
      | exact laws_szPage.mono _ _ _ _
      | exact laws_toPage.mono _ _ _
      | exact spec_PageText.mono _ _ _
      | exact LeO.none _
      | refine LeO.ite ?_ ?_
      | refine LeO.bind ?_ (fun _=>?_)
set_option maxHeartbeats 8000000 in
set_option maxRecDepth 100000 in
theorem laws_FnExactPageText.calls (k : Nat) (a0_0 : Int) (A0_1 : Option Addr) (c0_1 : Nat) (l0_1 : List (S120)) (r : Bool) (w : World) (hr0_1 : Kd.C k120 w A0_1 l0_1.length l0_1) (hc0_1 : l0_1.length ≤ c0_1) (h : laws_FnExactPageText.f k a0_0 l0_1 = some r) :
    Calls Try.prog 4 #[.agg #[.int .i64 a0_0,.slice A0_1 l0_1.length c0_1]] w fun e w'=>e = .returned (.bool r) ∧ Below w.heap.size w w':=by
  have hu41:=Try.underlying41
  have hu46:=Try.underlying46
  have HR0_1:=qn.mk hr0_1
  have HC0_1:=qn.mk hc0_1
  clear hr0_1 hc0_1
  have HB:=qn.mk (Below.refl w.heap.size w)
  have H : ((laws_szPage.f k a0_0 l0_1 1048576).bind fun t220=>(if t220 < 0 then (some true) else ((laws_toPage.f k a0_0 l0_1).bind fun bt221=>((spec_PageText.f k bt221.1 bt221.2).bind fun bt225=>((laws_toPage.f k a0_0 l0_1).bind fun bt227=>((impl_PageText.f k bt227.1 bt227.2).bind fun bt232=>(if bt232.1.toList = bt225.1.toList then (laws_FnExactPageText.j0 k (bt232.2 != bt225.2) a0_0 l0_1 bt227.1 bt227.2) else (laws_FnExactPageText.j0 k true a0_0 l0_1 bt227.1 bt227.2)))))))) = some r:=h
  clear h
  replace H:=Option.bind_eq_some_iff.mp H
  obtain ⟨t220,A20,H⟩:=H
  replace H : (if t220 < 0 then (some true) else ((laws_toPage.f k a0_0 l0_1).bind fun bt221=>((spec_PageText.f k bt221.1 bt221.2).bind fun bt225=>((laws_toPage.f k a0_0 l0_1).bind fun bt227=>((impl_PageText.f k bt227.1 bt227.2).bind fun bt232=>(if bt232.1.toList = bt225.1.toList then (laws_FnExactPageText.j0 k (bt232.2 != bt225.2) a0_0 l0_1 bt227.1 bt227.2) else (laws_FnExactPageText.j0 k true a0_0 l0_1 bt227.1 bt227.2))))))) = some r:=H
  have A2:=qn.mk A20
  clear A20
  by_cases c3 : t220 < 0
  · rw [if_pos c3] at H
    have c3b0 : decide (t220 < 0) = true:=decide_eq_true c3
    clear c3
    obtain rfl:=Option.some.inj H
    go_enter Try.func4,Try.ntmps4
    go_wp2_with (first|((with_reducible refine gate_dst (N:=1) rfl ?_);refine box_event ?hg (N:=1) ?hd (cs:=#[.int .i64 a0_0,.slice A0_1 l0_1.length c0_1]) (t:=41) ?hr ?_;(case hd=>rfl);(case hg=>rfl);(case hr=>first|(go_simp;done)|(go_simp;rfl));intro gb219 hg w4 hbox hb;have n0_:=hs_ HB hb;have n1_:=qn.mk (hbox);have n2_:=qn.mk ((by rw [hg];exact (qj (by repeat (first|(with_reducible first|exact HB.out|apply qf|apply qa|apply qd)|exact HB.out))) : w.heap.size ≤ gb219));have n3_:=qn.mk ((by rw [hg];exact (qj (by repeat (first|(with_reducible first|exact HB.out|apply qf|apply qa|apply qd)|exact HB.out))) : w.heap.size ≤ gb219));clear HB;have HB:=n0_;have BK219:=n1_;have GW219:=n2_;have GE219:=n3_;clear n0_ n1_ n2_ n3_;clear hb hbox hg;have hcz5_0 : w4.cell? ⟨gb219,0,none⟩ = some (.int .i64 a0_0):=(qh BK219.out 0).trans rfl;have hcz5_1 : w4.cell? ⟨gb219,1,none⟩ = some (.slice A0_1 l0_1.length c0_1):=(qh BK219.out 1).trans rfl;have hfz5_0:=qi BK219.out 0;have hfz5_1:=qi BK219.out 1)|((with_reducible refine gate_callee (f:=13) rfl ?_);refine goesL_ (some 11) rfl rfl Try.func13 (by kernel_rfl) rfl #[.agg #[.int .i64 a0_0,.slice A0_1 l0_1.length c0_1],.int .i64 1048576] rfl (by (try simp only [List.map_toArray,List.map_cons,List.map_nil]);first|done|rfl|(simp only [List.length_drop,List.length_take];rfl)) ?_;(with_reducible refine (laws_szPage.calls k a0_0 _ _ l0_1 1048576 t220 _ ?side1 ?side2 A2.out).mono ?_);(case side1=>repeat (first|exact (Kd.C_below HR0_1.out HB.out)|(with_reducible refine Kd.C_alloc ?_ _)|(with_reducible refine Kd.C_drewN ?_ _)|(with_reducible refine Kd.C_drew ?_)));(case side2=>exact HC0_1.out);rintro e w6 ⟨rfl,hb⟩;refine ⟨_,rfl,?_⟩;have n0_:=bb_ BK219 hb;have n1_:=hs_ HB hb;clear BK219;clear HB;have BK219:=n0_;have HB:=n1_;clear n0_ n1_;(try clear hb);(try clear hb2);(try clear hk);(try clear hi)))
    go_ret
    exact ⟨by first|rfl|(simp [errW_none,errW_some] <;> rfl)|(simp [*,errW_none,errW_some] <;> rfl),by repeat (first|(with_reducible first|exact HB.out|apply qf|apply qa|apply qd|refine qg ?_ GE219.out)|exact HB.out)⟩
  · rw [if_neg c3] at H
    have c3b0 : decide (t220 < 0) = false:=decide_eq_false c3
    clear c3
    replace H:=Option.bind_eq_some_iff.mp H
    obtain ⟨⟨t221,t222⟩,A70,H⟩:=H
    replace H : ((spec_PageText.f k t221 t222).bind fun bt225=>((laws_toPage.f k a0_0 l0_1).bind fun bt227=>((impl_PageText.f k bt227.1 bt227.2).bind fun bt232=>(if bt232.1.toList = bt225.1.toList then (laws_FnExactPageText.j0 k (bt232.2 != bt225.2) a0_0 l0_1 bt227.1 bt227.2) else (laws_FnExactPageText.j0 k true a0_0 l0_1 bt227.1 bt227.2))))) = some r:=H
    have A7:=qn.mk A70
    clear A70
    replace H:=Option.bind_eq_some_iff.mp H
    obtain ⟨⟨t225,t226⟩,A80,H⟩:=H
    replace H : ((laws_toPage.f k a0_0 l0_1).bind fun bt227=>((impl_PageText.f k bt227.1 bt227.2).bind fun bt232=>(if bt232.1.toList = t225.toList then (laws_FnExactPageText.j0 k (bt232.2 != t226) a0_0 l0_1 bt227.1 bt227.2) else (laws_FnExactPageText.j0 k true a0_0 l0_1 bt227.1 bt227.2)))) = some r:=H
    have A8:=qn.mk A80
    clear A80
    replace H:=Option.bind_eq_some_iff.mp H
    obtain ⟨⟨t227,t228⟩,A90,H⟩:=H
    replace H : ((impl_PageText.f k t227 t228).bind fun bt232=>(if bt232.1.toList = t225.toList then (laws_FnExactPageText.j0 k (bt232.2 != t226) a0_0 l0_1 t227 t228) else (laws_FnExactPageText.j0 k true a0_0 l0_1 t227 t228))) = some r:=H
    have A9:=qn.mk A90
    clear A90
    replace H:=Option.bind_eq_some_iff.mp H
    obtain ⟨⟨t232,t233⟩,A100,H⟩:=H
    replace H : (if t232.toList = t225.toList then (laws_FnExactPageText.j0 k (t233 != t226) a0_0 l0_1 t227 t228) else (laws_FnExactPageText.j0 k true a0_0 l0_1 t227 t228)) = some r:=H
    have A10:=qn.mk A100
    clear A100
    have HC11:=qn.mk H
    clear H
    go_enter Try.func4,Try.ntmps4
    go_upto_region 8 with (first|((with_reducible refine gate_dst (N:=1) rfl ?_);refine box_event ?hg (N:=1) ?hd (cs:=#[.int .i64 a0_0,.slice A0_1 l0_1.length c0_1]) (t:=41) ?hr ?_;(case hd=>rfl);(case hg=>rfl);(case hr=>first|(go_simp;done)|(go_simp;rfl));intro gb219 hg w12 hbox hb;have n0_:=hs_ HB hb;have n1_:=qn.mk (hbox);have n2_:=qn.mk ((by rw [hg];exact (qj (by repeat (first|(with_reducible first|exact HB.out|apply qf|apply qa|apply qd)|exact HB.out))) : w.heap.size ≤ gb219));have n3_:=qn.mk ((by rw [hg];exact (qj (by repeat (first|(with_reducible first|exact HB.out|apply qf|apply qa|apply qd)|exact HB.out))) : w.heap.size ≤ gb219));clear HB;have HB:=n0_;have BK219:=n1_;have GW219:=n2_;have GE219:=n3_;clear n0_ n1_ n2_ n3_;clear hb hbox hg;have hcz13_0 : w12.cell? ⟨gb219,0,none⟩ = some (.int .i64 a0_0):=(qh BK219.out 0).trans rfl;have hcz13_1 : w12.cell? ⟨gb219,1,none⟩ = some (.slice A0_1 l0_1.length c0_1):=(qh BK219.out 1).trans rfl;have hfz13_0:=qi BK219.out 0;have hfz13_1:=qi BK219.out 1)|((with_reducible refine gate_callee (f:=13) rfl ?_);refine goesL_ (some 11) rfl rfl Try.func13 (by kernel_rfl) rfl #[.agg #[.int .i64 a0_0,.slice A0_1 l0_1.length c0_1],.int .i64 1048576] rfl (by (try simp only [List.map_toArray,List.map_cons,List.map_nil]);first|done|rfl|(simp only [List.length_drop,List.length_take];rfl)) ?_;(with_reducible refine (laws_szPage.calls k a0_0 _ _ l0_1 1048576 t220 _ ?side1 ?side2 A2.out).mono ?_);(case side1=>repeat (first|exact (Kd.C_below HR0_1.out HB.out)|(with_reducible refine Kd.C_alloc ?_ _)|(with_reducible refine Kd.C_drewN ?_ _)|(with_reducible refine Kd.C_drew ?_)));(case side2=>exact HC0_1.out);rintro e w14 ⟨rfl,hb⟩;refine ⟨_,rfl,?_⟩;have n0_:=bb_ BK219 hb;have n1_:=hs_ HB hb;clear BK219;clear HB;have BK219:=n0_;have HB:=n1_;clear n0_ n1_;(try clear hb);(try clear hb2);(try clear hk);(try clear hi);have hcz15_0 : w14.cell? ⟨gb219,0,none⟩ = some (.int .i64 a0_0):=(qh BK219.out 0).trans rfl;have hcz15_1 : w14.cell? ⟨gb219,1,none⟩ = some (.slice A0_1 l0_1.length c0_1):=(qh BK219.out 1).trans rfl;have hfz15_0:=qi BK219.out 0;have hfz15_1:=qi BK219.out 1)|((with_reducible refine gate_callee (f:=15) rfl ?_);refine goesL_ (some 16) rfl rfl Try.func15 (by kernel_rfl) rfl #[.agg #[.int .i64 a0_0,.slice A0_1 l0_1.length c0_1]] rfl (by (try simp only [List.map_toArray,List.map_cons,List.map_nil]);first|done|rfl|(simp only [List.length_drop,List.length_take];rfl)) ?_;(with_reducible refine (laws_toPage.calls k a0_0 _ _ l0_1 t221 t222 _ ?side1 ?side2 A7.out).mono ?_);(case side1=>repeat (first|exact (Kd.C_below HR0_1.out HB.out)|(with_reducible refine Kd.C_alloc ?_ _)|(with_reducible refine Kd.C_drewN ?_ _)|(with_reducible refine Kd.C_drew ?_)));(case side2=>exact HC0_1.out);rintro e w16 ⟨v223,rfl,ho0,hb⟩;refine ⟨_,rfl,?_⟩;have n0_:=qn.mk (Kd.R_lower ho0 (qj (by repeat (first|(with_reducible first|exact HB.out|apply qf|apply qa|apply qd|refine qg ?_ GE219.out)|exact HB.out))));have n1_:=bb_ BK219 hb;have n2_:=hs_ HB hb;clear BK219;clear HB;have HO224:=n0_;have BK219:=n1_;have HB:=n2_;clear n0_ n1_ n2_;(try clear hb);(try clear hb2);(try clear hk);(try clear hi);(try clear ho0);obtain ⟨Ao17,co17,eo17⟩:=Kd.R_slice HO224.out;subst eo17)|((with_reducible refine gate_callee (f:=14) rfl ?_);refine goesL_ (some 17) rfl rfl Try.func14 (by kernel_rfl) rfl #[.agg #[.int .i64 t221,.slice Ao17 t222.length co17]] rfl (by (try simp only [List.map_toArray,List.map_cons,List.map_nil]);first|done|rfl|(simp only [List.length_drop,List.length_take];rfl)) ?_;(with_reducible refine (spec_PageText.calls k t221 _ _ t222 t225 t226 _ ?side1 ?side2 A8.out).mono ?_);(case side1=>repeat (first|exact (Kd.R_reads' HO224.out).2.2|(with_reducible refine Kd.C_alloc ?_ _)|(with_reducible refine Kd.C_drewN ?_ _)|(with_reducible refine Kd.C_drew ?_)));(case side2=>exact (Kd.R_reads' HO224.out).2.1);rintro e w18 ⟨rfl,hb⟩;refine ⟨_,rfl,?_⟩;have n0_:=rb_ HO224 hb;have n1_:=bb_ BK219 hb;have n2_:=hs_ HB hb;clear HO224;clear BK219;clear HB;have HO224:=n0_;have BK219:=n1_;have HB:=n2_;clear n0_ n1_ n2_;(try clear hb);(try clear hb2);(try clear hk);(try clear hi);have hcz19_0 : w18.cell? ⟨gb219,0,none⟩ = some (.int .i64 a0_0):=(qh BK219.out 0).trans rfl;have hcz19_1 : w18.cell? ⟨gb219,1,none⟩ = some (.slice A0_1 l0_1.length c0_1):=(qh BK219.out 1).trans rfl;have hfz19_0:=qi BK219.out 0;have hfz19_1:=qi BK219.out 1)|((with_reducible refine gate_callee (f:=15) rfl ?_);refine goesL_ (some 21) rfl rfl Try.func15 (by kernel_rfl) rfl #[.agg #[.int .i64 a0_0,.slice A0_1 l0_1.length c0_1]] rfl (by (try simp only [List.map_toArray,List.map_cons,List.map_nil]);first|done|rfl|(simp only [List.length_drop,List.length_take];rfl)) ?_;(with_reducible refine (laws_toPage.calls k a0_0 _ _ l0_1 t227 t228 _ ?side1 ?side2 A9.out).mono ?_);(case side1=>repeat (first|exact (Kd.C_below HR0_1.out HB.out)|(with_reducible refine Kd.C_alloc ?_ _)|(with_reducible refine Kd.C_drewN ?_ _)|(with_reducible refine Kd.C_drew ?_)));(case side2=>exact HC0_1.out);rintro e w20 ⟨v229,rfl,ho0,hb⟩;refine ⟨_,rfl,?_⟩;have n0_:=qn.mk (Kd.R_elder' (by (with_reducible repeat (first|apply Kd.R_alloc|apply Kd.R_drewN|apply Kd.R_drew));exact HO224.out) (Kd.R_base ho0) hb);have n1_:=qn.mk (Kd.R_lower (Kd.R_new' ho0 (Kd.R_lt (by (with_reducible repeat (first|apply Kd.R_alloc|apply Kd.R_drewN|apply Kd.R_drew));exact HO224.out))) (qj (by repeat (first|(with_reducible first|exact HB.out|apply qf|apply qa|apply qd|refine qg ?_ GE219.out)|exact HB.out))));have n2_:=bb_ BK219 hb;have n3_:=hs_ HB hb;clear HO224;clear BK219;clear HB;have HO224:=n0_;have HO230:=n1_;have BK219:=n2_;have HB:=n3_;clear n0_ n1_ n2_ n3_;(try clear hb);(try clear hb2);(try clear hk);(try clear hi);(try clear ho0))|((with_reducible refine gate_dst (N:=6) rfl ?_);refine box_event ?hg (N:=6) ?hd (cs:=#[.int .i64 0,.slice none 0 0]) (t:=46) ?hr ?_;(case hd=>rfl);(case hg=>rfl);(case hr=>first|(go_simp;done)|(go_simp;rfl));intro gb231 hg w21 hbox hb;have n0_:=rb_ HO224 hb;have n1_:=rb_ HO230 hb;have n2_:=bb_ BK219 hb;have n3_:=hs_ HB hb;have n4_:=qn.mk (hbox);have n5_:=qn.mk ((by rw [hg];exact (qj (by repeat (first|(with_reducible first|exact HB.out|apply qf|apply qa|apply qd|refine qg ?_ GE219.out)|exact HB.out))) : w.heap.size ≤ gb231));have n6_:=qn.mk ((by rw [hg];exact (qj (by repeat (first|(with_reducible first|exact HB.out|apply qf|apply qa|apply qd|refine qg ?_ GE219.out)|exact HB.out))) : w.heap.size ≤ gb231));have n7_:=qn.mk ((by rw [hg];exact nl_ BK219 : gb219 ≠ gb231));have n8_:=qn.mk ((by rw [hg];exact ng_ BK219 : gb231 ≠ gb219));clear HO224;clear HO230;clear BK219;clear HB;have HO224:=n0_;have HO230:=n1_;have BK219:=n2_;have HB:=n3_;have BK231:=n4_;have GW231:=n5_;have GE231:=n6_;have NB219_231:=n7_;have NB231_219:=n8_;clear n0_ n1_ n2_ n3_ n4_ n5_ n6_ n7_ n8_;clear hb hbox hg;have hnb22:=NB231_219.out;have hnc22:=NB219_231.out;have hcz23_0 : w21.cell? ⟨gb231,0,none⟩ = some (.int .i64 0):=(qh BK231.out 0).trans rfl;have hcz23_1 : w21.cell? ⟨gb231,1,none⟩ = some (.slice none 0 0):=(qh BK231.out 1).trans rfl;have hfz23_0:=qi BK231.out 0;have hfz23_1:=qi BK231.out 1;obtain ⟨Ao24,co24,eo24⟩:=Kd.R_slice HO230.out;subst eo24)|((with_reducible refine gate_callee (f:=16) rfl ?_);refine goesL_ (some 24) rfl rfl Try.func16 (by kernel_rfl) rfl #[.agg #[.int .i64 t227,.slice Ao24 t228.length co24]] rfl (by (try simp only [List.map_toArray,List.map_cons,List.map_nil]);first|done|rfl|(simp only [List.length_drop,List.length_take];rfl)) ?_;(with_reducible refine (impl_PageText.calls k t227 _ _ t228 t232 t233 _ ?side1 ?side2 A10.out).mono ?_);(case side1=>refine (Kd.R_reads' (e:=85) (base:=w.heap.size) (ok:=fun k_=>(True ∧ some k_ ≠ (.slice Ao17 t222.length co17 : Value).ownBlock)) (n:=t228.length) (c:=co24) ?_).2.2;exact (by (with_reducible repeat (first|apply Kd.R_alloc|apply Kd.R_drewN|apply Kd.R_drew));exact (Kd.R_mono (Kd.R_far (p:=⟨gb231,1,none⟩) (Kd.R_far (p:=⟨gb231,0,none⟩) (Kd.R_types HO230.out BK231.out (by decide)) (fun _ hk=>hk.2) (.int .i64 t227)) (fun _ hk=>hk.2) (.slice Ao24 t228.length co24)) (fun _ h_=>h_.1))));(case side2=>exact (Kd.R_reads' HO230.out).2.1);rintro e w25 ⟨rfl,hb⟩;refine ⟨_,rfl,?_⟩;have n0_:=qn.mk (Kd.R_below (by (with_reducible repeat (first|apply Kd.R_alloc|apply Kd.R_drewN|apply Kd.R_drew));exact (Kd.R_mono (Kd.R_far (p:=⟨gb231,1,none⟩) (Kd.R_far (p:=⟨gb231,0,none⟩) (Kd.R_types HO224.out BK231.out (by decide)) (fun _ hk=>hk.2) (.int .i64 t227)) (fun _ hk=>hk.2) (.slice Ao24 t228.length co24)) (fun _ h_=>h_.1))) hb);have n1_:=qn.mk (Kd.R_below (by (with_reducible repeat (first|apply Kd.R_alloc|apply Kd.R_drewN|apply Kd.R_drew));exact (Kd.R_mono (Kd.R_far (p:=⟨gb231,1,none⟩) (Kd.R_far (p:=⟨gb231,0,none⟩) (Kd.R_types HO230.out BK231.out (by decide)) (fun _ hk=>hk.2) (.int .i64 t227)) (fun _ hk=>hk.2) (.slice Ao24 t228.length co24)) (fun _ h_=>h_.1))) hb);have n2_:=qn.mk (ql (g:=gb219) (o:=.cells #[.int .i64 a0_0,.slice A0_1 l0_1.length c0_1] 41 (0,0)) (by (with_reducible repeat (first|refine qb ?_ _|refine qe ?_|refine qc ?_ _));refine blk_far ?_ NB219_231.out _;(with_reducible repeat (first|refine qb ?_ _|refine qe ?_|refine qc ?_ _));refine blk_far ?_ NB219_231.out _;(with_reducible repeat (first|refine qb ?_ _|refine qe ?_|refine qc ?_ _));exact BK219.out) hb);have n3_:=qn.mk (ql (g:=gb231) (o:=.cells #[.int .i64 t227,.slice Ao24 t228.length co24] 46 (0,0)) (by (with_reducible repeat (first|refine qb ?_ _|refine qe ?_|refine qc ?_ _));refine blk_put (cs:=#[.int .i64 t227,.slice none 0 0]) ?_ 1 _ rfl;(with_reducible repeat (first|refine qb ?_ _|refine qe ?_|refine qc ?_ _));refine blk_put (cs:=#[.int .i64 0,.slice none 0 0]) ?_ 0 _ rfl;(with_reducible repeat (first|refine qb ?_ _|refine qe ?_|refine qc ?_ _));exact BK231.out) hb);have n4_:=hs_ HB hb;clear HO224;clear HO230;clear BK219;clear BK231;clear HB;have HO224:=n0_;have HO230:=n1_;have BK219:=n2_;have BK231:=n3_;have HB:=n4_;clear n0_ n1_ n2_ n3_ n4_;(try clear hb);(try clear hb2);(try clear hk);(try clear hi)))
    (try simp only [Act.put,List.setIfInBounds_toArray,List.set_cons_zero,List.set_cons_succ])
    go_cut [34] (fun v34 wc=>∃ (kq : Nat) (x34_10 : Bool),v34 = .bool x34_10 ∧ qn (laws_FnExactPageText.j0 kq x34_10 a0_0 l0_1 t227 t228 = some r) ∧ qn (kq ≤ k) ∧ qn (Kd.R k85 85 wc w.heap.size (fun _=>True) (.slice Ao24 t228.length co24) t228) ∧ qn (wc.heap[gb219]? = some (.cells #[.int .i64 a0_0,(.slice A0_1 l0_1.length c0_1)] 41 (0,0))) ∧ qn (wc.heap[gb231]? = some (.cells #[.int .i64 t227,(.slice Ao24 t228.length co24)] 46 (0,0))) ∧ qn (Below w.heap.size w wc))
    case first =>
      have H:=HC11.out
      clear HC11
      by_cases c26 : t232.toList = t225.toList
      · rw [if_pos c26] at H
        have c26b0 : (t232.toList == t225.toList) = true:=beq_iff_eq.mpr c26
        have c26b1 : (t232.toList != t225.toList) = false:=bne_eq_false_iff_eq.mpr c26
        clear c26
        (first|rw [c26b0]|(simp only [i64_w,i32_w];rw [c26b0])|skip)
        have H':=qn.mk H
        clear H
        go_wp2
        go_meet
        case rel=>exact ⟨_,((t233 != t226)),(by first|rfl|(simp;done)|(simp [*];done)),H',⟨by first|omega|exact Nat.le_refl _⟩,⟨by (with_reducible repeat (first|apply Kd.R_alloc|apply Kd.R_drewN|apply Kd.R_drew));exact Kd.R_mono HO230.out (fun _ hk=>trivial)⟩,⟨by (with_reducible repeat (first|refine qb ?_ _|refine qe ?_|refine qc ?_ _));exact BK219.out⟩,⟨by (with_reducible repeat (first|refine qb ?_ _|refine qe ?_|refine qc ?_ _));exact BK231.out⟩,⟨by repeat (first|(with_reducible first|exact HB.out|apply qf|apply qa|apply qd|refine qg ?_ GE219.out|refine qg ?_ GE231.out)|exact HB.out)⟩⟩
      · rw [if_neg c26] at H
        have c26b0 : (t232.toList == t225.toList) = false:=beq_eq_false_iff_ne.mpr c26
        have c26b1 : (t232.toList != t225.toList) = true:=bne_iff_ne.mpr c26
        (first|rw [c26b0]|(simp only [i64_w,i32_w];rw [c26b0])|skip)
        have H':=qn.mk H
        clear H
        go_wp2
        go_meet
        case rel=>exact ⟨_,(true),(by first|rfl|(simp;done)|(simp [*];done)),H',⟨by first|omega|exact Nat.le_refl _⟩,⟨by (with_reducible repeat (first|apply Kd.R_alloc|apply Kd.R_drewN|apply Kd.R_drew));exact Kd.R_mono HO230.out (fun _ hk=>trivial)⟩,⟨by (with_reducible repeat (first|refine qb ?_ _|refine qe ?_|refine qc ?_ _));exact BK219.out⟩,⟨by (with_reducible repeat (first|refine qb ?_ _|refine qe ?_|refine qc ?_ _));exact BK231.out⟩,⟨by repeat (first|(with_reducible first|exact HB.out|apply qf|apply qa|apply qd|refine qg ?_ GE219.out|refine qg ?_ GE231.out)|exact HB.out)⟩⟩
    case rest =>
      clear HC11
      try clear c1
      try clear c2
      try clear p2
      try clear c3
      try clear c3b0
      try clear c4
      try clear c13
      try clear c14
      try clear c15
      try clear c16
      try clear c22
      try clear c26
      try clear c26b0
      try clear c26b1
      try clear hcz13_0
      try clear hcz13_1
      try clear hcz15_0
      try clear hcz15_1
      try clear hcz19_0
      try clear hcz19_1
      try clear hcz23_0
      try clear hcz23_1
      try clear hcz5_0
      try clear hcz5_1
      try clear hfz13_0
      try clear hfz13_1
      try clear hfz15_0
      try clear hfz15_1
      try clear hfz19_0
      try clear hfz19_1
      try clear hfz23_0
      try clear hfz23_1
      try clear hfz5_0
      try clear hfz5_1
      obtain ⟨kq,x34_10,rfl,HA,HJ10,HO_232001,BK219,BK231,HB⟩:=hcut
      cases kq with
      | zero=>exact absurd HA.out (by simp [laws_FnExactPageText.j0])
      | succ kj10 =>
        have H:=HA.out
        clear HA
        simp only [laws_FnExactPageText.j0] at H
        by_cases c27 : x34_10 = true
        · subst c27
          have H1 : (some false) = some r:=by rw [if_pos rfl] at H;exact H
          clear H
          have H:=H1
          clear H1
          obtain rfl:=Option.some.inj H
          go_wp2
          go_ret
          exact ⟨by first|rfl|(simp [errW_none,errW_some] <;> rfl)|(simp [*,errW_none,errW_some] <;> rfl),by repeat (first|(with_reducible first|exact HB.out|apply qf|apply qa|apply qd|refine qg ?_ GE219.out|refine qg ?_ GE231.out)|exact HB.out)⟩
        · replace c27:=Bool.eq_false_iff.mpr c27
          subst c27
          have H1 : ((laws_toPage.f kj10 a0_0 l0_1).bind fun bt234=>((laws_eqPage.f kj10 t227 t228 bt234.1 bt234.2).bind fun t238=>(if t238 = true then (some true) else (some false)))) = some r:=by rw [if_neg (show ¬ (false = true) by decide)] at H;exact H
          clear H
          have H:=H1
          clear H1
          replace H:=Option.bind_eq_some_iff.mp H
          obtain ⟨⟨t234,t235⟩,A280,H⟩:=H
          replace H : ((laws_eqPage.f kj10 t227 t228 t234 t235).bind fun t238=>(if t238 = true then (some true) else (some false))) = some r:=H
          have A28:=qn.mk A280
          clear A280
          replace H:=Option.bind_eq_some_iff.mp H
          obtain ⟨t238,A290,H⟩:=H
          replace H : (if t238 = true then (some true) else (some false)) = some r:=H
          have A29:=qn.mk A290
          clear A290
          by_cases c30 : t238 = true
          · subst c30
            have H1 : (some true) = some r:=by rw [if_pos rfl] at H;exact H
            clear H
            have H:=H1
            clear H1
            obtain rfl:=Option.some.inj H
            try go_wp2
            have n0_:=qn.mk (Kd.R_drew HO_232001.out)
            have n1_:=qn.mk (qe BK219.out)
            have n2_:=qn.mk (qe BK231.out)
            have n3_:=qn.mk (qd HB.out)
            clear HO_232001
            clear BK219
            clear BK231
            clear HB
            have HO_232001:=n0_
            have BK219:=n1_
            have BK231:=n2_
            have HB:=n3_
            clear n0_ n1_ n2_ n3_
            refine start_ (n:=5) (S:=fun w'=>w'.cell? ⟨gb231,0,none⟩ = some (.int .i64 t227) ∧ w'.cell? ⟨gb231,1,none⟩ = some (.slice Ao24 t228.length co24) ∧ w'.cell? ⟨gb219,0,none⟩ = some (.int .i64 a0_0) ∧ w'.cell? ⟨gb219,1,none⟩ = some (.slice A0_1 l0_1.length c0_1)) (ds:=[]) #[false,false,false,false,false] (by kernel_rfl) rfl rfl ⟨(qh BK231.out 0).trans rfl,(qh BK231.out 1).trans rfl,(qh BK219.out 0).trans rfl,(qh BK219.out 1).trans rfl⟩ (fun hHeld=>?_)
            generalize wc.drew = w31 at HO_232001 BK219 BK231 HB hHeld ⊢
            refine take_ (i:=0) (N:=some 35) (v:=?_) (a':=?_) #[true,false,false,false,false] rfl rfl (by kernel_rfl) (fun _ _ _ h=>h) (Or.inl ⟨by rfl,?_⟩) hHeld ?_ ?_
            rotate_left
            · rintro w' ⟨s0,s1,s2,s3⟩
              go_simp
              with_reducible rfl
            rotate_left
            · simp only [Act.put,List.setIfInBounds_toArray,List.set_cons_zero,List.set_cons_succ,i64_w,i32_w]
              rfl
            refine take_ (i:=1) (N:=some 36) (v:=?_) (a':=?_) #[true,true,false,false,false] rfl rfl (by kernel_rfl) (fun _ _ _ h=>h) (Or.inl ⟨by rfl,?_⟩) hHeld ?_ ?_
            rotate_left
            · rintro w' ⟨s0,s1,s2,s3⟩
              go_simp
              with_reducible rfl
            rotate_left
            · simp only [Act.put,List.setIfInBounds_toArray,List.set_cons_zero,List.set_cons_succ,i64_w,i32_w]
              rfl
            refine one_ (i:=2) (N:=some 37) #[true,true,true,false,false] rfl rfl (by kernel_rfl) (by decide) (fun K hK=>?_)
            refine goes_ Try.func15 (by kernel_rfl) rfl #[.agg #[.int .i64 a0_0,.slice A0_1 l0_1.length c0_1]] (by rfl) rfl rfl (by (try simp only [List.map_toArray,List.map_cons,List.map_nil]);first|done|rfl|(simp only [List.length_drop,List.length_take];rfl)) ?_
            with_reducible refine (laws_toPage.calls kj10 a0_0 _ _ l0_1 t234 t235 _ ?side1 ?side2 A28.out).mono ?_
            (case side1=>repeat (first|exact (Kd.C_below HR0_1.out HB.out)|(with_reducible refine Kd.C_alloc ?_ _)|(with_reducible refine Kd.C_drewN ?_ _)|(with_reducible refine Kd.C_drew ?_)))
            (case side2=>exact HC0_1.out)
            rintro e w32 ⟨v236,rfl,ho0,hb⟩
            refine ⟨_,rfl,?_⟩
            have n0_:=qn.mk (Kd.R_elder' (by (with_reducible repeat (first|apply Kd.R_alloc|apply Kd.R_drewN|apply Kd.R_drew));exact HO_232001.out) (Kd.R_base ho0) hb)
            have n1_:=qn.mk (Kd.R_lower (Kd.R_new' ho0 (Kd.R_lt (by (with_reducible repeat (first|apply Kd.R_alloc|apply Kd.R_drewN|apply Kd.R_drew));exact HO_232001.out))) (qj (by repeat (first|(with_reducible first|exact HB.out|apply qf|apply qa|apply qd|refine qg ?_ GE219.out|refine qg ?_ GE231.out)|exact HB.out))))
            have n2_:=bb_ BK219 hb
            have n3_:=bb_ BK231 hb
            have n4_:=hs_ HB hb
            clear HO_232001
            clear BK219
            clear BK231
            clear HB
            have HO_232001:=n0_
            have HO237:=n1_
            have BK219:=n2_
            have BK231:=n3_
            have HB:=n4_
            clear n0_ n1_ n2_ n3_ n4_
            (try clear hb)
            (try clear hb2)
            (try clear hk)
            (try clear hi)
            (try clear ho0)
            obtain ⟨Ao33,co33,eo33⟩:=Kd.R_slice HO237.out
            (first|subst eo33|(injection eo33 with f1_ f2_ f3_;have f4_:=f1_.symm;have f5_:=f3_.symm;clear f1_ f2_ f3_;subst f4_;subst f5_))
            refine hK.out _ _ ⟨(qh BK231.out 0).trans rfl,(qh BK231.out 1).trans rfl,(qh BK219.out 0).trans rfl,(qh BK219.out 1).trans rfl⟩ (fun hHeld=>?_)
            clear hK K
            refine norm_ (a':=?_) ?_ ?_
            rotate_left
            · show Act.put _ (some 37) _ = _
              simp only [Act.put,List.setIfInBounds_toArray,List.set_cons_zero,List.set_cons_succ,i64_w,i32_w]
              rfl
            refine one_ (i:=3) (N:=some 38) #[true,true,true,true,false] rfl rfl (by kernel_rfl) (by decide) (fun K hK=>?_)
            refine goes_ Try.func17 (by kernel_rfl) rfl #[.agg #[.int .i64 t227,.slice Ao24 t228.length co24],.agg #[.int .i64 t234,.slice Ao33 t235.length co33]] (by rfl) rfl rfl (by (try simp only [List.map_toArray,List.map_cons,List.map_nil]);first|done|rfl|(simp only [List.length_drop,List.length_take];rfl)) ?_
            with_reducible refine (laws_eqPage.calls kj10 t227 _ _ t228 t234 _ _ t235 true _ ?side1 ?side2 ?side3 ?side4 A29.out).mono ?_
            (case side1=>repeat (first|exact (Kd.R_reads' HO_232001.out).2.2|(with_reducible refine Kd.C_alloc ?_ _)|(with_reducible refine Kd.C_drewN ?_ _)|(with_reducible refine Kd.C_drew ?_)))
            (case side2=>exact (Kd.R_reads' HO_232001.out).2.1)
            (case side3=>repeat (first|exact (Kd.R_reads' HO237.out).2.2|(with_reducible refine Kd.C_alloc ?_ _)|(with_reducible refine Kd.C_drewN ?_ _)|(with_reducible refine Kd.C_drew ?_)))
            (case side4=>exact (Kd.R_reads' HO237.out).2.1)
            rintro e w34 ⟨rfl,hb⟩
            refine ⟨_,rfl,?_⟩
            have n0_:=rb_ HO_232001 hb
            have n1_:=rb_ HO237 hb
            have n2_:=bb_ BK219 hb
            have n3_:=bb_ BK231 hb
            have n4_:=hs_ HB hb
            clear HO_232001
            clear HO237
            clear BK219
            clear BK231
            clear HB
            have HO_232001:=n0_
            have HO237:=n1_
            have BK219:=n2_
            have BK231:=n3_
            have HB:=n4_
            clear n0_ n1_ n2_ n3_ n4_
            (try clear hb)
            (try clear hb2)
            (try clear hk)
            (try clear hi)
            refine hK.out _ _ ⟨(qh BK231.out 0).trans rfl,(qh BK231.out 1).trans rfl,(qh BK219.out 0).trans rfl,(qh BK219.out 1).trans rfl⟩ (fun hHeld=>?_)
            clear hK K
            refine norm_ (a':=?_) ?_ ?_
            rotate_left
            · show Act.put _ (some 38) _ = _
              simp only [Act.put,List.setIfInBounds_toArray,List.set_cons_zero,List.set_cons_succ,i64_w,i32_w]
              rfl
            refine pure_ (i:=4) (N:=some 39) (v:=?_) (a':=?_) #[true,true,true,true,true] rfl rfl (by kernel_rfl) (fun _ _ _ h=>h) (Or.inl ⟨by rfl,?_⟩) ?_ ?_
            rotate_left
            · intro w'
              go_simp
              with_reducible rfl
            rotate_left
            · simp only [Act.put,List.setIfInBounds_toArray,List.set_cons_zero,List.set_cons_succ,i64_w,i32_w]
              rfl
            refine done_ (by kernel_rfl) ?_
            try go_wp2
            go_ret
            exact ⟨by first|rfl|(simp [errW_none,errW_some] <;> rfl)|(simp [*,errW_none,errW_some] <;> rfl),by repeat (first|(with_reducible first|exact HB.out|apply qf|apply qa|apply qd|refine qg ?_ GE219.out|refine qg ?_ GE231.out)|exact HB.out)⟩
          · replace c30:=Bool.eq_false_iff.mpr c30
            subst c30
            have H1 : (some false) = some r:=by rw [if_neg (show ¬ (false = true) by decide)] at H;exact H
            clear H
            have H:=H1
            clear H1
            obtain rfl:=Option.some.inj H
            try go_wp2
            have n0_:=qn.mk (Kd.R_drew HO_232001.out)
            have n1_:=qn.mk (qe BK219.out)
            have n2_:=qn.mk (qe BK231.out)
            have n3_:=qn.mk (qd HB.out)
            clear HO_232001
            clear BK219
            clear BK231
            clear HB
            have HO_232001:=n0_
            have BK219:=n1_
            have BK231:=n2_
            have HB:=n3_
            clear n0_ n1_ n2_ n3_
            refine start_ (n:=5) (S:=fun w'=>w'.cell? ⟨gb231,0,none⟩ = some (.int .i64 t227) ∧ w'.cell? ⟨gb231,1,none⟩ = some (.slice Ao24 t228.length co24) ∧ w'.cell? ⟨gb219,0,none⟩ = some (.int .i64 a0_0) ∧ w'.cell? ⟨gb219,1,none⟩ = some (.slice A0_1 l0_1.length c0_1)) (ds:=[]) #[false,false,false,false,false] (by kernel_rfl) rfl rfl ⟨(qh BK231.out 0).trans rfl,(qh BK231.out 1).trans rfl,(qh BK219.out 0).trans rfl,(qh BK219.out 1).trans rfl⟩ (fun hHeld=>?_)
            generalize wc.drew = w35 at HO_232001 BK219 BK231 HB hHeld ⊢
            refine take_ (i:=0) (N:=some 35) (v:=?_) (a':=?_) #[true,false,false,false,false] rfl rfl (by kernel_rfl) (fun _ _ _ h=>h) (Or.inl ⟨by rfl,?_⟩) hHeld ?_ ?_
            rotate_left
            · rintro w' ⟨s0,s1,s2,s3⟩
              go_simp
              with_reducible rfl
            rotate_left
            · simp only [Act.put,List.setIfInBounds_toArray,List.set_cons_zero,List.set_cons_succ,i64_w,i32_w]
              rfl
            refine take_ (i:=1) (N:=some 36) (v:=?_) (a':=?_) #[true,true,false,false,false] rfl rfl (by kernel_rfl) (fun _ _ _ h=>h) (Or.inl ⟨by rfl,?_⟩) hHeld ?_ ?_
            rotate_left
            · rintro w' ⟨s0,s1,s2,s3⟩
              go_simp
              with_reducible rfl
            rotate_left
            · simp only [Act.put,List.setIfInBounds_toArray,List.set_cons_zero,List.set_cons_succ,i64_w,i32_w]
              rfl
            refine one_ (i:=2) (N:=some 37) #[true,true,true,false,false] rfl rfl (by kernel_rfl) (by decide) (fun K hK=>?_)
            refine goes_ Try.func15 (by kernel_rfl) rfl #[.agg #[.int .i64 a0_0,.slice A0_1 l0_1.length c0_1]] (by rfl) rfl rfl (by (try simp only [List.map_toArray,List.map_cons,List.map_nil]);first|done|rfl|(simp only [List.length_drop,List.length_take];rfl)) ?_
            with_reducible refine (laws_toPage.calls kj10 a0_0 _ _ l0_1 t234 t235 _ ?side1 ?side2 A28.out).mono ?_
            (case side1=>repeat (first|exact (Kd.C_below HR0_1.out HB.out)|(with_reducible refine Kd.C_alloc ?_ _)|(with_reducible refine Kd.C_drewN ?_ _)|(with_reducible refine Kd.C_drew ?_)))
            (case side2=>exact HC0_1.out)
            rintro e w36 ⟨v236,rfl,ho0,hb⟩
            refine ⟨_,rfl,?_⟩
            have n0_:=qn.mk (Kd.R_elder' (by (with_reducible repeat (first|apply Kd.R_alloc|apply Kd.R_drewN|apply Kd.R_drew));exact HO_232001.out) (Kd.R_base ho0) hb)
            have n1_:=qn.mk (Kd.R_lower (Kd.R_new' ho0 (Kd.R_lt (by (with_reducible repeat (first|apply Kd.R_alloc|apply Kd.R_drewN|apply Kd.R_drew));exact HO_232001.out))) (qj (by repeat (first|(with_reducible first|exact HB.out|apply qf|apply qa|apply qd|refine qg ?_ GE219.out|refine qg ?_ GE231.out)|exact HB.out))))
            have n2_:=bb_ BK219 hb
            have n3_:=bb_ BK231 hb
            have n4_:=hs_ HB hb
            clear HO_232001
            clear BK219
            clear BK231
            clear HB
            have HO_232001:=n0_
            have HO237:=n1_
            have BK219:=n2_
            have BK231:=n3_
            have HB:=n4_
            clear n0_ n1_ n2_ n3_ n4_
            (try clear hb)
            (try clear hb2)
            (try clear hk)
            (try clear hi)
            (try clear ho0)
            obtain ⟨Ao37,co37,eo37⟩:=Kd.R_slice HO237.out
            (first|subst eo37|(injection eo37 with f1_ f2_ f3_;have f4_:=f1_.symm;have f5_:=f3_.symm;clear f1_ f2_ f3_;subst f4_;subst f5_))
            refine hK.out _ _ ⟨(qh BK231.out 0).trans rfl,(qh BK231.out 1).trans rfl,(qh BK219.out 0).trans rfl,(qh BK219.out 1).trans rfl⟩ (fun hHeld=>?_)
            clear hK K
            refine norm_ (a':=?_) ?_ ?_
            rotate_left
            · show Act.put _ (some 37) _ = _
              simp only [Act.put,List.setIfInBounds_toArray,List.set_cons_zero,List.set_cons_succ,i64_w,i32_w]
              rfl
            refine one_ (i:=3) (N:=some 38) #[true,true,true,true,false] rfl rfl (by kernel_rfl) (by decide) (fun K hK=>?_)
            refine goes_ Try.func17 (by kernel_rfl) rfl #[.agg #[.int .i64 t227,.slice Ao24 t228.length co24],.agg #[.int .i64 t234,.slice Ao37 t235.length co37]] (by rfl) rfl rfl (by (try simp only [List.map_toArray,List.map_cons,List.map_nil]);first|done|rfl|(simp only [List.length_drop,List.length_take];rfl)) ?_
            with_reducible refine (laws_eqPage.calls kj10 t227 _ _ t228 t234 _ _ t235 false _ ?side1 ?side2 ?side3 ?side4 A29.out).mono ?_
            (case side1=>repeat (first|exact (Kd.R_reads' HO_232001.out).2.2|(with_reducible refine Kd.C_alloc ?_ _)|(with_reducible refine Kd.C_drewN ?_ _)|(with_reducible refine Kd.C_drew ?_)))
            (case side2=>exact (Kd.R_reads' HO_232001.out).2.1)
            (case side3=>repeat (first|exact (Kd.R_reads' HO237.out).2.2|(with_reducible refine Kd.C_alloc ?_ _)|(with_reducible refine Kd.C_drewN ?_ _)|(with_reducible refine Kd.C_drew ?_)))
            (case side4=>exact (Kd.R_reads' HO237.out).2.1)
            rintro e w38 ⟨rfl,hb⟩
            refine ⟨_,rfl,?_⟩
            have n0_:=rb_ HO_232001 hb
            have n1_:=rb_ HO237 hb
            have n2_:=bb_ BK219 hb
            have n3_:=bb_ BK231 hb
            have n4_:=hs_ HB hb
            clear HO_232001
            clear HO237
            clear BK219
            clear BK231
            clear HB
            have HO_232001:=n0_
            have HO237:=n1_
            have BK219:=n2_
            have BK231:=n3_
            have HB:=n4_
            clear n0_ n1_ n2_ n3_ n4_
            (try clear hb)
            (try clear hb2)
            (try clear hk)
            (try clear hi)
            refine hK.out _ _ ⟨(qh BK231.out 0).trans rfl,(qh BK231.out 1).trans rfl,(qh BK219.out 0).trans rfl,(qh BK219.out 1).trans rfl⟩ (fun hHeld=>?_)
            clear hK K
            refine norm_ (a':=?_) ?_ ?_
            rotate_left
            · show Act.put _ (some 38) _ = _
              simp only [Act.put,List.setIfInBounds_toArray,List.set_cons_zero,List.set_cons_succ,i64_w,i32_w]
              rfl
            refine pure_ (i:=4) (N:=some 39) (v:=?_) (a':=?_) #[true,true,true,true,true] rfl rfl (by kernel_rfl) (fun _ _ _ h=>h) (Or.inl ⟨by rfl,?_⟩) ?_ ?_
            rotate_left
            · intro w'
              go_simp
              with_reducible rfl
            rotate_left
            · simp only [Act.put,List.setIfInBounds_toArray,List.set_cons_zero,List.set_cons_succ,i64_w,i32_w]
              rfl
            refine done_ (by kernel_rfl) ?_
            try go_wp2
            go_ret
            exact ⟨by first|rfl|(simp [errW_none,errW_some] <;> rfl)|(simp [*,errW_none,errW_some] <;> rfl),by repeat (first|(with_reducible first|exact HB.out|apply qf|apply qa|apply qd|refine qg ?_ GE219.out|refine qg ?_ GE231.out)|exact HB.out)⟩

end Go.Proofs.Ytcdofljgeiohgaa.QFnExactPageText
