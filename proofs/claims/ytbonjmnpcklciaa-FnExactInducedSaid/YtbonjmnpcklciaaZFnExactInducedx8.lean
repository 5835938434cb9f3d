/- Lean functions for the Go functions that the law FnExactInduced reaches, and that each Go function comes to just its Lean function's answer; by a program of this session. -/
import Derived.Test.YtbonjmnpcklciaaZFnExactInducedx0
import Derived.Test.YtbonjmnpcklciaaZFnExactInducedx1
import Derived.Test.YtbonjmnpcklciaaZFnExactInducedx3
import Derived.Test.YtbonjmnpcklciaaZFnExactInducedx6
import Derived.Test.YtbonjmnpcklciaaZFnExactInducedx7
namespace Go.Proofs.Ytbonjmnpcklciaa.QFnExactInduced
open Go.RowKit Go.Proofs.YtbonjmnpcklciaaW.PrintWords Go.Proofs.YtbonjmnpcklciaaW.PrintLast Go.Proofs.YtbonjmnpcklciaaW.PrintMore
attribute [local go_sem] max2_int min2_int max_two min_two max_three min_three max_four min_four   -- for this text's walks alone
set_option linter.unusedVariables false
set_option linter.unusedSimpArgs false

/-! ### laws_FnExactInduced: function 8 -/
mutual
def laws_FnExactInduced.j0 : Nat → List Int → Bool → List Int → Bool → Bool → Int → List (S187) → Int → List (S148) → Int → List (S148) → Int → List (S148) → Option (Bool)
  | 0,_,_,_,_,_,_,_,_,_,_,_,_,_=>none
  | k + 1,x1,x7,x9,x11,x51,x211000,x211001,x225000,x225001,x230000,x230001,x239000,x239001=>if x51 = true then (some false) else ((laws_toGraph.f k x211000 x211001).bind fun bt240=>((laws_eqGraph.f k x230000 x230001 bt240.1 bt240.2).bind fun t244=>(if t244 = true then ((laws_toIntS.f k x1).bind fun t245=>((laws_eqIntS.f k x9 t245).bind fun t248=>(if t248 = true then ((laws_markGraph.f k x230000 x230001 1).bind fun bt249=>((laws_markIntS.f k x9 bt249.1).bind fun bt251=>(if bt251.1 < 0 then (laws_FnExactInduced.j1 k x1 x7 true x211000 x211001 x225000 x225001 x239000 x239001) else ((laws_eqGraph.f k x239000 x239001 x225000 x225001).bind fun t253=>(if t253 = true then (laws_FnExactInduced.j1 k x1 x7 (x11 != x7) x211000 x211001 x225000 x225001 x239000 x239001) else (laws_FnExactInduced.j1 k x1 x7 true x211000 x211001 x225000 x225001 x239000 x239001)))))) else (some false)))) else (some false))))
def laws_FnExactInduced.j1 : Nat → List Int → Bool → Bool → Int → List (S187) → Int → List (S148) → Int → List (S148) → Option (Bool)
  | 0,_,_,_,_,_,_,_,_,_=>none
  | k + 1,x1,x7,x80,x211000,x211001,x225000,x225001,x239000,x239001=>if x80 = true then (some false) else ((laws_markGraph.f k x239000 x239001 1).bind fun bt254=>((laws_heldGraph.f k x239000 bt254.2 1).bind fun t256=>(if t256 < 0 then (some false) else (if t256 = bt254.1 then ((laws_toGraph.f k x211000 x211001).bind fun bt257=>((laws_toIntS.f k x1).bind fun t261=>((impl_Induced.f k bt257.1 bt257.2 t261).bind fun bt264=>((laws_eqGraph.f k bt264.1 bt264.2.1 x225000 x225001).bind fun t270=>(if t270 = true then (laws_FnExactInduced.j2 k bt254.1 (bt264.2.2 != x7) x239000 bt254.2) else (laws_FnExactInduced.j2 k bt254.1 true x239000 bt254.2)))))) else (some false)))))
def laws_FnExactInduced.j2 : Nat → Int → Bool → Int → List (S148) → Option (Bool)
  | 0,_,_,_,_=>none
  | k + 1,x13,x108,x239000,x239001=>if x108 = true then (some false) else ((laws_heldGraph.f k x239000 x239001 1).bind fun t271=>(if t271 < 0 then (some false) else (if t271 = x13 then (some true) else (some false))))
end
def laws_FnExactInduced.f (k : Nat) (a0_0 : Int) (l0_1 : List (S187)) (l1 : List Int) : Option (Bool):=if (l1.length : Int) > 1048576 then (some true) else ((laws_szGraph.f a0_0 l0_1 1048576).bind fun t211=>(if t211 < 0 then (some true) else ((laws_toGraph.f k a0_0 l0_1).bind fun bt212=>((laws_toIntS.f k l1).bind fun t216=>((spec_Induced.f k bt212.1 bt212.2 t216).bind fun bt219=>((laws_toGraph.f k a0_0 l0_1).bind fun bt225=>((laws_toIntS.f k l1).bind fun t230=>((impl_Induced.f k bt225.1 bt225.2 t230).bind fun bt233=>((laws_eqGraph.f k bt233.1 bt233.2.1 bt219.1 bt219.2.1).bind fun t239=>(if t239 = true then (laws_FnExactInduced.j0 k l1 bt219.2.2 t230 bt233.2.2 (bt233.2.2 != bt219.2.2) a0_0 l0_1 bt219.1 bt219.2.1 bt225.1 bt225.2 bt233.1 bt233.2.1) else (laws_FnExactInduced.j0 k l1 bt219.2.2 t230 bt233.2.2 true a0_0 l0_1 bt219.1 bt219.2.1 bt225.1 bt225.2 bt233.1 bt233.2.1)))))))))))
theorem laws_FnExactInduced.mono_l : ∀ k,(∀ y0 y1 y2 y3 y4 y5 y6 y7 y8 y9 y10 y11 y12,LeO (laws_FnExactInduced.j0 k y0 y1 y2 y3 y4 y5 y6 y7 y8 y9 y10 y11 y12) (laws_FnExactInduced.j0 (k + 1) y0 y1 y2 y3 y4 y5 y6 y7 y8 y9 y10 y11 y12)) ∧ (∀ y0 y1 y2 y3 y4 y5 y6 y7 y8,LeO (laws_FnExactInduced.j1 k y0 y1 y2 y3 y4 y5 y6 y7 y8) (laws_FnExactInduced.j1 (k + 1) y0 y1 y2 y3 y4 y5 y6 y7 y8)) ∧ (∀ y0 y1 y2 y3,LeO (laws_FnExactInduced.j2 k y0 y1 y2 y3) (laws_FnExactInduced.j2 (k + 1) y0 y1 y2 y3))
  | 0=>⟨fun _ _ _ _ _ _ _ _ _ _ _ _ _ r h=>by simp [laws_FnExactInduced.j0] at h,fun _ _ _ _ _ _ _ _ _ r h=>by simp [laws_FnExactInduced.j1] at h,fun _ _ _ _ r h=>by simp [laws_FnExactInduced.j2] at h⟩
  | k + 1=>by
    obtain ⟨ih0,ih1,ih2⟩:=laws_FnExactInduced.mono_l k
    refine ⟨?_,?_,?_⟩
    · intro y0 y1 y2 y3 y4 y5 y6 y7 y8 y9 y10 y11 y12
      unfold laws_FnExactInduced.j0
      repeat' first
      | (with_reducible exact ih0 _ _ _ _ _ _ _ _ _ _ _ _ _)
      | (with_reducible exact ih1 _ _ _ _ _ _ _ _ _)
      | (with_reducible exact ih2 _ _ _ _)
      | (with_reducible exact impl_Induced.mono _ _ _ _)
      | (with_reducible exact laws_eqGraph.mono _ _ _ _ _)
      | (with_reducible exact laws_eqIntS.mono _ _ _)
      | (with_reducible exact laws_heldGraph.mono _ _ _ _)
      | (with_reducible exact laws_markGraph.mono _ _ _ _)
      | (with_reducible exact laws_markIntS.mono _ _ _)
      | (with_reducible exact laws_toGraph.mono _ _ _)
      | (with_reducible exact laws_toIntS.mono _ _)
      | (with_reducible exact spec_Induced.mono _ _ _ _)
      | (with_reducible exact LeO.refl _)
      | (with_reducible exact LeO.none _)
      | (with_reducible refine LeO.ite ?_ ?_)
      | (with_reducible refine LeO.bind ?_ (fun _=>?_))
      | exact ih0 _ _ _ _ _ _ _ _ _ _ _ _ _
      | exact ih1 _ _ _ _ _ _ _ _ _
      | exact ih2 _ _ _ _
      | exact impl_Induced.mono _ _ _ _
      | exact laws_eqGraph.mono _ _ _ _ _
      | exact laws_eqIntS.mono _ _ _
      | exact laws_heldGraph.mono _ _ _ _
      | exact laws_markGraph.mono _ _ _ _
      | exact laws_markIntS.mono _ _ _
      | exact laws_toGraph.mono _ _ _
      | exact laws_toIntS.mono _ _
      | exact spec_Induced.mono _ _ _ _
      | exact LeO.none _
      | refine LeO.ite ?_ ?_
      | refine LeO.bind ?_ (fun _=>?_)
    · intro y0 y1 y2 y3 y4 y5 y6 y7 y8
      unfold laws_FnExactInduced.j1
      repeat' first
      | (with_reducible exact ih0 _ _ _ _ _ _ _ _ _ _ _ _ _)
      | (with_reducible exact ih1 _ _ _ _ _ _ _ _ _)
      | (with_reducible exact ih2 _ _ _ _)
      | (with_reducible exact impl_Induced.mono _ _ _ _)
      | (with_reducible exact laws_eqGraph.mono _ _ _ _ _)
      | (with_reducible exact laws_eqIntS.mono _ _ _)
      | (with_reducible exact laws_heldGraph.mono _ _ _ _)
      | (with_reducible exact laws_markGraph.mono _ _ _ _)
      | (with_reducible exact laws_markIntS.mono _ _ _)
      | (with_reducible exact laws_toGraph.mono _ _ _)
      | (with_reducible exact laws_toIntS.mono _ _)
      | (with_reducible exact spec_Induced.mono _ _ _ _)
      | (with_reducible exact LeO.refl _)
      | (with_reducible exact LeO.none _)
      | (with_reducible refine LeO.ite ?_ ?_)
      | (with_reducible refine LeO.bind ?_ (fun _=>?_))
      | exact ih0 _ _ _ _ _ _ _ _ _ _ _ _ _
      | exact ih1 _ _ _ _ _ _ _ _ _
      | exact ih2 _ _ _ _
      | exact impl_Induced.mono _ _ _ _
      | exact laws_eqGraph.mono _ _ _ _ _
      | exact laws_eqIntS.mono _ _ _
      | exact laws_heldGraph.mono _ _ _ _
      | exact laws_markGraph.mono _ _ _ _
      | exact laws_markIntS.mono _ _ _
      | exact laws_toGraph.mono _ _ _
      | exact laws_toIntS.mono _ _
      | exact spec_Induced.mono _ _ _ _
      | exact LeO.none _
      | refine LeO.ite ?_ ?_
      | refine LeO.bind ?_ (fun _=>?_)
    · intro y0 y1 y2 y3
      unfold laws_FnExactInduced.j2
      repeat' first
      | (with_reducible exact ih0 _ _ _ _ _ _ _ _ _ _ _ _ _)
      | (with_reducible exact ih1 _ _ _ _ _ _ _ _ _)
      | (with_reducible exact ih2 _ _ _ _)
      | (with_reducible exact impl_Induced.mono _ _ _ _)
      | (with_reducible exact laws_eqGraph.mono _ _ _ _ _)
      | (with_reducible exact laws_eqIntS.mono _ _ _)
      | (with_reducible exact laws_heldGraph.mono _ _ _ _)
      | (with_reducible exact laws_markGraph.mono _ _ _ _)
      | (with_reducible exact laws_markIntS.mono _ _ _)
      | (with_reducible exact laws_toGraph.mono _ _ _)
      | (with_reducible exact laws_toIntS.mono _ _)
      | (with_reducible exact spec_Induced.mono _ _ _ _)
      | (with_reducible exact LeO.refl _)
      | (with_reducible exact LeO.none _)
      | (with_reducible refine LeO.ite ?_ ?_)
      | (with_reducible refine LeO.bind ?_ (fun _=>?_))
      | exact ih0 _ _ _ _ _ _ _ _ _ _ _ _ _
      | exact ih1 _ _ _ _ _ _ _ _ _
      | exact ih2 _ _ _ _
      | exact impl_Induced.mono _ _ _ _
      | exact laws_eqGraph.mono _ _ _ _ _
      | exact laws_eqIntS.mono _ _ _
      | exact laws_heldGraph.mono _ _ _ _
      | exact laws_markGraph.mono _ _ _ _
      | exact laws_markIntS.mono _ _ _
      | exact laws_toGraph.mono _ _ _
      | exact laws_toIntS.mono _ _
      | exact spec_Induced.mono _ _ _ _
      | exact LeO.none _
      | refine LeO.ite ?_ ?_
      | refine LeO.bind ?_ (fun _=>?_)
theorem laws_FnExactInduced.mono : ∀ a0 a1 a2 k,LeO (laws_FnExactInduced.f k a0 a1 a2) (laws_FnExactInduced.f (k + 1) a0 a1 a2):=by
  intro a0 a1 a2 k
  obtain ⟨ih0,ih1,ih2⟩:=laws_FnExactInduced.mono_l k
  unfold laws_FnExactInduced.f
  repeat' first
      | (with_reducible exact ih0 _ _ _ _ _ _ _ _ _ _ _ _ _)
      | (with_reducible exact ih1 _ _ _ _ _ _ _ _ _)
      | (with_reducible exact ih2 _ _ _ _)
      | (with_reducible exact impl_Induced.mono _ _ _ _)
      | (with_reducible exact laws_eqGraph.mono _ _ _ _ _)
      | (with_reducible exact laws_eqIntS.mono _ _ _)
      | (with_reducible exact laws_heldGraph.mono _ _ _ _)
      | (with_reducible exact laws_markGraph.mono _ _ _ _)
      | (with_reducible exact laws_markIntS.mono _ _ _)
      | (with_reducible exact laws_toGraph.mono _ _ _)
      | (with_reducible exact laws_toIntS.mono _ _)
      | (with_reducible exact spec_Induced.mono _ _ _ _)
      | (with_reducible exact LeO.refl _)
      | (with_reducible exact LeO.none _)
      | (with_reducible refine LeO.ite ?_ ?_)
      | (with_reducible refine LeO.bind ?_ (fun _=>?_))
      | exact ih0 _ _ _ _ _ _ _ _ _ _ _ _ _
      | exact ih1 _ _ _ _ _ _ _ _ _
      | exact ih2 _ _ _ _
      | exact impl_Induced.mono _ _ _ _
      | exact laws_eqGraph.mono _ _ _ _ _
      | exact laws_eqIntS.mono _ _ _
      | exact laws_heldGraph.mono _ _ _ _
      | exact laws_markGraph.mono _ _ _ _
      | exact laws_markIntS.mono _ _ _
      | exact laws_toGraph.mono _ _ _
      | exact laws_toIntS.mono _ _
      | exact spec_Induced.mono _ _ _ _
      | exact LeO.none _
      | refine LeO.ite ?_ ?_
      | refine LeO.bind ?_ (fun _=>?_)
set_option maxHeartbeats 8000000 in
set_option maxRecDepth 100000 in
theorem laws_FnExactInduced.calls (k : Nat) (a0_0 : Int) (A0_1 : Option Addr) (c0_1 : Nat) (l0_1 : List (S187)) (A1 : Option Addr) (c1 : Nat) (l1 : List Int) (r : Bool) (w : World) (hr0_1 : Kd.C k187 w A0_1 l0_1.length l0_1) (hc0_1 : l0_1.length ≤ c0_1) (hr1 : Kd.C (Kd.int .i64) w A1 l1.length l1) (hc1 : l1.length ≤ c1) (h : laws_FnExactInduced.f k a0_0 l0_1 l1 = some r) :
    Calls Try.prog 8 #[.agg #[.int .i64 a0_0,.slice A0_1 l0_1.length c0_1],.slice A1 l1.length c1] w fun e w'=>e = .returned (.bool r) ∧ Below w.heap.size w w':=by
  have hu49:=Try.underlying49
  have hu56:=Try.underlying56
  have HR0_1:=qn.mk hr0_1
  have HC0_1:=qn.mk hc0_1
  clear hr0_1 hc0_1
  have HR1:=qn.mk hr1
  have HC1:=qn.mk hc1
  clear hr1 hc1
  have HB:=qn.mk (Below.refl w.heap.size w)
  have H : (if (l1.length : Int) > 1048576 then (some true) else ((laws_szGraph.f a0_0 l0_1 1048576).bind fun t211=>(if t211 < 0 then (some true) else ((laws_toGraph.f k a0_0 l0_1).bind fun bt212=>((laws_toIntS.f k l1).bind fun t216=>((spec_Induced.f k bt212.1 bt212.2 t216).bind fun bt219=>((laws_toGraph.f k a0_0 l0_1).bind fun bt225=>((laws_toIntS.f k l1).bind fun t230=>((impl_Induced.f k bt225.1 bt225.2 t230).bind fun bt233=>((laws_eqGraph.f k bt233.1 bt233.2.1 bt219.1 bt219.2.1).bind fun t239=>(if t239 = true then (laws_FnExactInduced.j0 k l1 bt219.2.2 t230 bt233.2.2 (bt233.2.2 != bt219.2.2) a0_0 l0_1 bt219.1 bt219.2.1 bt225.1 bt225.2 bt233.1 bt233.2.1) else (laws_FnExactInduced.j0 k l1 bt219.2.2 t230 bt233.2.2 true a0_0 l0_1 bt219.1 bt219.2.1 bt225.1 bt225.2 bt233.1 bt233.2.1)))))))))))) = some r:=h
  clear h
  by_cases c3 : (l1.length : Int) > 1048576
  · rw [if_pos c3] at H
    have c3b0 : decide (1048576 < (l1.length : Int)) = true:=decide_eq_true c3
    have c3b1 : decide (1048576 < l1.length) = true:=decide_eq_true (by omega)
    clear c3
    obtain rfl:=Option.some.inj H
    go_enter Try.func8,Try.ntmps8
    go_wp2_with (first|((with_reducible refine gate_dst (N:=2) rfl ?_);refine box_event ?hg (N:=2) ?hd (cs:=#[.int .i64 a0_0,.slice A0_1 l0_1.length c0_1]) (t:=49) ?hr ?_;(case hd=>rfl);(case hg=>rfl);(case hr=>first|(go_simp;done)|(go_simp;rfl));intro gb210 hg w4 hbox hb;have n0_:=hs_ HB hb;have n1_:=qn.mk (hbox);have n2_:=qn.mk ((by rw [hg];exact (qj (by repeat (first|(with_reducible first|exact HB.out|apply qf|apply qa|apply qd)|exact HB.out))) : w.heap.size ≤ gb210));have n3_:=qn.mk ((by rw [hg];exact (qj (by repeat (first|(with_reducible first|exact HB.out|apply qf|apply qa|apply qd)|exact HB.out))) : w.heap.size ≤ gb210));clear HB;have HB:=n0_;have BK210:=n1_;have GW210:=n2_;have GE210:=n3_;clear n0_ n1_ n2_ n3_;clear hb hbox hg))
    go_ret
    exact ⟨by first|rfl|(simp [errW_none,errW_some] <;> rfl)|(simp [*,errW_none,errW_some] <;> rfl),by repeat (first|(with_reducible first|exact HB.out|apply qf|apply qa|apply qd|refine qg ?_ GE210.out)|exact HB.out)⟩
  · rw [if_neg c3] at H
    have c3b0 : decide (1048576 < (l1.length : Int)) = false:=decide_eq_false c3
    have c3b1 : decide (1048576 < l1.length) = false:=decide_eq_false (by omega)
    clear c3
    replace H:=Option.bind_eq_some_iff.mp H
    obtain ⟨t211,A50,H⟩:=H
    replace H : (if t211 < 0 then (some true) else ((laws_toGraph.f k a0_0 l0_1).bind fun bt212=>((laws_toIntS.f k l1).bind fun t216=>((spec_Induced.f k bt212.1 bt212.2 t216).bind fun bt219=>((laws_toGraph.f k a0_0 l0_1).bind fun bt225=>((laws_toIntS.f k l1).bind fun t230=>((impl_Induced.f k bt225.1 bt225.2 t230).bind fun bt233=>((laws_eqGraph.f k bt233.1 bt233.2.1 bt219.1 bt219.2.1).bind fun t239=>(if t239 = true then (laws_FnExactInduced.j0 k l1 bt219.2.2 t230 bt233.2.2 (bt233.2.2 != bt219.2.2) a0_0 l0_1 bt219.1 bt219.2.1 bt225.1 bt225.2 bt233.1 bt233.2.1) else (laws_FnExactInduced.j0 k l1 bt219.2.2 t230 bt233.2.2 true a0_0 l0_1 bt219.1 bt219.2.1 bt225.1 bt225.2 bt233.1 bt233.2.1)))))))))) = some r:=H
    have A5:=qn.mk A50
    clear A50
    by_cases c6 : t211 < 0
    · rw [if_pos c6] at H
      have c6b0 : decide (t211 < 0) = true:=decide_eq_true c6
      clear c6
      obtain rfl:=Option.some.inj H
      go_enter Try.func8,Try.ntmps8
      go_wp2_with (first|((with_reducible refine gate_dst (N:=2) rfl ?_);refine box_event ?hg (N:=2) ?hd (cs:=#[.int .i64 a0_0,.slice A0_1 l0_1.length c0_1]) (t:=49) ?hr ?_;(case hd=>rfl);(case hg=>rfl);(case hr=>first|(go_simp;done)|(go_simp;rfl));intro gb210 hg w7 hbox hb;have n0_:=hs_ HB hb;have n1_:=qn.mk (hbox);have n2_:=qn.mk ((by rw [hg];exact (qj (by repeat (first|(with_reducible first|exact HB.out|apply qf|apply qa|apply qd)|exact HB.out))) : w.heap.size ≤ gb210));have n3_:=qn.mk ((by rw [hg];exact (qj (by repeat (first|(with_reducible first|exact HB.out|apply qf|apply qa|apply qd)|exact HB.out))) : w.heap.size ≤ gb210));clear HB;have HB:=n0_;have BK210:=n1_;have GW210:=n2_;have GE210:=n3_;clear n0_ n1_ n2_ n3_;clear hb hbox hg;have hcz8_0 : w7.cell? ⟨gb210,0,none⟩ = some (.int .i64 a0_0):=(qh BK210.out 0).trans rfl;have hcz8_1 : w7.cell? ⟨gb210,1,none⟩ = some (.slice A0_1 l0_1.length c0_1):=(qh BK210.out 1).trans rfl;have hfz8_0:=qi BK210.out 0;have hfz8_1:=qi BK210.out 1)|((with_reducible refine gate_callee (f:=27) rfl ?_);refine goesL_ (some 22) rfl rfl Try.func27 (by kernel_rfl) rfl #[.agg #[.int .i64 a0_0,.slice A0_1 l0_1.length c0_1],.int .i64 1048576] rfl (by (try simp only [List.map_toArray,List.map_cons,List.map_nil]);first|done|rfl|(simp only [List.length_drop,List.length_take];rfl)) ?_;(with_reducible refine (laws_szGraph.calls a0_0 _ _ l0_1 1048576 t211 _ ?side1 ?side2 A5.out).mono ?_);(case side1=>repeat (first|exact (Kd.C_below HR0_1.out HB.out)|(with_reducible refine Kd.C_alloc ?_ _)|(with_reducible refine Kd.C_drewN ?_ _)|(with_reducible refine Kd.C_drew ?_)));(case side2=>exact HC0_1.out);rintro e w9 ⟨rfl,hb⟩;refine ⟨_,rfl,?_⟩;have n0_:=bb_ BK210 hb;have n1_:=hs_ HB hb;clear BK210;clear HB;have BK210:=n0_;have HB:=n1_;clear n0_ n1_;(try clear hb);(try clear hb2);(try clear hk);(try clear hi)))
      go_ret
      exact ⟨by first|rfl|(simp [errW_none,errW_some] <;> rfl)|(simp [*,errW_none,errW_some] <;> rfl),by repeat (first|(with_reducible first|exact HB.out|apply qf|apply qa|apply qd|refine qg ?_ GE210.out)|exact HB.out)⟩
    · rw [if_neg c6] at H
      have c6b0 : decide (t211 < 0) = false:=decide_eq_false c6
      clear c6
      replace H:=Option.bind_eq_some_iff.mp H
      obtain ⟨⟨t212,t213⟩,A100,H⟩:=H
      replace H : ((laws_toIntS.f k l1).bind fun t216=>((spec_Induced.f k t212 t213 t216).bind fun bt219=>((laws_toGraph.f k a0_0 l0_1).bind fun bt225=>((laws_toIntS.f k l1).bind fun t230=>((impl_Induced.f k bt225.1 bt225.2 t230).bind fun bt233=>((laws_eqGraph.f k bt233.1 bt233.2.1 bt219.1 bt219.2.1).bind fun t239=>(if t239 = true then (laws_FnExactInduced.j0 k l1 bt219.2.2 t230 bt233.2.2 (bt233.2.2 != bt219.2.2) a0_0 l0_1 bt219.1 bt219.2.1 bt225.1 bt225.2 bt233.1 bt233.2.1) else (laws_FnExactInduced.j0 k l1 bt219.2.2 t230 bt233.2.2 true a0_0 l0_1 bt219.1 bt219.2.1 bt225.1 bt225.2 bt233.1 bt233.2.1)))))))) = some r:=H
      have A10:=qn.mk A100
      clear A100
      replace H:=Option.bind_eq_some_iff.mp H
      obtain ⟨t216,A110,H⟩:=H
      replace H : ((spec_Induced.f k t212 t213 t216).bind fun bt219=>((laws_toGraph.f k a0_0 l0_1).bind fun bt225=>((laws_toIntS.f k l1).bind fun t230=>((impl_Induced.f k bt225.1 bt225.2 t230).bind fun bt233=>((laws_eqGraph.f k bt233.1 bt233.2.1 bt219.1 bt219.2.1).bind fun t239=>(if t239 = true then (laws_FnExactInduced.j0 k l1 bt219.2.2 t230 bt233.2.2 (bt233.2.2 != bt219.2.2) a0_0 l0_1 bt219.1 bt219.2.1 bt225.1 bt225.2 bt233.1 bt233.2.1) else (laws_FnExactInduced.j0 k l1 bt219.2.2 t230 bt233.2.2 true a0_0 l0_1 bt219.1 bt219.2.1 bt225.1 bt225.2 bt233.1 bt233.2.1))))))) = some r:=H
      have A11:=qn.mk A110
      clear A110
      replace H:=Option.bind_eq_some_iff.mp H
      obtain ⟨⟨t219,t220,t223⟩,A120,H⟩:=H
      replace H : ((laws_toGraph.f k a0_0 l0_1).bind fun bt225=>((laws_toIntS.f k l1).bind fun t230=>((impl_Induced.f k bt225.1 bt225.2 t230).bind fun bt233=>((laws_eqGraph.f k bt233.1 bt233.2.1 t219 t220).bind fun t239=>(if t239 = true then (laws_FnExactInduced.j0 k l1 t223 t230 bt233.2.2 (bt233.2.2 != t223) a0_0 l0_1 t219 t220 bt225.1 bt225.2 bt233.1 bt233.2.1) else (laws_FnExactInduced.j0 k l1 t223 t230 bt233.2.2 true a0_0 l0_1 t219 t220 bt225.1 bt225.2 bt233.1 bt233.2.1)))))) = some r:=H
      have A12:=qn.mk A120
      clear A120
      replace H:=Option.bind_eq_some_iff.mp H
      obtain ⟨⟨t225,t226⟩,A130,H⟩:=H
      replace H : ((laws_toIntS.f k l1).bind fun t230=>((impl_Induced.f k t225 t226 t230).bind fun bt233=>((laws_eqGraph.f k bt233.1 bt233.2.1 t219 t220).bind fun t239=>(if t239 = true then (laws_FnExactInduced.j0 k l1 t223 t230 bt233.2.2 (bt233.2.2 != t223) a0_0 l0_1 t219 t220 t225 t226 bt233.1 bt233.2.1) else (laws_FnExactInduced.j0 k l1 t223 t230 bt233.2.2 true a0_0 l0_1 t219 t220 t225 t226 bt233.1 bt233.2.1))))) = some r:=H
      have A13:=qn.mk A130
      clear A130
      replace H:=Option.bind_eq_some_iff.mp H
      obtain ⟨t230,A140,H⟩:=H
      replace H : ((impl_Induced.f k t225 t226 t230).bind fun bt233=>((laws_eqGraph.f k bt233.1 bt233.2.1 t219 t220).bind fun t239=>(if t239 = true then (laws_FnExactInduced.j0 k l1 t223 t230 bt233.2.2 (bt233.2.2 != t223) a0_0 l0_1 t219 t220 t225 t226 bt233.1 bt233.2.1) else (laws_FnExactInduced.j0 k l1 t223 t230 bt233.2.2 true a0_0 l0_1 t219 t220 t225 t226 bt233.1 bt233.2.1)))) = some r:=H
      have A14:=qn.mk A140
      clear A140
      replace H:=Option.bind_eq_some_iff.mp H
      obtain ⟨⟨t233,t234,t237⟩,A150,H⟩:=H
      replace H : ((laws_eqGraph.f k t233 t234 t219 t220).bind fun t239=>(if t239 = true then (laws_FnExactInduced.j0 k l1 t223 t230 t237 (t237 != t223) a0_0 l0_1 t219 t220 t225 t226 t233 t234) else (laws_FnExactInduced.j0 k l1 t223 t230 t237 true a0_0 l0_1 t219 t220 t225 t226 t233 t234))) = some r:=H
      have A15:=qn.mk A150
      clear A150
      have HC16:=qn.mk H
      clear H
      go_enter Try.func8,Try.ntmps8
      go_upto_region 11 with (first|((with_reducible refine gate_dst (N:=2) rfl ?_);refine box_event ?hg (N:=2) ?hd (cs:=#[.int .i64 a0_0,.slice A0_1 l0_1.length c0_1]) (t:=49) ?hr ?_;(case hd=>rfl);(case hg=>rfl);(case hr=>first|(go_simp;done)|(go_simp;rfl));intro gb210 hg w17 hbox hb;have n0_:=hs_ HB hb;have n1_:=qn.mk (hbox);have n2_:=qn.mk ((by rw [hg];exact (qj (by repeat (first|(with_reducible first|exact HB.out|apply qf|apply qa|apply qd)|exact HB.out))) : w.heap.size ≤ gb210));have n3_:=qn.mk ((by rw [hg];exact (qj (by repeat (first|(with_reducible first|exact HB.out|apply qf|apply qa|apply qd)|exact HB.out))) : w.heap.size ≤ gb210));clear HB;have HB:=n0_;have BK210:=n1_;have GW210:=n2_;have GE210:=n3_;clear n0_ n1_ n2_ n3_;clear hb hbox hg;have hcz18_0 : w17.cell? ⟨gb210,0,none⟩ = some (.int .i64 a0_0):=(qh BK210.out 0).trans rfl;have hcz18_1 : w17.cell? ⟨gb210,1,none⟩ = some (.slice A0_1 l0_1.length c0_1):=(qh BK210.out 1).trans rfl;have hfz18_0:=qi BK210.out 0;have hfz18_1:=qi BK210.out 1)|((with_reducible refine gate_callee (f:=27) rfl ?_);refine goesL_ (some 22) rfl rfl Try.func27 (by kernel_rfl) rfl #[.agg #[.int .i64 a0_0,.slice A0_1 l0_1.length c0_1],.int .i64 1048576] rfl (by (try simp only [List.map_toArray,List.map_cons,List.map_nil]);first|done|rfl|(simp only [List.length_drop,List.length_take];rfl)) ?_;(with_reducible refine (laws_szGraph.calls a0_0 _ _ l0_1 1048576 t211 _ ?side1 ?side2 A5.out).mono ?_);(case side1=>repeat (first|exact (Kd.C_below HR0_1.out HB.out)|(with_reducible refine Kd.C_alloc ?_ _)|(with_reducible refine Kd.C_drewN ?_ _)|(with_reducible refine Kd.C_drew ?_)));(case side2=>exact HC0_1.out);rintro e w19 ⟨rfl,hb⟩;refine ⟨_,rfl,?_⟩;have n0_:=bb_ BK210 hb;have n1_:=hs_ HB hb;clear BK210;clear HB;have BK210:=n0_;have HB:=n1_;clear n0_ n1_;(try clear hb);(try clear hb2);(try clear hk);(try clear hi);have hcz20_0 : w19.cell? ⟨gb210,0,none⟩ = some (.int .i64 a0_0):=(qh BK210.out 0).trans rfl;have hcz20_1 : w19.cell? ⟨gb210,1,none⟩ = some (.slice A0_1 l0_1.length c0_1):=(qh BK210.out 1).trans rfl;have hfz20_0:=qi BK210.out 0;have hfz20_1:=qi BK210.out 1)|((with_reducible refine gate_callee (f:=30) rfl ?_);refine goesL_ (some 27) rfl rfl Try.func30 (by kernel_rfl) rfl #[.agg #[.int .i64 a0_0,.slice A0_1 l0_1.length c0_1]] rfl (by (try simp only [List.map_toArray,List.map_cons,List.map_nil]);first|done|rfl|(simp only [List.length_drop,List.length_take];rfl)) ?_;(with_reducible refine (laws_toGraph.calls k a0_0 _ _ l0_1 t212 t213 _ ?side1 ?side2 A10.out).mono ?_);(case side1=>repeat (first|exact (Kd.C_below HR0_1.out HB.out)|(with_reducible refine Kd.C_alloc ?_ _)|(with_reducible refine Kd.C_drewN ?_ _)|(with_reducible refine Kd.C_drew ?_)));(case side2=>exact HC0_1.out);rintro e w21 ⟨v214,rfl,ho0,hb⟩;refine ⟨_,rfl,?_⟩;have n0_:=qn.mk (Kd.R_lower ho0 (qj (by repeat (first|(with_reducible first|exact HB.out|apply qf|apply qa|apply qd|refine qg ?_ GE210.out)|exact HB.out))));have n1_:=bb_ BK210 hb;have n2_:=hs_ HB hb;clear BK210;clear HB;have HO215:=n0_;have BK210:=n1_;have HB:=n2_;clear n0_ n1_ n2_;(try clear hb);(try clear hb2);(try clear hk);(try clear hi);(try clear ho0))|((with_reducible refine gate_callee (f:=42) rfl ?_);refine goesL_ (some 29) rfl rfl Try.func42 (by kernel_rfl) rfl #[.slice A1 l1.length c1] rfl (by (try simp only [List.map_toArray,List.map_cons,List.map_nil]);first|done|rfl|(simp only [List.length_drop,List.length_take];rfl)) ?_;(with_reducible refine (laws_toIntS.calls k _ _ l1 t216 _ ?side1 ?side2 A11.out).mono ?_);(case side1=>repeat (first|exact (Kd.C_below HR1.out HB.out)|(with_reducible refine Kd.C_alloc ?_ _)|(with_reducible refine Kd.C_drewN ?_ _)|(with_reducible refine Kd.C_drew ?_)));(case side2=>exact HC1.out);rintro e w22 ⟨v217,rfl,ho0,hb⟩;refine ⟨_,rfl,?_⟩;have n0_:=rb_ HO215 hb;have n1_:=qn.mk (Kd.R_lower ho0 (qj (by repeat (first|(with_reducible first|exact HB.out|apply qf|apply qa|apply qd|refine qg ?_ GE210.out)|exact HB.out))));have n2_:=bb_ BK210 hb;have n3_:=hs_ HB hb;clear HO215;clear BK210;clear HB;have HO215:=n0_;have HO218:=n1_;have BK210:=n2_;have HB:=n3_;clear n0_ n1_ n2_ n3_;(try clear hb);(try clear hb2);(try clear hk);(try clear hi);(try clear ho0);obtain ⟨Ao23,co23,eo23⟩:=Kd.R_slice HO215.out;subst eo23;obtain ⟨Ao24,co24,eo24⟩:=Kd.R_slice HO218.out;subst eo24)|((with_reducible refine gate_callee (f:=41) rfl ?_);refine goesL_ (some 30) rfl rfl Try.func41 (by kernel_rfl) rfl #[.agg #[.int .i64 t212,.slice Ao23 t213.length co23],.slice Ao24 t216.length co24] rfl (by (try simp only [List.map_toArray,List.map_cons,List.map_nil]);first|done|rfl|(simp only [List.length_drop,List.length_take];rfl)) ?_;(with_reducible refine (spec_Induced.calls k t212 _ _ t213 _ _ t216 t219 t220 t223 _ ?side1 ?side2 ?side3 ?side4 A12.out).mono ?_);(case side1=>repeat (first|exact (Kd.R_reads' HO215.out).2.2|(with_reducible refine Kd.C_alloc ?_ _)|(with_reducible refine Kd.C_drewN ?_ _)|(with_reducible refine Kd.C_drew ?_)));(case side2=>exact (Kd.R_reads' HO215.out).2.1);(case side3=>repeat (first|exact (Kd.R_reads' HO218.out).2.2|(with_reducible refine Kd.C_alloc ?_ _)|(with_reducible refine Kd.C_drewN ?_ _)|(with_reducible refine Kd.C_drew ?_)));(case side4=>exact (Kd.R_reads' HO218.out).2.1);rintro e w25 ⟨v221,rfl,ho0,hb⟩;refine ⟨_,rfl,?_⟩;have n0_:=qn.mk (Kd.R_elder' (by (with_reducible repeat (first|apply Kd.R_alloc|apply Kd.R_drewN|apply Kd.R_drew));exact HO215.out) (Kd.R_base ho0) hb);have n1_:=rb_ HO218 hb;have n2_:=qn.mk (Kd.R_lower (Kd.R_new' ho0 (Kd.R_lt (by (with_reducible repeat (first|apply Kd.R_alloc|apply Kd.R_drewN|apply Kd.R_drew));exact HO215.out))) (qj (by repeat (first|(with_reducible first|exact HB.out|apply qf|apply qa|apply qd|refine qg ?_ GE210.out)|exact HB.out))));have n3_:=bb_ BK210 hb;have n4_:=hs_ HB hb;clear HO215;clear HO218;clear BK210;clear HB;have HO215:=n0_;have HO218:=n1_;have HO222:=n2_;have BK210:=n3_;have HB:=n4_;clear n0_ n1_ n2_ n3_ n4_;(try clear hb);(try clear hb2);(try clear hk);(try clear hi);(try clear ho0))|((with_reducible refine gate_dst (N:=6) rfl ?_);refine box_event ?hg (N:=6) ?hd (cs:=#[.int .i64 0,.slice none 0 0]) (t:=56) ?hr ?_;(case hd=>rfl);(case hg=>rfl);(case hr=>first|(go_simp;done)|(go_simp;rfl));intro gb224 hg w26 hbox hb;have n0_:=rb_ HO215 hb;have n1_:=rb_ HO218 hb;have n2_:=rb_ HO222 hb;have n3_:=bb_ BK210 hb;have n4_:=hs_ HB hb;have n5_:=qn.mk (hbox);have n6_:=qn.mk ((by rw [hg];exact (qj (by repeat (first|(with_reducible first|exact HB.out|apply qf|apply qa|apply qd|refine qg ?_ GE210.out)|exact HB.out))) : w.heap.size ≤ gb224));have n7_:=qn.mk ((by rw [hg];exact (qj (by repeat (first|(with_reducible first|exact HB.out|apply qf|apply qa|apply qd|refine qg ?_ GE210.out)|exact HB.out))) : w.heap.size ≤ gb224));have n8_:=qn.mk ((by rw [hg];exact nl_ BK210 : gb210 ≠ gb224));have n9_:=qn.mk ((by rw [hg];exact ng_ BK210 : gb224 ≠ gb210));clear HO215;clear HO218;clear HO222;clear BK210;clear HB;have HO215:=n0_;have HO218:=n1_;have HO222:=n2_;have BK210:=n3_;have HB:=n4_;have BK224:=n5_;have GW224:=n6_;have GE224:=n7_;have NB210_224:=n8_;have NB224_210:=n9_;clear n0_ n1_ n2_ n3_ n4_ n5_ n6_ n7_ n8_ n9_;clear hb hbox hg;have hnb27:=NB224_210.out;have hnc27:=NB210_224.out;have hcz28_0 : w26.cell? ⟨gb224,0,none⟩ = some (.int .i64 0):=(qh BK224.out 0).trans rfl;have hcz28_1 : w26.cell? ⟨gb224,1,none⟩ = some (.slice none 0 0):=(qh BK224.out 1).trans rfl;have hfz28_0:=qi BK224.out 0;have hfz28_1:=qi BK224.out 1;obtain ⟨Ao29,co29,eo29⟩:=Kd.R_slice HO222.out;subst eo29;have hcz30_0 : w26.cell? ⟨gb210,0,none⟩ = some (.int .i64 a0_0):=(qh BK210.out 0).trans rfl;have hcz30_1 : w26.cell? ⟨gb210,1,none⟩ = some (.slice A0_1 l0_1.length c0_1):=(qh BK210.out 1).trans rfl;have hfz30_0:=qi BK210.out 0;have hfz30_1:=qi BK210.out 1)|((with_reducible refine gate_callee (f:=30) rfl ?_);refine goesL_ (some 34) rfl rfl Try.func30 (by kernel_rfl) rfl #[.agg #[.int .i64 a0_0,.slice A0_1 l0_1.length c0_1]] rfl (by (try simp only [List.map_toArray,List.map_cons,List.map_nil]);first|done|rfl|(simp only [List.length_drop,List.length_take];rfl)) ?_;(with_reducible refine (laws_toGraph.calls k a0_0 _ _ l0_1 t225 t226 _ ?side1 ?side2 A13.out).mono ?_);(case side1=>exact Kd.C_below HR0_1.out (by repeat (first|(with_reducible first|exact HB.out|apply qf|apply qa|apply qd|refine qg ?_ GE210.out|refine qg ?_ GE224.out)|exact HB.out)));(case side2=>exact HC0_1.out);rintro e w31 ⟨v227,rfl,ho0,hb⟩;refine ⟨_,rfl,?_⟩;have n0_:=qn.mk (Kd.R_elder' (by (with_reducible repeat (first|apply Kd.R_alloc|apply Kd.R_drewN|apply Kd.R_drew));exact (Kd.R_mono (Kd.R_far (p:=⟨gb224,1,none⟩) (Kd.R_far (p:=⟨gb224,0,none⟩) (Kd.R_types HO215.out BK224.out (by decide)) (fun _ hk=>hk.2) (.int .i64 t219)) (fun _ hk=>hk.2) (.slice Ao29 t220.length co29)) (fun _ h_=>h_.1))) (Kd.R_base ho0) hb);have n1_:=qn.mk (Kd.R_below (by (with_reducible repeat (first|apply Kd.R_alloc|apply Kd.R_drewN|apply Kd.R_drew));exact (Kd.R_mono (Kd.R_far (p:=⟨gb224,1,none⟩) (Kd.R_far (p:=⟨gb224,0,none⟩) (Kd.R_types HO218.out BK224.out (by decide)) (fun _ hk=>hk.2) (.int .i64 t219)) (fun _ hk=>hk.2) (.slice Ao29 t220.length co29)) (fun _ h_=>h_.1))) hb);have n2_:=qn.mk (Kd.R_elder' (by (with_reducible repeat (first|apply Kd.R_alloc|apply Kd.R_drewN|apply Kd.R_drew));exact (Kd.R_mono (Kd.R_far (p:=⟨gb224,1,none⟩) (Kd.R_far (p:=⟨gb224,0,none⟩) (Kd.R_types HO222.out BK224.out (by decide)) (fun _ hk=>hk.2) (.int .i64 t219)) (fun _ hk=>hk.2) (.slice Ao29 t220.length co29)) (fun _ h_=>h_.1))) (Kd.R_base ho0) hb);have n3_:=qn.mk (Kd.R_lower (Kd.R_new' (Kd.R_new' ho0 (Kd.R_lt (by (with_reducible repeat (first|apply Kd.R_alloc|apply Kd.R_drewN|apply Kd.R_drew));exact (Kd.R_mono (Kd.R_far (p:=⟨gb224,1,none⟩) (Kd.R_far (p:=⟨gb224,0,none⟩) (Kd.R_types HO215.out BK224.out (by decide)) (fun _ hk=>hk.2) (.int .i64 t219)) (fun _ hk=>hk.2) (.slice Ao29 t220.length co29)) (fun _ h_=>h_.1))))) (Kd.R_lt (by (with_reducible repeat (first|apply Kd.R_alloc|apply Kd.R_drewN|apply Kd.R_drew));exact (Kd.R_mono (Kd.R_far (p:=⟨gb224,1,none⟩) (Kd.R_far (p:=⟨gb224,0,none⟩) (Kd.R_types HO222.out BK224.out (by decide)) (fun _ hk=>hk.2) (.int .i64 t219)) (fun _ hk=>hk.2) (.slice Ao29 t220.length co29)) (fun _ h_=>h_.1))))) (qj (by repeat (first|(with_reducible first|exact HB.out|apply qf|apply qa|apply qd|refine qg ?_ GE210.out|refine qg ?_ GE224.out)|exact HB.out))));have n4_:=qn.mk (ql (g:=gb210) (o:=.cells #[.int .i64 a0_0,.slice A0_1 l0_1.length c0_1] 49 (0,0)) (by (with_reducible repeat (first|refine qb ?_ _|refine qe ?_|refine qc ?_ _));refine blk_far ?_ NB210_224.out _;(with_reducible repeat (first|refine qb ?_ _|refine qe ?_|refine qc ?_ _));refine blk_far ?_ NB210_224.out _;(with_reducible repeat (first|refine qb ?_ _|refine qe ?_|refine qc ?_ _));exact BK210.out) hb);have n5_:=qn.mk (ql (g:=gb224) (o:=.cells #[.int .i64 t219,.slice Ao29 t220.length co29] 56 (0,0)) (by (with_reducible repeat (first|refine qb ?_ _|refine qe ?_|refine qc ?_ _));refine blk_put (cs:=#[.int .i64 t219,.slice none 0 0]) ?_ 1 _ rfl;(with_reducible repeat (first|refine qb ?_ _|refine qe ?_|refine qc ?_ _));refine blk_put (cs:=#[.int .i64 0,.slice none 0 0]) ?_ 0 _ rfl;(with_reducible repeat (first|refine qb ?_ _|refine qe ?_|refine qc ?_ _));exact BK224.out) hb);have n6_:=hs_ HB hb;clear HO215;clear HO218;clear HO222;clear BK210;clear BK224;clear HB;have HO215:=n0_;have HO218:=n1_;have HO222:=n2_;have HO228:=n3_;have BK210:=n4_;have BK224:=n5_;have HB:=n6_;clear n0_ n1_ n2_ n3_ n4_ n5_ n6_;(try clear hb);(try clear hb2);(try clear hk);(try clear hi);(try clear ho0))|((with_reducible refine gate_dst (N:=8) rfl ?_);refine box_event ?hg (N:=8) ?hd (cs:=#[.int .i64 0,.slice none 0 0]) (t:=56) ?hr ?_;(case hd=>rfl);(case hg=>rfl);(case hr=>first|(go_simp;done)|(go_simp;rfl));intro gb229 hg w32 hbox hb;have n0_:=rb_ HO215 hb;have n1_:=rb_ HO218 hb;have n2_:=rb_ HO222 hb;have n3_:=rb_ HO228 hb;have n4_:=bb_ BK210 hb;have n5_:=bb_ BK224 hb;have n6_:=hs_ HB hb;have n7_:=qn.mk (hbox);have n8_:=qn.mk ((by rw [hg];exact (qj (by repeat (first|(with_reducible first|exact HB.out|apply qf|apply qa|apply qd|refine qg ?_ GE210.out|refine qg ?_ GE224.out)|exact HB.out))) : w.heap.size ≤ gb229));have n9_:=qn.mk ((by rw [hg];exact (qj (by repeat (first|(with_reducible first|exact HB.out|apply qf|apply qa|apply qd|refine qg ?_ GE210.out|refine qg ?_ GE224.out)|exact HB.out))) : w.heap.size ≤ gb229));have n10_:=qn.mk ((by rw [hg];exact nl_ BK210 : gb210 ≠ gb229));have n11_:=qn.mk ((by rw [hg];exact ng_ BK210 : gb229 ≠ gb210));have n12_:=qn.mk ((by rw [hg];exact nl_ BK224 : gb224 ≠ gb229));have n13_:=qn.mk ((by rw [hg];exact ng_ BK224 : gb229 ≠ gb224));clear HO215;clear HO218;clear HO222;clear HO228;clear BK210;clear BK224;clear HB;have HO215:=n0_;have HO218:=n1_;have HO222:=n2_;have HO228:=n3_;have BK210:=n4_;have BK224:=n5_;have HB:=n6_;have BK229:=n7_;have GW229:=n8_;have GE229:=n9_;have NB210_229:=n10_;have NB229_210:=n11_;have NB224_229:=n12_;have NB229_224:=n13_;clear n0_ n1_ n2_ n3_ n4_ n5_ n6_ n7_ n8_ n9_ n10_ n11_ n12_ n13_;clear hb hbox hg;have hnb33:=NB229_210.out;have hnc33:=NB210_229.out;have hnb34:=NB229_224.out;have hnc34:=NB224_229.out;have hcz35_0 : w32.cell? ⟨gb229,0,none⟩ = some (.int .i64 0):=(qh BK229.out 0).trans rfl;have hcz35_1 : w32.cell? ⟨gb229,1,none⟩ = some (.slice none 0 0):=(qh BK229.out 1).trans rfl;have hfz35_0:=qi BK229.out 0;have hfz35_1:=qi BK229.out 1;obtain ⟨Ao36,co36,eo36⟩:=Kd.R_slice HO228.out;subst eo36)|((with_reducible refine gate_callee (f:=42) rfl ?_);refine goesL_ (some 36) rfl rfl Try.func42 (by kernel_rfl) rfl #[.slice A1 l1.length c1] rfl (by (try simp only [List.map_toArray,List.map_cons,List.map_nil]);first|done|rfl|(simp only [List.length_drop,List.length_take];rfl)) ?_;(with_reducible refine (laws_toIntS.calls k _ _ l1 t230 _ ?side1 ?side2 A14.out).mono ?_);(case side1=>exact Kd.C_below HR1.out (by repeat (first|(with_reducible first|exact HB.out|apply qf|apply qa|apply qd|refine qg ?_ GE210.out|refine qg ?_ GE224.out|refine qg ?_ GE229.out)|exact HB.out)));(case side2=>exact HC1.out);rintro e w37 ⟨v231,rfl,ho0,hb⟩;refine ⟨_,rfl,?_⟩;have n0_:=qn.mk (Kd.R_below (by (with_reducible repeat (first|apply Kd.R_alloc|apply Kd.R_drewN|apply Kd.R_drew));exact (Kd.R_mono (Kd.R_far (p:=⟨gb229,1,none⟩) (Kd.R_far (p:=⟨gb229,0,none⟩) (Kd.R_types HO215.out BK229.out (by decide)) (fun _ hk=>hk.2) (.int .i64 t225)) (fun _ hk=>hk.2) (.slice Ao36 t226.length co36)) (fun _ h_=>h_.1))) hb);have n1_:=qn.mk (Kd.R_elder' (by (with_reducible repeat (first|apply Kd.R_alloc|apply Kd.R_drewN|apply Kd.R_drew));exact (Kd.R_mono (Kd.R_far (p:=⟨gb229,1,none⟩) (Kd.R_far (p:=⟨gb229,0,none⟩) (Kd.R_types HO218.out BK229.out (by decide)) (fun _ hk=>hk.2) (.int .i64 t225)) (fun _ hk=>hk.2) (.slice Ao36 t226.length co36)) (fun _ h_=>h_.1))) (Kd.R_base ho0) hb);have n2_:=qn.mk (Kd.R_below (by (with_reducible repeat (first|apply Kd.R_alloc|apply Kd.R_drewN|apply Kd.R_drew));exact (Kd.R_mono (Kd.R_far (p:=⟨gb229,1,none⟩) (Kd.R_far (p:=⟨gb229,0,none⟩) (Kd.R_types HO222.out BK229.out (by decide)) (fun _ hk=>hk.2) (.int .i64 t225)) (fun _ hk=>hk.2) (.slice Ao36 t226.length co36)) (fun _ h_=>h_.1))) hb);have n3_:=qn.mk (Kd.R_below (by (with_reducible repeat (first|apply Kd.R_alloc|apply Kd.R_drewN|apply Kd.R_drew));exact (Kd.R_mono (Kd.R_far (p:=⟨gb229,1,none⟩) (Kd.R_far (p:=⟨gb229,0,none⟩) (Kd.R_types HO228.out BK229.out (by decide)) (fun _ hk=>hk.2) (.int .i64 t225)) (fun _ hk=>hk.2) (.slice Ao36 t226.length co36)) (fun _ h_=>h_.1))) hb);have n4_:=qn.mk (Kd.R_lower (Kd.R_new' ho0 (Kd.R_lt (by (with_reducible repeat (first|apply Kd.R_alloc|apply Kd.R_drewN|apply Kd.R_drew));exact (Kd.R_mono (Kd.R_far (p:=⟨gb229,1,none⟩) (Kd.R_far (p:=⟨gb229,0,none⟩) (Kd.R_types HO218.out BK229.out (by decide)) (fun _ hk=>hk.2) (.int .i64 t225)) (fun _ hk=>hk.2) (.slice Ao36 t226.length co36)) (fun _ h_=>h_.1))))) (qj (by repeat (first|(with_reducible first|exact HB.out|apply qf|apply qa|apply qd|refine qg ?_ GE210.out|refine qg ?_ GE224.out|refine qg ?_ GE229.out)|exact HB.out))));have n5_:=qn.mk (ql (g:=gb210) (o:=.cells #[.int .i64 a0_0,.slice A0_1 l0_1.length c0_1] 49 (0,0)) (by (with_reducible repeat (first|refine qb ?_ _|refine qe ?_|refine qc ?_ _));refine blk_far ?_ NB210_229.out _;(with_reducible repeat (first|refine qb ?_ _|refine qe ?_|refine qc ?_ _));refine blk_far ?_ NB210_229.out _;(with_reducible repeat (first|refine qb ?_ _|refine qe ?_|refine qc ?_ _));exact BK210.out) hb);have n6_:=qn.mk (ql (g:=gb224) (o:=.cells #[.int .i64 t219,.slice Ao29 t220.length co29] 56 (0,0)) (by (with_reducible repeat (first|refine qb ?_ _|refine qe ?_|refine qc ?_ _));refine blk_far ?_ NB224_229.out _;(with_reducible repeat (first|refine qb ?_ _|refine qe ?_|refine qc ?_ _));refine blk_far ?_ NB224_229.out _;(with_reducible repeat (first|refine qb ?_ _|refine qe ?_|refine qc ?_ _));exact BK224.out) hb);have n7_:=qn.mk (ql (g:=gb229) (o:=.cells #[.int .i64 t225,.slice Ao36 t226.length co36] 56 (0,0)) (by (with_reducible repeat (first|refine qb ?_ _|refine qe ?_|refine qc ?_ _));refine blk_put (cs:=#[.int .i64 t225,.slice none 0 0]) ?_ 1 _ rfl;(with_reducible repeat (first|refine qb ?_ _|refine qe ?_|refine qc ?_ _));refine blk_put (cs:=#[.int .i64 0,.slice none 0 0]) ?_ 0 _ rfl;(with_reducible repeat (first|refine qb ?_ _|refine qe ?_|refine qc ?_ _));exact BK229.out) hb);have n8_:=hs_ HB hb;clear HO215;clear HO218;clear HO222;clear HO228;clear BK210;clear BK224;clear BK229;clear HB;have HO215:=n0_;have HO218:=n1_;have HO222:=n2_;have HO228:=n3_;have HO232:=n4_;have BK210:=n5_;have BK224:=n6_;have BK229:=n7_;have HB:=n8_;clear n0_ n1_ n2_ n3_ n4_ n5_ n6_ n7_ n8_;(try clear hb);(try clear hb2);(try clear hk);(try clear hi);(try clear ho0);have hcz38_0 : w37.cell? ⟨gb229,0,none⟩ = some (.int .i64 t225):=(qh BK229.out 0).trans rfl;have hcz38_1 : w37.cell? ⟨gb229,1,none⟩ = some (.slice Ao36 t226.length co36):=(qh BK229.out 1).trans rfl;have hfz38_0:=qi BK229.out 0;have hfz38_1:=qi BK229.out 1;obtain ⟨Ao39,co39,eo39⟩:=Kd.R_slice HO232.out;subst eo39)|((with_reducible refine gate_callee (f:=43) rfl ?_);refine goesL_ (some 40) rfl rfl Try.func43 (by kernel_rfl) rfl #[.agg #[.int .i64 t225,.slice Ao36 t226.length co36],.slice Ao39 t230.length co39] rfl (by (try simp only [List.map_toArray,List.map_cons,List.map_nil]);first|done|rfl|(simp only [List.length_drop,List.length_take];rfl)) ?_;(with_reducible refine (impl_Induced.calls k t225 _ _ t226 _ _ t230 t233 t234 t237 _ ?side1 ?side2 ?side3 ?side4 A15.out).mono ?_);(case side1=>repeat (first|exact (Kd.R_reads' HO228.out).2.2|(with_reducible refine Kd.C_alloc ?_ _)|(with_reducible refine Kd.C_drewN ?_ _)|(with_reducible refine Kd.C_drew ?_)));(case side2=>exact (Kd.R_reads' HO228.out).2.1);(case side3=>repeat (first|exact (Kd.R_reads' HO232.out).2.2|(with_reducible refine Kd.C_alloc ?_ _)|(with_reducible refine Kd.C_drewN ?_ _)|(with_reducible refine Kd.C_drew ?_)));(case side4=>exact (Kd.R_reads' HO232.out).2.1);rintro e w40 ⟨v235,rfl,ho0,hb⟩;refine ⟨_,rfl,?_⟩;have n0_:=qn.mk (Kd.R_elder' (by (with_reducible repeat (first|apply Kd.R_alloc|apply Kd.R_drewN|apply Kd.R_drew));exact HO215.out) (Kd.R_base ho0) hb);have n1_:=rb_ HO218 hb;have n2_:=qn.mk (Kd.R_elder' (by (with_reducible repeat (first|apply Kd.R_alloc|apply Kd.R_drewN|apply Kd.R_drew));exact HO222.out) (Kd.R_base ho0) hb);have n3_:=qn.mk (Kd.R_elder' (by (with_reducible repeat (first|apply Kd.R_alloc|apply Kd.R_drewN|apply Kd.R_drew));exact HO228.out) (Kd.R_base ho0) hb);have n4_:=rb_ HO232 hb;have n5_:=qn.mk (Kd.R_lower (Kd.R_new' (Kd.R_new' (Kd.R_new' ho0 (Kd.R_lt (by (with_reducible repeat (first|apply Kd.R_alloc|apply Kd.R_drewN|apply Kd.R_drew));exact HO215.out))) (Kd.R_lt (by (with_reducible repeat (first|apply Kd.R_alloc|apply Kd.R_drewN|apply Kd.R_drew));exact HO222.out))) (Kd.R_lt (by (with_reducible repeat (first|apply Kd.R_alloc|apply Kd.R_drewN|apply Kd.R_drew));exact HO228.out))) (qj (by repeat (first|(with_reducible first|exact HB.out|apply qf|apply qa|apply qd|refine qg ?_ GE210.out|refine qg ?_ GE224.out|refine qg ?_ GE229.out)|exact HB.out))));have n6_:=bb_ BK210 hb;have n7_:=bb_ BK224 hb;have n8_:=bb_ BK229 hb;have n9_:=hs_ HB hb;clear HO215;clear HO218;clear HO222;clear HO228;clear HO232;clear BK210;clear BK224;clear BK229;clear HB;have HO215:=n0_;have HO218:=n1_;have HO222:=n2_;have HO228:=n3_;have HO232:=n4_;have HO236:=n5_;have BK210:=n6_;have BK224:=n7_;have BK229:=n8_;have HB:=n9_;clear n0_ n1_ n2_ n3_ n4_ n5_ n6_ n7_ n8_ n9_;(try clear hb);(try clear hb2);(try clear hk);(try clear hi);(try clear ho0))|((with_reducible refine gate_dst (N:=10) rfl ?_);refine box_event ?hg (N:=10) ?hd (cs:=#[.int .i64 0,.slice none 0 0]) (t:=56) ?hr ?_;(case hd=>rfl);(case hg=>rfl);(case hr=>first|(go_simp;done)|(go_simp;rfl));intro gb238 hg w41 hbox hb;have n0_:=rb_ HO215 hb;have n1_:=rb_ HO218 hb;have n2_:=rb_ HO222 hb;have n3_:=rb_ HO228 hb;have n4_:=rb_ HO232 hb;have n5_:=rb_ HO236 hb;have n6_:=bb_ BK210 hb;have n7_:=bb_ BK224 hb;have n8_:=bb_ BK229 hb;have n9_:=hs_ HB hb;have n10_:=qn.mk (hbox);have n11_:=qn.mk ((by rw [hg];exact (qj (by repeat (first|(with_reducible first|exact HB.out|apply qf|apply qa|apply qd|refine qg ?_ GE210.out|refine qg ?_ GE224.out|refine qg ?_ GE229.out)|exact HB.out))) : w.heap.size ≤ gb238));have n12_:=qn.mk ((by rw [hg];exact (qj (by repeat (first|(with_reducible first|exact HB.out|apply qf|apply qa|apply qd|refine qg ?_ GE210.out|refine qg ?_ GE224.out|refine qg ?_ GE229.out)|exact HB.out))) : w.heap.size ≤ gb238));have n13_:=qn.mk ((by rw [hg];exact nl_ BK210 : gb210 ≠ gb238));have n14_:=qn.mk ((by rw [hg];exact ng_ BK210 : gb238 ≠ gb210));have n15_:=qn.mk ((by rw [hg];exact nl_ BK224 : gb224 ≠ gb238));have n16_:=qn.mk ((by rw [hg];exact ng_ BK224 : gb238 ≠ gb224));have n17_:=qn.mk ((by rw [hg];exact nl_ BK229 : gb229 ≠ gb238));have n18_:=qn.mk ((by rw [hg];exact ng_ BK229 : gb238 ≠ gb229));clear HO215;clear HO218;clear HO222;clear HO228;clear HO232;clear HO236;clear BK210;clear BK224;clear BK229;clear HB;have HO215:=n0_;have HO218:=n1_;have HO222:=n2_;have HO228:=n3_;have HO232:=n4_;have HO236:=n5_;have BK210:=n6_;have BK224:=n7_;have BK229:=n8_;have HB:=n9_;have BK238:=n10_;have GW238:=n11_;have GE238:=n12_;have NB210_238:=n13_;have NB238_210:=n14_;have NB224_238:=n15_;have NB238_224:=n16_;have NB229_238:=n17_;have NB238_229:=n18_;clear n0_ n1_ n2_ n3_ n4_ n5_ n6_ n7_ n8_ n9_ n10_ n11_ n12_ n13_ n14_ n15_ n16_ n17_ n18_;clear hb hbox hg;have hnb42:=NB238_210.out;have hnc42:=NB210_238.out;have hnb43:=NB238_224.out;have hnc43:=NB224_238.out;have hnb44:=NB238_229.out;have hnc44:=NB229_238.out;have hcz45_0 : w41.cell? ⟨gb238,0,none⟩ = some (.int .i64 0):=(qh BK238.out 0).trans rfl;have hcz45_1 : w41.cell? ⟨gb238,1,none⟩ = some (.slice none 0 0):=(qh BK238.out 1).trans rfl;have hfz45_0:=qi BK238.out 0;have hfz45_1:=qi BK238.out 1;obtain ⟨Ao46,co46,eo46⟩:=Kd.R_slice HO236.out;subst eo46))
      (try simp only [Act.put,List.setIfInBounds_toArray,List.set_cons_zero,List.set_cons_succ])
      go_cut [51] (fun v51 wc=>∃ (kq : Nat) (x51_15 : Bool),v51 = .bool x51_15 ∧ qn (laws_FnExactInduced.j0 kq l1 t223 t230 t237 x51_15 a0_0 l0_1 t219 t220 t225 t226 t233 t234 = some r) ∧ qn (kq ≤ k) ∧ qn (Kd.R (Kd.int .i64) 3 wc w.heap.size (fun _=>True) (.slice Ao39 t230.length co39) t230) ∧ qn (Kd.R k148 148 wc w.heap.size (fun k_=>some k_ ≠ ((.slice Ao36 t226.length co36) : Value).ownBlock ∧ some k_ ≠ ((.slice Ao46 t234.length co46) : Value).ownBlock) (.slice Ao29 t220.length co29) t220) ∧ qn (Kd.R k148 148 wc w.heap.size (fun k_=>some k_ ≠ ((.slice Ao29 t220.length co29) : Value).ownBlock ∧ some k_ ≠ ((.slice Ao46 t234.length co46) : Value).ownBlock) (.slice Ao36 t226.length co36) t226) ∧ qn (Kd.R k148 148 wc w.heap.size (fun k_=>some k_ ≠ ((.slice Ao29 t220.length co29) : Value).ownBlock ∧ some k_ ≠ ((.slice Ao36 t226.length co36) : Value).ownBlock) (.slice Ao46 t234.length co46) t234) ∧ qn (wc.heap[gb210]? = some (.cells #[.int .i64 a0_0,(.slice A0_1 l0_1.length c0_1)] 49 (0,0))) ∧ qn (wc.heap[gb224]? = some (.cells #[.int .i64 t219,(.slice Ao29 t220.length co29)] 56 (0,0))) ∧ qn (wc.heap[gb229]? = some (.cells #[.int .i64 t225,(.slice Ao36 t226.length co36)] 56 (0,0))) ∧ qn (wc.heap[gb238]? = some (.cells #[.int .i64 t233,(.slice Ao46 t234.length co46)] 56 (0,0))) ∧ qn (Below w.heap.size w wc))
      case first =>
        have H:=HC16.out
        clear HC16
        replace H:=Option.bind_eq_some_iff.mp H
        obtain ⟨t239,A470,H⟩:=H
        replace H : (if t239 = true then (laws_FnExactInduced.j0 k l1 t223 t230 t237 (t237 != t223) a0_0 l0_1 t219 t220 t225 t226 t233 t234) else (laws_FnExactInduced.j0 k l1 t223 t230 t237 true a0_0 l0_1 t219 t220 t225 t226 t233 t234)) = some r:=H
        have A47:=qn.mk A470
        clear A470
        by_cases c48 : t239 = true
        · subst c48
          have H1 : (laws_FnExactInduced.j0 k l1 t223 t230 t237 (t237 != t223) a0_0 l0_1 t219 t220 t225 t226 t233 t234) = some r:=by rw [if_pos rfl] at H;exact H
          clear H
          have H:=H1
          clear H1
          have H':=qn.mk H
          clear H
          have hnb49:=NB238_210.out
          have hnc49:=NB210_238.out
          have hnb50:=NB238_224.out
          have hnc50:=NB224_238.out
          have hnb51:=NB238_229.out
          have hnc51:=NB229_238.out
          have hcz52_0 : w41.cell? ⟨gb238,0,none⟩ = some (.int .i64 0):=(qh BK238.out 0).trans rfl
          have hcz52_1 : w41.cell? ⟨gb238,1,none⟩ = some (.slice none 0 0):=(qh BK238.out 1).trans rfl
          have hfz52_0:=qi BK238.out 0
          have hfz52_1:=qi BK238.out 1
          have hnb53:=NB224_210.out
          have hnc53:=NB210_224.out
          have hnb54:=NB224_229.out
          have hnc54:=NB229_224.out
          have hcz55_0 : w41.cell? ⟨gb224,0,none⟩ = some (.int .i64 t219):=(qh BK224.out 0).trans rfl
          have hcz55_1 : w41.cell? ⟨gb224,1,none⟩ = some (.slice Ao29 t220.length co29):=(qh BK224.out 1).trans rfl
          have hfz55_0:=qi BK224.out 0
          have hfz55_1:=qi BK224.out 1
          go_wp2_with (first|((with_reducible refine gate_callee (f:=33) rfl ?_);refine goesL_ (some 45) rfl rfl Try.func33 (by kernel_rfl) rfl #[.agg #[.int .i64 t233,.slice Ao46 t234.length co46],.agg #[.int .i64 t219,.slice Ao29 t220.length co29]] rfl (by (try simp only [List.map_toArray,List.map_cons,List.map_nil]);first|done|rfl|(simp only [List.length_drop,List.length_take];rfl)) ?_;(with_reducible refine (laws_eqGraph.calls k t233 _ _ t234 t219 _ _ t220 true _ ?side1 ?side2 ?side3 ?side4 A47.out).mono ?_);(case side1=>refine (Kd.R_reads' (e:=148) (base:=w.heap.size) (ok:=fun k_=>(((True ∧ some k_ ≠ (.slice Ao23 t213.length co23 : Value).ownBlock) ∧ some k_ ≠ (.slice Ao29 t220.length co29 : Value).ownBlock) ∧ some k_ ≠ (.slice Ao36 t226.length co36 : Value).ownBlock)) (n:=t234.length) (c:=co46) ?_).2.2;exact (by (with_reducible repeat (first|apply Kd.R_alloc|apply Kd.R_drewN|apply Kd.R_drew));exact (Kd.R_mono (Kd.R_far (p:=⟨gb238,1,none⟩) (Kd.R_far (p:=⟨gb238,0,none⟩) (Kd.R_types HO236.out BK238.out (by decide)) (fun _ hk=>hk.2) (.int .i64 t233)) (fun _ hk=>hk.2) (.slice Ao46 t234.length co46)) (fun _ h_=>h_.1))));(case side2=>exact (Kd.R_reads' HO236.out).2.1);(case side3=>refine (Kd.R_reads' (e:=148) (base:=w.heap.size) (ok:=fun k_=>(((True ∧ some k_ ≠ (.slice Ao23 t213.length co23 : Value).ownBlock) ∧ some k_ ≠ (.slice Ao36 t226.length co36 : Value).ownBlock) ∧ some k_ ≠ (.slice Ao46 t234.length co46 : Value).ownBlock)) (n:=t220.length) (c:=co29) ?_).2.2;exact (by (with_reducible repeat (first|apply Kd.R_alloc|apply Kd.R_drewN|apply Kd.R_drew));exact (Kd.R_mono (Kd.R_far (p:=⟨gb238,1,none⟩) (Kd.R_far (p:=⟨gb238,0,none⟩) (Kd.R_types HO222.out BK238.out (by decide)) (fun _ hk=>hk.2) (.int .i64 t233)) (fun _ hk=>hk.2) (.slice Ao46 t234.length co46)) (fun _ h_=>h_.1))));(case side4=>exact (Kd.R_reads' HO222.out).2.1);rintro e w56 ⟨rfl,hb⟩;refine ⟨_,rfl,?_⟩;have n0_:=qn.mk (Kd.R_below (by (with_reducible repeat (first|apply Kd.R_alloc|apply Kd.R_drewN|apply Kd.R_drew));exact (Kd.R_mono (Kd.R_far (p:=⟨gb238,1,none⟩) (Kd.R_far (p:=⟨gb238,0,none⟩) (Kd.R_types HO215.out BK238.out (by decide)) (fun _ hk=>hk.2) (.int .i64 t233)) (fun _ hk=>hk.2) (.slice Ao46 t234.length co46)) (fun _ h_=>h_.1))) hb);have n1_:=qn.mk (Kd.R_below (by (with_reducible repeat (first|apply Kd.R_alloc|apply Kd.R_drewN|apply Kd.R_drew));exact (Kd.R_mono (Kd.R_far (p:=⟨gb238,1,none⟩) (Kd.R_far (p:=⟨gb238,0,none⟩) (Kd.R_types HO218.out BK238.out (by decide)) (fun _ hk=>hk.2) (.int .i64 t233)) (fun _ hk=>hk.2) (.slice Ao46 t234.length co46)) (fun _ h_=>h_.1))) hb);have n2_:=qn.mk (Kd.R_below (by (with_reducible repeat (first|apply Kd.R_alloc|apply Kd.R_drewN|apply Kd.R_drew));exact (Kd.R_mono (Kd.R_far (p:=⟨gb238,1,none⟩) (Kd.R_far (p:=⟨gb238,0,none⟩) (Kd.R_types HO222.out BK238.out (by decide)) (fun _ hk=>hk.2) (.int .i64 t233)) (fun _ hk=>hk.2) (.slice Ao46 t234.length co46)) (fun _ h_=>h_.1))) hb);have n3_:=qn.mk (Kd.R_below (by (with_reducible repeat (first|apply Kd.R_alloc|apply Kd.R_drewN|apply Kd.R_drew));exact (Kd.R_mono (Kd.R_far (p:=⟨gb238,1,none⟩) (Kd.R_far (p:=⟨gb238,0,none⟩) (Kd.R_types HO228.out BK238.out (by decide)) (fun _ hk=>hk.2) (.int .i64 t233)) (fun _ hk=>hk.2) (.slice Ao46 t234.length co46)) (fun _ h_=>h_.1))) hb);have n4_:=qn.mk (Kd.R_below (by (with_reducible repeat (first|apply Kd.R_alloc|apply Kd.R_drewN|apply Kd.R_drew));exact (Kd.R_mono (Kd.R_far (p:=⟨gb238,1,none⟩) (Kd.R_far (p:=⟨gb238,0,none⟩) (Kd.R_types HO232.out BK238.out (by decide)) (fun _ hk=>hk.2) (.int .i64 t233)) (fun _ hk=>hk.2) (.slice Ao46 t234.length co46)) (fun _ h_=>h_.1))) hb);have n5_:=qn.mk (Kd.R_below (by (with_reducible repeat (first|apply Kd.R_alloc|apply Kd.R_drewN|apply Kd.R_drew));exact (Kd.R_mono (Kd.R_far (p:=⟨gb238,1,none⟩) (Kd.R_far (p:=⟨gb238,0,none⟩) (Kd.R_types HO236.out BK238.out (by decide)) (fun _ hk=>hk.2) (.int .i64 t233)) (fun _ hk=>hk.2) (.slice Ao46 t234.length co46)) (fun _ h_=>h_.1))) hb);have n6_:=qn.mk (ql (g:=gb210) (o:=.cells #[.int .i64 a0_0,.slice A0_1 l0_1.length c0_1] 49 (0,0)) (by (with_reducible repeat (first|refine qb ?_ _|refine qe ?_|refine qc ?_ _));refine blk_far ?_ NB210_238.out _;(with_reducible repeat (first|refine qb ?_ _|refine qe ?_|refine qc ?_ _));refine blk_far ?_ NB210_238.out _;(with_reducible repeat (first|refine qb ?_ _|refine qe ?_|refine qc ?_ _));exact BK210.out) hb);have n7_:=qn.mk (ql (g:=gb224) (o:=.cells #[.int .i64 t219,.slice Ao29 t220.length co29] 56 (0,0)) (by (with_reducible repeat (first|refine qb ?_ _|refine qe ?_|refine qc ?_ _));refine blk_far ?_ NB224_238.out _;(with_reducible repeat (first|refine qb ?_ _|refine qe ?_|refine qc ?_ _));refine blk_far ?_ NB224_238.out _;(with_reducible repeat (first|refine qb ?_ _|refine qe ?_|refine qc ?_ _));exact BK224.out) hb);have n8_:=qn.mk (ql (g:=gb229) (o:=.cells #[.int .i64 t225,.slice Ao36 t226.length co36] 56 (0,0)) (by (with_reducible repeat (first|refine qb ?_ _|refine qe ?_|refine qc ?_ _));refine blk_far ?_ NB229_238.out _;(with_reducible repeat (first|refine qb ?_ _|refine qe ?_|refine qc ?_ _));refine blk_far ?_ NB229_238.out _;(with_reducible repeat (first|refine qb ?_ _|refine qe ?_|refine qc ?_ _));exact BK229.out) hb);have n9_:=qn.mk (ql (g:=gb238) (o:=.cells #[.int .i64 t233,.slice Ao46 t234.length co46] 56 (0,0)) (by (with_reducible repeat (first|refine qb ?_ _|refine qe ?_|refine qc ?_ _));refine blk_put (cs:=#[.int .i64 t233,.slice none 0 0]) ?_ 1 _ rfl;(with_reducible repeat (first|refine qb ?_ _|refine qe ?_|refine qc ?_ _));refine blk_put (cs:=#[.int .i64 0,.slice none 0 0]) ?_ 0 _ rfl;(with_reducible repeat (first|refine qb ?_ _|refine qe ?_|refine qc ?_ _));exact BK238.out) hb);have n10_:=hs_ HB hb;clear HO215;clear HO218;clear HO222;clear HO228;clear HO232;clear HO236;clear BK210;clear BK224;clear BK229;clear BK238;clear HB;have HO215:=n0_;have HO218:=n1_;have HO222:=n2_;have HO228:=n3_;have HO232:=n4_;have HO236:=n5_;have BK210:=n6_;have BK224:=n7_;have BK229:=n8_;have BK238:=n9_;have HB:=n10_;clear n0_ n1_ n2_ n3_ n4_ n5_ n6_ n7_ n8_ n9_ n10_;(try clear hb);(try clear hb2);(try clear hk);(try clear hi)))
          go_meet
          case rel=>exact ⟨_,((t237 != t223)),(by first|rfl|(simp;done)|(simp [*];done)),H',⟨by first|omega|exact Nat.le_refl _⟩,⟨by (with_reducible repeat (first|apply Kd.R_alloc|apply Kd.R_drewN|apply Kd.R_drew));exact Kd.R_mono HO232.out (fun _ hk=>trivial)⟩,⟨by (with_reducible repeat (first|apply Kd.R_alloc|apply Kd.R_drewN|apply Kd.R_drew));exact Kd.R_mono HO222.out (fun _ hk=>⟨hk.1.2,hk.2⟩)⟩,⟨by (with_reducible repeat (first|apply Kd.R_alloc|apply Kd.R_drewN|apply Kd.R_drew));exact Kd.R_mono HO228.out (fun _ hk=>⟨hk.1.2,hk.2⟩)⟩,⟨by (with_reducible repeat (first|apply Kd.R_alloc|apply Kd.R_drewN|apply Kd.R_drew));exact Kd.R_mono HO236.out (fun _ hk=>⟨hk.1.2,hk.2⟩)⟩,⟨by (with_reducible repeat (first|refine qb ?_ _|refine qe ?_|refine qc ?_ _));exact BK210.out⟩,⟨by (with_reducible repeat (first|refine qb ?_ _|refine qe ?_|refine qc ?_ _));exact BK224.out⟩,⟨by (with_reducible repeat (first|refine qb ?_ _|refine qe ?_|refine qc ?_ _));exact BK229.out⟩,⟨by (with_reducible repeat (first|refine qb ?_ _|refine qe ?_|refine qc ?_ _));exact BK238.out⟩,⟨by repeat (first|(with_reducible first|exact HB.out|apply qf|apply qa|apply qd|refine qg ?_ GE210.out|refine qg ?_ GE224.out|refine qg ?_ GE229.out|refine qg ?_ GE238.out)|exact HB.out)⟩⟩
        · replace c48:=Bool.eq_false_iff.mpr c48
          subst c48
          have H1 : (laws_FnExactInduced.j0 k l1 t223 t230 t237 true a0_0 l0_1 t219 t220 t225 t226 t233 t234) = some r:=by rw [if_neg (show ¬ (false = true) by decide)] at H;exact H
          clear H
          have H:=H1
          clear H1
          have H':=qn.mk H
          clear H
          have hnb57:=NB238_210.out
          have hnc57:=NB210_238.out
          have hnb58:=NB238_224.out
          have hnc58:=NB224_238.out
          have hnb59:=NB238_229.out
          have hnc59:=NB229_238.out
          have hcz60_0 : w41.cell? ⟨gb238,0,none⟩ = some (.int .i64 0):=(qh BK238.out 0).trans rfl
          have hcz60_1 : w41.cell? ⟨gb238,1,none⟩ = some (.slice none 0 0):=(qh BK238.out 1).trans rfl
          have hfz60_0:=qi BK238.out 0
          have hfz60_1:=qi BK238.out 1
          have hnb61:=NB224_210.out
          have hnc61:=NB210_224.out
          have hnb62:=NB224_229.out
          have hnc62:=NB229_224.out
          have hcz63_0 : w41.cell? ⟨gb224,0,none⟩ = some (.int .i64 t219):=(qh BK224.out 0).trans rfl
          have hcz63_1 : w41.cell? ⟨gb224,1,none⟩ = some (.slice Ao29 t220.length co29):=(qh BK224.out 1).trans rfl
          have hfz63_0:=qi BK224.out 0
          have hfz63_1:=qi BK224.out 1
          go_wp2_with (first|((with_reducible refine gate_callee (f:=33) rfl ?_);refine goesL_ (some 45) rfl rfl Try.func33 (by kernel_rfl) rfl #[.agg #[.int .i64 t233,.slice Ao46 t234.length co46],.agg #[.int .i64 t219,.slice Ao29 t220.length co29]] rfl (by (try simp only [List.map_toArray,List.map_cons,List.map_nil]);first|done|rfl|(simp only [List.length_drop,List.length_take];rfl)) ?_;(with_reducible refine (laws_eqGraph.calls k t233 _ _ t234 t219 _ _ t220 false _ ?side1 ?side2 ?side3 ?side4 A47.out).mono ?_);(case side1=>refine (Kd.R_reads' (e:=148) (base:=w.heap.size) (ok:=fun k_=>(((True ∧ some k_ ≠ (.slice Ao23 t213.length co23 : Value).ownBlock) ∧ some k_ ≠ (.slice Ao29 t220.length co29 : Value).ownBlock) ∧ some k_ ≠ (.slice Ao36 t226.length co36 : Value).ownBlock)) (n:=t234.length) (c:=co46) ?_).2.2;exact (by (with_reducible repeat (first|apply Kd.R_alloc|apply Kd.R_drewN|apply Kd.R_drew));exact (Kd.R_mono (Kd.R_far (p:=⟨gb238,1,none⟩) (Kd.R_far (p:=⟨gb238,0,none⟩) (Kd.R_types HO236.out BK238.out (by decide)) (fun _ hk=>hk.2) (.int .i64 t233)) (fun _ hk=>hk.2) (.slice Ao46 t234.length co46)) (fun _ h_=>h_.1))));(case side2=>exact (Kd.R_reads' HO236.out).2.1);(case side3=>refine (Kd.R_reads' (e:=148) (base:=w.heap.size) (ok:=fun k_=>(((True ∧ some k_ ≠ (.slice Ao23 t213.length co23 : Value).ownBlock) ∧ some k_ ≠ (.slice Ao36 t226.length co36 : Value).ownBlock) ∧ some k_ ≠ (.slice Ao46 t234.length co46 : Value).ownBlock)) (n:=t220.length) (c:=co29) ?_).2.2;exact (by (with_reducible repeat (first|apply Kd.R_alloc|apply Kd.R_drewN|apply Kd.R_drew));exact (Kd.R_mono (Kd.R_far (p:=⟨gb238,1,none⟩) (Kd.R_far (p:=⟨gb238,0,none⟩) (Kd.R_types HO222.out BK238.out (by decide)) (fun _ hk=>hk.2) (.int .i64 t233)) (fun _ hk=>hk.2) (.slice Ao46 t234.length co46)) (fun _ h_=>h_.1))));(case side4=>exact (Kd.R_reads' HO222.out).2.1);rintro e w64 ⟨rfl,hb⟩;refine ⟨_,rfl,?_⟩;have n0_:=qn.mk (Kd.R_below (by (with_reducible repeat (first|apply Kd.R_alloc|apply Kd.R_drewN|apply Kd.R_drew));exact (Kd.R_mono (Kd.R_far (p:=⟨gb238,1,none⟩) (Kd.R_far (p:=⟨gb238,0,none⟩) (Kd.R_types HO215.out BK238.out (by decide)) (fun _ hk=>hk.2) (.int .i64 t233)) (fun _ hk=>hk.2) (.slice Ao46 t234.length co46)) (fun _ h_=>h_.1))) hb);have n1_:=qn.mk (Kd.R_below (by (with_reducible repeat (first|apply Kd.R_alloc|apply Kd.R_drewN|apply Kd.R_drew));exact (Kd.R_mono (Kd.R_far (p:=⟨gb238,1,none⟩) (Kd.R_far (p:=⟨gb238,0,none⟩) (Kd.R_types HO218.out BK238.out (by decide)) (fun _ hk=>hk.2) (.int .i64 t233)) (fun _ hk=>hk.2) (.slice Ao46 t234.length co46)) (fun _ h_=>h_.1))) hb);have n2_:=qn.mk (Kd.R_below (by (with_reducible repeat (first|apply Kd.R_alloc|apply Kd.R_drewN|apply Kd.R_drew));exact (Kd.R_mono (Kd.R_far (p:=⟨gb238,1,none⟩) (Kd.R_far (p:=⟨gb238,0,none⟩) (Kd.R_types HO222.out BK238.out (by decide)) (fun _ hk=>hk.2) (.int .i64 t233)) (fun _ hk=>hk.2) (.slice Ao46 t234.length co46)) (fun _ h_=>h_.1))) hb);have n3_:=qn.mk (Kd.R_below (by (with_reducible repeat (first|apply Kd.R_alloc|apply Kd.R_drewN|apply Kd.R_drew));exact (Kd.R_mono (Kd.R_far (p:=⟨gb238,1,none⟩) (Kd.R_far (p:=⟨gb238,0,none⟩) (Kd.R_types HO228.out BK238.out (by decide)) (fun _ hk=>hk.2) (.int .i64 t233)) (fun _ hk=>hk.2) (.slice Ao46 t234.length co46)) (fun _ h_=>h_.1))) hb);have n4_:=qn.mk (Kd.R_below (by (with_reducible repeat (first|apply Kd.R_alloc|apply Kd.R_drewN|apply Kd.R_drew));exact (Kd.R_mono (Kd.R_far (p:=⟨gb238,1,none⟩) (Kd.R_far (p:=⟨gb238,0,none⟩) (Kd.R_types HO232.out BK238.out (by decide)) (fun _ hk=>hk.2) (.int .i64 t233)) (fun _ hk=>hk.2) (.slice Ao46 t234.length co46)) (fun _ h_=>h_.1))) hb);have n5_:=qn.mk (Kd.R_below (by (with_reducible repeat (first|apply Kd.R_alloc|apply Kd.R_drewN|apply Kd.R_drew));exact (Kd.R_mono (Kd.R_far (p:=⟨gb238,1,none⟩) (Kd.R_far (p:=⟨gb238,0,none⟩) (Kd.R_types HO236.out BK238.out (by decide)) (fun _ hk=>hk.2) (.int .i64 t233)) (fun _ hk=>hk.2) (.slice Ao46 t234.length co46)) (fun _ h_=>h_.1))) hb);have n6_:=qn.mk (ql (g:=gb210) (o:=.cells #[.int .i64 a0_0,.slice A0_1 l0_1.length c0_1] 49 (0,0)) (by (with_reducible repeat (first|refine qb ?_ _|refine qe ?_|refine qc ?_ _));refine blk_far ?_ NB210_238.out _;(with_reducible repeat (first|refine qb ?_ _|refine qe ?_|refine qc ?_ _));refine blk_far ?_ NB210_238.out _;(with_reducible repeat (first|refine qb ?_ _|refine qe ?_|refine qc ?_ _));exact BK210.out) hb);have n7_:=qn.mk (ql (g:=gb224) (o:=.cells #[.int .i64 t219,.slice Ao29 t220.length co29] 56 (0,0)) (by (with_reducible repeat (first|refine qb ?_ _|refine qe ?_|refine qc ?_ _));refine blk_far ?_ NB224_238.out _;(with_reducible repeat (first|refine qb ?_ _|refine qe ?_|refine qc ?_ _));refine blk_far ?_ NB224_238.out _;(with_reducible repeat (first|refine qb ?_ _|refine qe ?_|refine qc ?_ _));exact BK224.out) hb);have n8_:=qn.mk (ql (g:=gb229) (o:=.cells #[.int .i64 t225,.slice Ao36 t226.length co36] 56 (0,0)) (by (with_reducible repeat (first|refine qb ?_ _|refine qe ?_|refine qc ?_ _));refine blk_far ?_ NB229_238.out _;(with_reducible repeat (first|refine qb ?_ _|refine qe ?_|refine qc ?_ _));refine blk_far ?_ NB229_238.out _;(with_reducible repeat (first|refine qb ?_ _|refine qe ?_|refine qc ?_ _));exact BK229.out) hb);have n9_:=qn.mk (ql (g:=gb238) (o:=.cells #[.int .i64 t233,.slice Ao46 t234.length co46] 56 (0,0)) (by (with_reducible repeat (first|refine qb ?_ _|refine qe ?_|refine qc ?_ _));refine blk_put (cs:=#[.int .i64 t233,.slice none 0 0]) ?_ 1 _ rfl;(with_reducible repeat (first|refine qb ?_ _|refine qe ?_|refine qc ?_ _));refine blk_put (cs:=#[.int .i64 0,.slice none 0 0]) ?_ 0 _ rfl;(with_reducible repeat (first|refine qb ?_ _|refine qe ?_|refine qc ?_ _));exact BK238.out) hb);have n10_:=hs_ HB hb;clear HO215;clear HO218;clear HO222;clear HO228;clear HO232;clear HO236;clear BK210;clear BK224;clear BK229;clear BK238;clear HB;have HO215:=n0_;have HO218:=n1_;have HO222:=n2_;have HO228:=n3_;have HO232:=n4_;have HO236:=n5_;have BK210:=n6_;have BK224:=n7_;have BK229:=n8_;have BK238:=n9_;have HB:=n10_;clear n0_ n1_ n2_ n3_ n4_ n5_ n6_ n7_ n8_ n9_ n10_;(try clear hb);(try clear hb2);(try clear hk);(try clear hi)))
          go_meet
          case rel=>exact ⟨_,(true),(by first|rfl|(simp;done)|(simp [*];done)),H',⟨by first|omega|exact Nat.le_refl _⟩,⟨by (with_reducible repeat (first|apply Kd.R_alloc|apply Kd.R_drewN|apply Kd.R_drew));exact Kd.R_mono HO232.out (fun _ hk=>trivial)⟩,⟨by (with_reducible repeat (first|apply Kd.R_alloc|apply Kd.R_drewN|apply Kd.R_drew));exact Kd.R_mono HO222.out (fun _ hk=>⟨hk.1.2,hk.2⟩)⟩,⟨by (with_reducible repeat (first|apply Kd.R_alloc|apply Kd.R_drewN|apply Kd.R_drew));exact Kd.R_mono HO228.out (fun _ hk=>⟨hk.1.2,hk.2⟩)⟩,⟨by (with_reducible repeat (first|apply Kd.R_alloc|apply Kd.R_drewN|apply Kd.R_drew));exact Kd.R_mono HO236.out (fun _ hk=>⟨hk.1.2,hk.2⟩)⟩,⟨by (with_reducible repeat (first|refine qb ?_ _|refine qe ?_|refine qc ?_ _));exact BK210.out⟩,⟨by (with_reducible repeat (first|refine qb ?_ _|refine qe ?_|refine qc ?_ _));exact BK224.out⟩,⟨by (with_reducible repeat (first|refine qb ?_ _|refine qe ?_|refine qc ?_ _));exact BK229.out⟩,⟨by (with_reducible repeat (first|refine qb ?_ _|refine qe ?_|refine qc ?_ _));exact BK238.out⟩,⟨by repeat (first|(with_reducible first|exact HB.out|apply qf|apply qa|apply qd|refine qg ?_ GE210.out|refine qg ?_ GE224.out|refine qg ?_ GE229.out|refine qg ?_ GE238.out)|exact HB.out)⟩⟩
      case rest =>
        clear HC16
        try clear c1
        try clear c2
        try clear p2
        try clear c3
        try clear c3b0
        try clear c3b1
        try clear c4
        try clear c5
        try clear c6
        try clear c6b0
        try clear c8
        try clear c27
        try clear c30
        try clear c33
        try clear c34
        try clear c41
        try clear c42
        try clear c43
        try clear c44
        try clear c48
        try clear c49
        try clear c50
        try clear c51
        try clear c53
        try clear c54
        try clear c57
        try clear c58
        try clear c59
        try clear c61
        try clear c62
        try clear hcz18_0
        try clear hcz18_1
        try clear hcz20_0
        try clear hcz20_1
        try clear hcz28_0
        try clear hcz28_1
        try clear hcz30_0
        try clear hcz30_1
        try clear hcz35_0
        try clear hcz35_1
        try clear hcz38_0
        try clear hcz38_1
        try clear hcz45_0
        try clear hcz45_1
        try clear hcz52_0
        try clear hcz52_1
        try clear hcz55_0
        try clear hcz55_1
        try clear hcz60_0
        try clear hcz60_1
        try clear hcz63_0
        try clear hcz63_1
        try clear hcz8_0
        try clear hcz8_1
        try clear hfz18_0
        try clear hfz18_1
        try clear hfz20_0
        try clear hfz20_1
        try clear hfz28_0
        try clear hfz28_1
        try clear hfz30_0
        try clear hfz30_1
        try clear hfz35_0
        try clear hfz35_1
        try clear hfz38_0
        try clear hfz38_1
        try clear hfz45_0
        try clear hfz45_1
        try clear hfz52_0
        try clear hfz52_1
        try clear hfz55_0
        try clear hfz55_1
        try clear hfz60_0
        try clear hfz60_1
        try clear hfz63_0
        try clear hfz63_1
        try clear hfz8_0
        try clear hfz8_1
        obtain ⟨kq,x51_15,rfl,HA,HJ15,HO_9,HO_225001,HO_230001,HO_239001,BK210,BK224,BK229,BK238,HB⟩:=hcut
        cases kq with
        | zero=>exact absurd HA.out (by simp [laws_FnExactInduced.j0])
        | succ kj15 =>
          have H:=HA.out
          clear HA
          simp only [laws_FnExactInduced.j0] at H
          by_cases c65 : x51_15 = true
          · subst c65
            have H1 : (some false) = some r:=by rw [if_pos rfl] at H;exact H
            clear H
            have H:=H1
            clear H1
            obtain rfl:=Option.some.inj H
            go_wp2
            go_ret
            exact ⟨by first|rfl|(simp [errW_none,errW_some] <;> rfl)|(simp [*,errW_none,errW_some] <;> rfl),by repeat (first|(with_reducible first|exact HB.out|apply qf|apply qa|apply qd|refine qg ?_ GE210.out|refine qg ?_ GE224.out|refine qg ?_ GE229.out|refine qg ?_ GE238.out)|exact HB.out)⟩
          · replace c65:=Bool.eq_false_iff.mpr c65
            subst c65
            have H1 : ((laws_toGraph.f kj15 a0_0 l0_1).bind fun bt240=>((laws_eqGraph.f kj15 t225 t226 bt240.1 bt240.2).bind fun t244=>(if t244 = true then ((laws_toIntS.f kj15 l1).bind fun t245=>((laws_eqIntS.f kj15 t230 t245).bind fun t248=>(if t248 = true then ((laws_markGraph.f kj15 t225 t226 1).bind fun bt249=>((laws_markIntS.f kj15 t230 bt249.1).bind fun bt251=>(if bt251.1 < 0 then (laws_FnExactInduced.j1 kj15 l1 t223 true a0_0 l0_1 t219 t220 t233 t234) else ((laws_eqGraph.f kj15 t233 t234 t219 t220).bind fun t253=>(if t253 = true then (laws_FnExactInduced.j1 kj15 l1 t223 (t237 != t223) a0_0 l0_1 t219 t220 t233 t234) else (laws_FnExactInduced.j1 kj15 l1 t223 true a0_0 l0_1 t219 t220 t233 t234)))))) else (some false)))) else (some false)))) = some r:=by rw [if_neg (show ¬ (false = true) by decide)] at H;exact H
            clear H
            have H:=H1
            clear H1
            replace H:=Option.bind_eq_some_iff.mp H
            obtain ⟨⟨t240,t241⟩,A660,H⟩:=H
            replace H : ((laws_eqGraph.f kj15 t225 t226 t240 t241).bind fun t244=>(if t244 = true then ((laws_toIntS.f kj15 l1).bind fun t245=>((laws_eqIntS.f kj15 t230 t245).bind fun t248=>(if t248 = true then ((laws_markGraph.f kj15 t225 t226 1).bind fun bt249=>((laws_markIntS.f kj15 t230 bt249.1).bind fun bt251=>(if bt251.1 < 0 then (laws_FnExactInduced.j1 kj15 l1 t223 true a0_0 l0_1 t219 t220 t233 t234) else ((laws_eqGraph.f kj15 t233 t234 t219 t220).bind fun t253=>(if t253 = true then (laws_FnExactInduced.j1 kj15 l1 t223 (t237 != t223) a0_0 l0_1 t219 t220 t233 t234) else (laws_FnExactInduced.j1 kj15 l1 t223 true a0_0 l0_1 t219 t220 t233 t234)))))) else (some false)))) else (some false))) = some r:=H
            have A66:=qn.mk A660
            clear A660
            replace H:=Option.bind_eq_some_iff.mp H
            obtain ⟨t244,A670,H⟩:=H
            replace H : (if t244 = true then ((laws_toIntS.f kj15 l1).bind fun t245=>((laws_eqIntS.f kj15 t230 t245).bind fun t248=>(if t248 = true then ((laws_markGraph.f kj15 t225 t226 1).bind fun bt249=>((laws_markIntS.f kj15 t230 bt249.1).bind fun bt251=>(if bt251.1 < 0 then (laws_FnExactInduced.j1 kj15 l1 t223 true a0_0 l0_1 t219 t220 t233 t234) else ((laws_eqGraph.f kj15 t233 t234 t219 t220).bind fun t253=>(if t253 = true then (laws_FnExactInduced.j1 kj15 l1 t223 (t237 != t223) a0_0 l0_1 t219 t220 t233 t234) else (laws_FnExactInduced.j1 kj15 l1 t223 true a0_0 l0_1 t219 t220 t233 t234)))))) else (some false)))) else (some false)) = some r:=H
            have A67:=qn.mk A670
            clear A670
            by_cases c68 : t244 = true
            · subst c68
              have H1 : ((laws_toIntS.f kj15 l1).bind fun t245=>((laws_eqIntS.f kj15 t230 t245).bind fun t248=>(if t248 = true then ((laws_markGraph.f kj15 t225 t226 1).bind fun bt249=>((laws_markIntS.f kj15 t230 bt249.1).bind fun bt251=>(if bt251.1 < 0 then (laws_FnExactInduced.j1 kj15 l1 t223 true a0_0 l0_1 t219 t220 t233 t234) else ((laws_eqGraph.f kj15 t233 t234 t219 t220).bind fun t253=>(if t253 = true then (laws_FnExactInduced.j1 kj15 l1 t223 (t237 != t223) a0_0 l0_1 t219 t220 t233 t234) else (laws_FnExactInduced.j1 kj15 l1 t223 true a0_0 l0_1 t219 t220 t233 t234)))))) else (some false)))) = some r:=by rw [if_pos rfl] at H;exact H
              clear H
              have H:=H1
              clear H1
              replace H:=Option.bind_eq_some_iff.mp H
              obtain ⟨t245,A690,H⟩:=H
              replace H : ((laws_eqIntS.f kj15 t230 t245).bind fun t248=>(if t248 = true then ((laws_markGraph.f kj15 t225 t226 1).bind fun bt249=>((laws_markIntS.f kj15 t230 bt249.1).bind fun bt251=>(if bt251.1 < 0 then (laws_FnExactInduced.j1 kj15 l1 t223 true a0_0 l0_1 t219 t220 t233 t234) else ((laws_eqGraph.f kj15 t233 t234 t219 t220).bind fun t253=>(if t253 = true then (laws_FnExactInduced.j1 kj15 l1 t223 (t237 != t223) a0_0 l0_1 t219 t220 t233 t234) else (laws_FnExactInduced.j1 kj15 l1 t223 true a0_0 l0_1 t219 t220 t233 t234)))))) else (some false))) = some r:=H
              have A69:=qn.mk A690
              clear A690
              replace H:=Option.bind_eq_some_iff.mp H
              obtain ⟨t248,A700,H⟩:=H
              replace H : (if t248 = true then ((laws_markGraph.f kj15 t225 t226 1).bind fun bt249=>((laws_markIntS.f kj15 t230 bt249.1).bind fun bt251=>(if bt251.1 < 0 then (laws_FnExactInduced.j1 kj15 l1 t223 true a0_0 l0_1 t219 t220 t233 t234) else ((laws_eqGraph.f kj15 t233 t234 t219 t220).bind fun t253=>(if t253 = true then (laws_FnExactInduced.j1 kj15 l1 t223 (t237 != t223) a0_0 l0_1 t219 t220 t233 t234) else (laws_FnExactInduced.j1 kj15 l1 t223 true a0_0 l0_1 t219 t220 t233 t234)))))) else (some false)) = some r:=H
              have A70:=qn.mk A700
              clear A700
              by_cases c71 : t248 = true
              · subst c71
                have H1 : ((laws_markGraph.f kj15 t225 t226 1).bind fun bt249=>((laws_markIntS.f kj15 t230 bt249.1).bind fun bt251=>(if bt251.1 < 0 then (laws_FnExactInduced.j1 kj15 l1 t223 true a0_0 l0_1 t219 t220 t233 t234) else ((laws_eqGraph.f kj15 t233 t234 t219 t220).bind fun t253=>(if t253 = true then (laws_FnExactInduced.j1 kj15 l1 t223 (t237 != t223) a0_0 l0_1 t219 t220 t233 t234) else (laws_FnExactInduced.j1 kj15 l1 t223 true a0_0 l0_1 t219 t220 t233 t234)))))) = some r:=by rw [if_pos rfl] at H;exact H
                clear H
                have H:=H1
                clear H1
                replace H:=Option.bind_eq_some_iff.mp H
                obtain ⟨⟨t249,t250⟩,A720,H⟩:=H
                replace H : ((laws_markIntS.f kj15 t230 t249).bind fun bt251=>(if bt251.1 < 0 then (laws_FnExactInduced.j1 kj15 l1 t223 true a0_0 l0_1 t219 t220 t233 t234) else ((laws_eqGraph.f kj15 t233 t234 t219 t220).bind fun t253=>(if t253 = true then (laws_FnExactInduced.j1 kj15 l1 t223 (t237 != t223) a0_0 l0_1 t219 t220 t233 t234) else (laws_FnExactInduced.j1 kj15 l1 t223 true a0_0 l0_1 t219 t220 t233 t234))))) = some r:=H
                have A72:=qn.mk A720
                clear A720
                replace H:=Option.bind_eq_some_iff.mp H
                obtain ⟨⟨t251,t252⟩,A730,H⟩:=H
                replace H : (if t251 < 0 then (laws_FnExactInduced.j1 kj15 l1 t223 true a0_0 l0_1 t219 t220 t233 t234) else ((laws_eqGraph.f kj15 t233 t234 t219 t220).bind fun t253=>(if t253 = true then (laws_FnExactInduced.j1 kj15 l1 t223 (t237 != t223) a0_0 l0_1 t219 t220 t233 t234) else (laws_FnExactInduced.j1 kj15 l1 t223 true a0_0 l0_1 t219 t220 t233 t234)))) = some r:=H
                have A73:=qn.mk A730
                clear A730
                have HC74:=qn.mk H
                clear H
                try go_wp2
                have n0_:=qn.mk (Kd.R_drew HO_9.out)
                have n1_:=qn.mk (Kd.R_drew HO_225001.out)
                have n2_:=qn.mk (Kd.R_drew HO_230001.out)
                have n3_:=qn.mk (Kd.R_drew HO_239001.out)
                have n4_:=qn.mk (qe BK210.out)
                have n5_:=qn.mk (qe BK224.out)
                have n6_:=qn.mk (qe BK229.out)
                have n7_:=qn.mk (qe BK238.out)
                have n8_:=qn.mk (qd HB.out)
                clear HO_9
                clear HO_225001
                clear HO_230001
                clear HO_239001
                clear BK210
                clear BK224
                clear BK229
                clear BK238
                clear HB
                have HO_9:=n0_
                have HO_225001:=n1_
                have HO_230001:=n2_
                have HO_239001:=n3_
                have BK210:=n4_
                have BK224:=n5_
                have BK229:=n6_
                have BK238:=n7_
                have HB:=n8_
                clear n0_ n1_ n2_ n3_ n4_ n5_ n6_ n7_ n8_
                refine start_ (n:=5) (S:=fun w'=>w'.cell? ⟨gb229,0,none⟩ = some (.int .i64 t225) ∧ w'.cell? ⟨gb229,1,none⟩ = some (.slice Ao36 t226.length co36) ∧ w'.cell? ⟨gb210,0,none⟩ = some (.int .i64 a0_0) ∧ w'.cell? ⟨gb210,1,none⟩ = some (.slice A0_1 l0_1.length c0_1)) (ds:=[]) #[false,false,false,false,false] (by kernel_rfl) rfl rfl ⟨(qh BK229.out 0).trans rfl,(qh BK229.out 1).trans rfl,(qh BK210.out 0).trans rfl,(qh BK210.out 1).trans rfl⟩ (fun hHeld=>?_)
                generalize wc.drew = w75 at HO_9 HO_225001 HO_230001 HO_239001 BK210 BK224 BK229 BK238 HB hHeld ⊢
                refine take_ (i:=0) (N:=some 52) (v:=?_) (a':=?_) #[true,false,false,false,false] rfl rfl (by kernel_rfl) (fun _ _ _ h=>h) (Or.inl ⟨by rfl,?_⟩) hHeld ?_ ?_
                rotate_left
                · rintro w' ⟨s0,s1,s2,s3⟩
                  go_simp
                  with_reducible rfl
                rotate_left
                · simp only [Act.put,List.setIfInBounds_toArray,List.set_cons_zero,List.set_cons_succ,i64_w,i32_w]
                  rfl
                refine take_ (i:=1) (N:=some 53) (v:=?_) (a':=?_) #[true,true,false,false,false] rfl rfl (by kernel_rfl) (fun _ _ _ h=>h) (Or.inl ⟨by rfl,?_⟩) hHeld ?_ ?_
                rotate_left
                · rintro w' ⟨s0,s1,s2,s3⟩
                  go_simp
                  with_reducible rfl
                rotate_left
                · simp only [Act.put,List.setIfInBounds_toArray,List.set_cons_zero,List.set_cons_succ,i64_w,i32_w]
                  rfl
                refine one_ (i:=2) (N:=some 54) #[true,true,true,false,false] rfl rfl (by kernel_rfl) (by decide) (fun K hK=>?_)
                refine goes_ Try.func30 (by kernel_rfl) rfl #[.agg #[.int .i64 a0_0,.slice A0_1 l0_1.length c0_1]] (by rfl) rfl rfl (by (try simp only [List.map_toArray,List.map_cons,List.map_nil]);first|done|rfl|(simp only [List.length_drop,List.length_take];rfl)) ?_
                with_reducible refine (laws_toGraph.calls kj15 a0_0 _ _ l0_1 t240 t241 _ ?side1 ?side2 A66.out).mono ?_
                (case side1=>repeat (first|exact (Kd.C_below HR0_1.out HB.out)|(with_reducible refine Kd.C_alloc ?_ _)|(with_reducible refine Kd.C_drewN ?_ _)|(with_reducible refine Kd.C_drew ?_)))
                (case side2=>exact HC0_1.out)
                rintro e w76 ⟨v242,rfl,ho0,hb⟩
                refine ⟨_,rfl,?_⟩
                have n0_:=rb_ HO_9 hb
                have n1_:=qn.mk (Kd.R_elder' (by (with_reducible repeat (first|apply Kd.R_alloc|apply Kd.R_drewN|apply Kd.R_drew));exact HO_225001.out) (Kd.R_base ho0) hb)
                have n2_:=qn.mk (Kd.R_elder' (by (with_reducible repeat (first|apply Kd.R_alloc|apply Kd.R_drewN|apply Kd.R_drew));exact HO_230001.out) (Kd.R_base ho0) hb)
                have n3_:=qn.mk (Kd.R_elder' (by (with_reducible repeat (first|apply Kd.R_alloc|apply Kd.R_drewN|apply Kd.R_drew));exact HO_239001.out) (Kd.R_base ho0) hb)
                have n4_:=qn.mk (Kd.R_lower (Kd.R_new' (Kd.R_new' (Kd.R_new' ho0 (Kd.R_lt (by (with_reducible repeat (first|apply Kd.R_alloc|apply Kd.R_drewN|apply Kd.R_drew));exact HO_225001.out))) (Kd.R_lt (by (with_reducible repeat (first|apply Kd.R_alloc|apply Kd.R_drewN|apply Kd.R_drew));exact HO_230001.out))) (Kd.R_lt (by (with_reducible repeat (first|apply Kd.R_alloc|apply Kd.R_drewN|apply Kd.R_drew));exact HO_239001.out))) (qj (by repeat (first|(with_reducible first|exact HB.out|apply qf|apply qa|apply qd|refine qg ?_ GE210.out|refine qg ?_ GE224.out|refine qg ?_ GE229.out|refine qg ?_ GE238.out)|exact HB.out))))
                have n5_:=bb_ BK210 hb
                have n6_:=bb_ BK224 hb
                have n7_:=bb_ BK229 hb
                have n8_:=bb_ BK238 hb
                have n9_:=hs_ HB hb
                clear HO_9
                clear HO_225001
                clear HO_230001
                clear HO_239001
                clear BK210
                clear BK224
                clear BK229
                clear BK238
                clear HB
                have HO_9:=n0_
                have HO_225001:=n1_
                have HO_230001:=n2_
                have HO_239001:=n3_
                have HO243:=n4_
                have BK210:=n5_
                have BK224:=n6_
                have BK229:=n7_
                have BK238:=n8_
                have HB:=n9_
                clear n0_ n1_ n2_ n3_ n4_ n5_ n6_ n7_ n8_ n9_
                (try clear hb)
                (try clear hb2)
                (try clear hk)
                (try clear hi)
                (try clear ho0)
                obtain ⟨Ao77,co77,eo77⟩:=Kd.R_slice HO243.out
                (first|subst eo77|(injection eo77 with f1_ f2_ f3_;have f4_:=f1_.symm;have f5_:=f3_.symm;clear f1_ f2_ f3_;subst f4_;subst f5_))
                refine hK.out _ _ ⟨(qh BK229.out 0).trans rfl,(qh BK229.out 1).trans rfl,(qh BK210.out 0).trans rfl,(qh BK210.out 1).trans rfl⟩ (fun hHeld=>?_)
                clear hK K
                refine norm_ (a':=?_) ?_ ?_
                rotate_left
                · show Act.put _ (some 54) _ = _
                  simp only [Act.put,List.setIfInBounds_toArray,List.set_cons_zero,List.set_cons_succ,i64_w,i32_w]
                  rfl
                refine one_ (i:=3) (N:=some 55) #[true,true,true,true,false] rfl rfl (by kernel_rfl) (by decide) (fun K hK=>?_)
                refine goes_ Try.func33 (by kernel_rfl) rfl #[.agg #[.int .i64 t225,.slice Ao36 t226.length co36],.agg #[.int .i64 t240,.slice Ao77 t241.length co77]] (by rfl) rfl rfl (by (try simp only [List.map_toArray,List.map_cons,List.map_nil]);first|done|rfl|(simp only [List.length_drop,List.length_take];rfl)) ?_
                with_reducible refine (laws_eqGraph.calls kj15 t225 _ _ t226 t240 _ _ t241 true _ ?side1 ?side2 ?side3 ?side4 A67.out).mono ?_
                (case side1=>repeat (first|exact (Kd.R_reads' HO_230001.out).2.2|(with_reducible refine Kd.C_alloc ?_ _)|(with_reducible refine Kd.C_drewN ?_ _)|(with_reducible refine Kd.C_drew ?_)))
                (case side2=>exact (Kd.R_reads' HO_230001.out).2.1)
                (case side3=>repeat (first|exact (Kd.R_reads' HO243.out).2.2|(with_reducible refine Kd.C_alloc ?_ _)|(with_reducible refine Kd.C_drewN ?_ _)|(with_reducible refine Kd.C_drew ?_)))
                (case side4=>exact (Kd.R_reads' HO243.out).2.1)
                rintro e w78 ⟨rfl,hb⟩
                refine ⟨_,rfl,?_⟩
                have n0_:=rb_ HO_9 hb
                have n1_:=rb_ HO_225001 hb
                have n2_:=rb_ HO_230001 hb
                have n3_:=rb_ HO_239001 hb
                have n4_:=rb_ HO243 hb
                have n5_:=bb_ BK210 hb
                have n6_:=bb_ BK224 hb
                have n7_:=bb_ BK229 hb
                have n8_:=bb_ BK238 hb
                have n9_:=hs_ HB hb
                clear HO_9
                clear HO_225001
                clear HO_230001
                clear HO_239001
                clear HO243
                clear BK210
                clear BK224
                clear BK229
                clear BK238
                clear HB
                have HO_9:=n0_
                have HO_225001:=n1_
                have HO_230001:=n2_
                have HO_239001:=n3_
                have HO243:=n4_
                have BK210:=n5_
                have BK224:=n6_
                have BK229:=n7_
                have BK238:=n8_
                have HB:=n9_
                clear n0_ n1_ n2_ n3_ n4_ n5_ n6_ n7_ n8_ n9_
                (try clear hb)
                (try clear hb2)
                (try clear hk)
                (try clear hi)
                refine hK.out _ _ ⟨(qh BK229.out 0).trans rfl,(qh BK229.out 1).trans rfl,(qh BK210.out 0).trans rfl,(qh BK210.out 1).trans rfl⟩ (fun hHeld=>?_)
                clear hK K
                refine norm_ (a':=?_) ?_ ?_
                rotate_left
                · show Act.put _ (some 55) _ = _
                  simp only [Act.put,List.setIfInBounds_toArray,List.set_cons_zero,List.set_cons_succ,i64_w,i32_w]
                  rfl
                refine pure_ (i:=4) (N:=some 56) (v:=?_) (a':=?_) #[true,true,true,true,true] rfl rfl (by kernel_rfl) (fun _ _ _ h=>h) (Or.inl ⟨by rfl,?_⟩) ?_ ?_
                rotate_left
                · intro w'
                  go_simp
                  with_reducible rfl
                rotate_left
                · simp only [Act.put,List.setIfInBounds_toArray,List.set_cons_zero,List.set_cons_succ,i64_w,i32_w]
                  rfl
                refine done_ (by kernel_rfl) ?_
                go_upto_region 20 with (first|((with_reducible refine gate_callee (f:=42) rfl ?_);refine goesL_ (some 59) rfl rfl Try.func42 (by kernel_rfl) rfl #[.slice A1 l1.length c1] rfl (by (try simp only [List.map_toArray,List.map_cons,List.map_nil]);first|done|rfl|(simp only [List.length_drop,List.length_take];rfl)) ?_;(with_reducible refine (laws_toIntS.calls kj15 _ _ l1 t245 _ ?side1 ?side2 A69.out).mono ?_);(case side1=>repeat (first|exact (Kd.C_below HR1.out HB.out)|(with_reducible refine Kd.C_alloc ?_ _)|(with_reducible refine Kd.C_drewN ?_ _)|(with_reducible refine Kd.C_drew ?_)));(case side2=>exact HC1.out);rintro e w79 ⟨v246,rfl,ho0,hb⟩;refine ⟨_,rfl,?_⟩;have n0_:=qn.mk (Kd.R_elder' (by (with_reducible repeat (first|apply Kd.R_alloc|apply Kd.R_drewN|apply Kd.R_drew));exact HO_9.out) (Kd.R_base ho0) hb);have n1_:=rb_ HO_225001 hb;have n2_:=rb_ HO_230001 hb;have n3_:=rb_ HO_239001 hb;have n4_:=rb_ HO243 hb;have n5_:=qn.mk (Kd.R_lower (Kd.R_new' ho0 (Kd.R_lt (by (with_reducible repeat (first|apply Kd.R_alloc|apply Kd.R_drewN|apply Kd.R_drew));exact HO_9.out))) (qj (by repeat (first|(with_reducible first|exact HB.out|apply qf|apply qa|apply qd|refine qg ?_ GE210.out|refine qg ?_ GE224.out|refine qg ?_ GE229.out|refine qg ?_ GE238.out)|exact HB.out))));have n6_:=bb_ BK210 hb;have n7_:=bb_ BK224 hb;have n8_:=bb_ BK229 hb;have n9_:=bb_ BK238 hb;have n10_:=hs_ HB hb;clear HO_9;clear HO_225001;clear HO_230001;clear HO_239001;clear HO243;clear BK210;clear BK224;clear BK229;clear BK238;clear HB;have HO_9:=n0_;have HO_225001:=n1_;have HO_230001:=n2_;have HO_239001:=n3_;have HO243:=n4_;have HO247:=n5_;have BK210:=n6_;have BK224:=n7_;have BK229:=n8_;have BK238:=n9_;have HB:=n10_;clear n0_ n1_ n2_ n3_ n4_ n5_ n6_ n7_ n8_ n9_ n10_;(try clear hb);(try clear hb2);(try clear hk);(try clear hi);(try clear ho0);obtain ⟨Ao80,co80,eo80⟩:=Kd.R_slice HO247.out;subst eo80)|((with_reducible refine gate_callee (f:=44) rfl ?_);refine goesL_ (some 60) rfl rfl Try.func44 (by kernel_rfl) rfl #[.slice Ao39 t230.length co39,.slice Ao80 t245.length co80] rfl (by (try simp only [List.map_toArray,List.map_cons,List.map_nil]);first|done|rfl|(simp only [List.length_drop,List.length_take];rfl)) ?_;(with_reducible refine (laws_eqIntS.calls kj15 _ _ t230 _ _ t245 true _ ?side1 ?side2 ?side3 ?side4 A70.out).mono ?_);(case side1=>repeat (first|exact (Kd.R_reads' HO_9.out).2.2|(with_reducible refine Kd.C_alloc ?_ _)|(with_reducible refine Kd.C_drewN ?_ _)|(with_reducible refine Kd.C_drew ?_)));(case side2=>exact (Kd.R_reads' HO_9.out).2.1);(case side3=>repeat (first|exact (Kd.R_reads' HO247.out).2.2|(with_reducible refine Kd.C_alloc ?_ _)|(with_reducible refine Kd.C_drewN ?_ _)|(with_reducible refine Kd.C_drew ?_)));(case side4=>exact (Kd.R_reads' HO247.out).2.1);rintro e w' ⟨rfl,⟨nd,rfl⟩⟩;refine ⟨_,rfl,?_⟩;have hnb81:=NB229_210.out;have hnc81:=NB210_229.out;have hnb82:=NB229_224.out;have hnc82:=NB224_229.out;have hnb83:=NB229_238.out;have hnc83:=NB238_229.out;have hcz84_0 : w79.cell? ⟨gb229,0,none⟩ = some (.int .i64 t225):=(qh BK229.out 0).trans rfl;have hcz84_1 : w79.cell? ⟨gb229,1,none⟩ = some (.slice Ao36 t226.length co36):=(qh BK229.out 1).trans rfl;have hfz84_0:=qi BK229.out 0;have hfz84_1:=qi BK229.out 1)|((with_reducible refine gate_callee (f:=45) rfl ?_);refine goesL_ (some 64) rfl rfl Try.func45 (by kernel_rfl) rfl #[.agg #[.int .i64 t225,.slice Ao36 t226.length co36],.int .i64 1] rfl (by (try simp only [List.map_toArray,List.map_cons,List.map_nil]);first|done|rfl|(simp only [List.length_drop,List.length_take];rfl)) ?_;(with_reducible refine (laws_markGraph.calls kj15 t225 (fun k_=>some k_ = (.slice Ao36 t226.length co36 : Value).ownBlock) (.slice Ao36 t226.length co36) t226 1 t249 t250 w _ ?side1 ?side2 A72.out).mono ?_);(case side1=>repeat (first|(with_reducible first|exact HB.out|apply qf|apply qa|apply qd|refine qg ?_ GE210.out|refine qg ?_ GE224.out|refine qg ?_ GE229.out|refine qg ?_ GE238.out)|exact HB.out));(case side2=>exact Kd.R_tight rfl HO_230001.out);rintro e w85 ⟨rfl,hy0,hb,hkp⟩;refine ⟨_,rfl,?_⟩;have n0_:=qn.mk (Kd.R_mono (ok':=fun k_=>some k_ ≠ (.slice Ao80 t245.length co80 : Value).ownBlock) (Kd.R_keptB ((Kd.R_apart' HO_9.out (Kd.R_typed HO_230001.out) (by decide))) hkp (fun k_ hk_ hs_=>(hk_.2) hs_)) (fun k_ hk_=>hk_.1.1.2));have n1_:=qn.mk (Kd.R_mono (ok':=fun k_=>some k_ ≠ (.slice Ao36 t226.length co36 : Value).ownBlock ∧ some k_ ≠ (.slice Ao46 t234.length co46 : Value).ownBlock ∧ some k_ ≠ (.slice Ao77 t241.length co77 : Value).ownBlock) (Kd.R_keptB (HO_225001.out) hkp (fun k_ hk_ hs_=>(hk_.1.1) hs_)) (fun k_ hk_=>⟨hk_.1.1.1,hk_.1.1.2,hk_.1.2⟩));have n2_:=qn.mk (Kd.R_reok rfl hy0 (fun k_ e_=>HO_230001.out.1 k_ e_));have n3_:=qn.mk (Kd.R_mono (ok':=fun k_=>some k_ ≠ (.slice Ao29 t220.length co29 : Value).ownBlock ∧ some k_ ≠ (.slice Ao36 t226.length co36 : Value).ownBlock ∧ some k_ ≠ (.slice Ao77 t241.length co77 : Value).ownBlock) (Kd.R_keptB (HO_239001.out) hkp (fun k_ hk_ hs_=>(hk_.1.2) hs_)) (fun k_ hk_=>⟨hk_.1.1.1,hk_.1.1.2,hk_.1.2⟩));have n4_:=qn.mk (blk_kept (by (with_reducible repeat (first|refine qb ?_ _|refine qe ?_|refine qc ?_ _));exact BK210.out) hkp (fun hs_=>(fun e_=>(Kd.R_ne HO_230001.out BK210.out (by decide)) e_) hs_));have n5_:=qn.mk (blk_kept (by (with_reducible repeat (first|refine qb ?_ _|refine qe ?_|refine qc ?_ _));exact BK224.out) hkp (fun hs_=>(fun e_=>(Kd.R_ne HO_230001.out BK224.out (by decide)) e_) hs_));have n6_:=qn.mk (blk_kept (by (with_reducible repeat (first|refine qb ?_ _|refine qe ?_|refine qc ?_ _));exact BK229.out) hkp (fun hs_=>(fun e_=>(Kd.R_ne HO_230001.out BK229.out (by decide)) e_) hs_));have n7_:=qn.mk (blk_kept (by (with_reducible repeat (first|refine qb ?_ _|refine qe ?_|refine qc ?_ _));exact BK238.out) hkp (fun hs_=>(fun e_=>(Kd.R_ne HO_230001.out BK238.out (by decide)) e_) hs_));have n8_:=qn.mk (Kd.R_mono (ok':=fun k_=>some k_ ≠ (.slice Ao29 t220.length co29 : Value).ownBlock ∧ some k_ ≠ (.slice Ao36 t226.length co36 : Value).ownBlock ∧ some k_ ≠ (.slice Ao46 t234.length co46 : Value).ownBlock) (Kd.R_keptB (HO243.out) hkp (fun k_ hk_ hs_=>(hk_.1.2) hs_)) (fun k_ hk_=>⟨hk_.1.1.1.2,hk_.1.1.2,hk_.1.2⟩));have n9_:=qn.mk (Kd.R_mono (ok':=fun k_=>some k_ ≠ (.slice Ao39 t230.length co39 : Value).ownBlock) (Kd.R_keptB ((Kd.R_apart' HO247.out (Kd.R_typed HO_230001.out) (by decide))) hkp (fun k_ hk_ hs_=>(hk_.2) hs_)) (fun k_ hk_=>hk_.1.1.2));have n10_:=qn.mk (hb);clear HO_9;clear HO_225001;clear HO_230001;clear HO_239001;clear BK210;clear BK224;clear BK229;clear BK238;clear HO243;clear HO247;clear HB;have HO_9:=n0_;have HO_225001:=n1_;have HO_230001:=n2_;have HO_239001:=n3_;have BK210:=n4_;have BK224:=n5_;have BK229:=n6_;have BK238:=n7_;have HO243:=n8_;have HO247:=n9_;have HB:=n10_;clear n0_ n1_ n2_ n3_ n4_ n5_ n6_ n7_ n8_ n9_ n10_;(try clear hb);(try clear hkp);(try clear hy0))|((with_reducible refine gate_callee (f:=46) rfl ?_);refine goesL_ (some 67) rfl rfl Try.func46 (by kernel_rfl) rfl #[.slice Ao39 t230.length co39,.int .i64 t249] rfl (by (try simp only [List.map_toArray,List.map_cons,List.map_nil]);first|done|rfl|(simp only [List.length_drop,List.length_take];rfl)) ?_;(with_reducible refine (laws_markIntS.calls kj15 (fun k_=>some k_ = (.slice Ao39 t230.length co39 : Value).ownBlock) (.slice Ao39 t230.length co39) t230 t249 t251 t252 w _ ?side1 ?side2 A73.out).mono ?_);(case side1=>repeat (first|(with_reducible first|exact HB.out|apply qf|apply qa|apply qd|refine qg ?_ GE210.out|refine qg ?_ GE224.out|refine qg ?_ GE229.out|refine qg ?_ GE238.out)|exact HB.out));(case side2=>exact Kd.R_tight rfl HO_9.out);rintro e w86 ⟨rfl,hy0,hb,hkp⟩;refine ⟨_,rfl,?_⟩;have n0_:=qn.mk (Kd.R_reok rfl hy0 (fun k_ e_=>HO_9.out.1 k_ e_));have n1_:=qn.mk (Kd.R_mono (ok':=fun k_=>some k_ ≠ (.slice Ao36 t226.length co36 : Value).ownBlock ∧ some k_ ≠ (.slice Ao46 t234.length co46 : Value).ownBlock ∧ some k_ ≠ (.slice Ao77 t241.length co77 : Value).ownBlock) (Kd.R_keptB ((Kd.R_apart' HO_225001.out (Kd.R_typed HO_9.out) (by decide))) hkp (fun k_ hk_ hs_=>(hk_.2) hs_)) (fun k_ hk_=>⟨hk_.1.1.1,hk_.1.1.2.1,hk_.1.1.2.2⟩));have n2_:=qn.mk (Kd.R_mono (ok':=fun k_=>some k_ ≠ (.slice Ao29 t220.length co29 : Value).ownBlock ∧ some k_ ≠ (.slice Ao46 t234.length co46 : Value).ownBlock ∧ some k_ ≠ (.slice Ao77 t241.length co77 : Value).ownBlock) (Kd.R_keptB ((Kd.R_apart' HO_230001.out (Kd.R_typed HO_9.out) (by decide))) hkp (fun k_ hk_ hs_=>(hk_.2) hs_)) (fun k_ hk_=>⟨hk_.1.1.1.1,hk_.1.1.1.2,hk_.1.1.2⟩));have n3_:=qn.mk (Kd.R_mono (ok':=fun k_=>some k_ ≠ (.slice Ao29 t220.length co29 : Value).ownBlock ∧ some k_ ≠ (.slice Ao36 t226.length co36 : Value).ownBlock ∧ some k_ ≠ (.slice Ao77 t241.length co77 : Value).ownBlock) (Kd.R_keptB ((Kd.R_apart' HO_239001.out (Kd.R_typed HO_9.out) (by decide))) hkp (fun k_ hk_ hs_=>(hk_.2) hs_)) (fun k_ hk_=>⟨hk_.1.1.1,hk_.1.1.2.1,hk_.1.1.2.2⟩));have n4_:=qn.mk (blk_kept (by (with_reducible repeat (first|refine qb ?_ _|refine qe ?_|refine qc ?_ _));exact BK210.out) hkp (fun hs_=>(fun e_=>(Kd.R_ne HO_9.out BK210.out (by decide)) e_) hs_));have n5_:=qn.mk (blk_kept (by (with_reducible repeat (first|refine qb ?_ _|refine qe ?_|refine qc ?_ _));exact BK224.out) hkp (fun hs_=>(fun e_=>(Kd.R_ne HO_9.out BK224.out (by decide)) e_) hs_));have n6_:=qn.mk (blk_kept (by (with_reducible repeat (first|refine qb ?_ _|refine qe ?_|refine qc ?_ _));exact BK229.out) hkp (fun hs_=>(fun e_=>(Kd.R_ne HO_9.out BK229.out (by decide)) e_) hs_));have n7_:=qn.mk (blk_kept (by (with_reducible repeat (first|refine qb ?_ _|refine qe ?_|refine qc ?_ _));exact BK238.out) hkp (fun hs_=>(fun e_=>(Kd.R_ne HO_9.out BK238.out (by decide)) e_) hs_));have n8_:=qn.mk (Kd.R_mono (ok':=fun k_=>some k_ ≠ (.slice Ao29 t220.length co29 : Value).ownBlock ∧ some k_ ≠ (.slice Ao36 t226.length co36 : Value).ownBlock ∧ some k_ ≠ (.slice Ao46 t234.length co46 : Value).ownBlock) (Kd.R_keptB ((Kd.R_apart' HO243.out (Kd.R_typed HO_9.out) (by decide))) hkp (fun k_ hk_ hs_=>(hk_.2) hs_)) (fun k_ hk_=>⟨hk_.1.1.1,hk_.1.1.2.1,hk_.1.1.2.2⟩));have n9_:=qn.mk (Kd.R_mono (ok':=fun k_=>some k_ ≠ (.slice Ao39 t230.length co39 : Value).ownBlock) (Kd.R_keptB (HO247.out) hkp (fun k_ hk_ hs_=>(hk_) hs_)) (fun k_ hk_=>hk_.1));have n10_:=qn.mk (hb);clear HO_9;clear HO_225001;clear HO_230001;clear HO_239001;clear BK210;clear BK224;clear BK229;clear BK238;clear HO243;clear HO247;clear HB;have HO_9:=n0_;have HO_225001:=n1_;have HO_230001:=n2_;have HO_239001:=n3_;have BK210:=n4_;have BK224:=n5_;have BK229:=n6_;have BK238:=n7_;have HO243:=n8_;have HO247:=n9_;have HB:=n10_;clear n0_ n1_ n2_ n3_ n4_ n5_ n6_ n7_ n8_ n9_ n10_;(try clear hb);(try clear hkp);(try clear hy0)))
                (try simp only [Act.put,List.setIfInBounds_toArray,List.set_cons_zero,List.set_cons_succ])
                go_cut [80] (fun v80 wc=>∃ (kq : Nat) (x80_73 : Bool),v80 = .bool x80_73 ∧ qn (laws_FnExactInduced.j1 kq l1 t223 x80_73 a0_0 l0_1 t219 t220 t233 t234 = some r) ∧ qn (kq ≤ kj15) ∧ qn (Kd.R k148 148 wc w.heap.size (fun k_=>some k_ ≠ ((.slice Ao36 t226.length co36) : Value).ownBlock ∧ some k_ ≠ ((.slice Ao46 t234.length co46) : Value).ownBlock) (.slice Ao29 t220.length co29) t220) ∧ qn (Kd.R k148 148 wc w.heap.size (fun k_=>some k_ ≠ ((.slice Ao29 t220.length co29) : Value).ownBlock ∧ some k_ ≠ ((.slice Ao46 t234.length co46) : Value).ownBlock) (.slice Ao36 t226.length co36) t250) ∧ qn (Kd.R k148 148 wc w.heap.size (fun k_=>some k_ ≠ ((.slice Ao29 t220.length co29) : Value).ownBlock ∧ some k_ ≠ ((.slice Ao36 t226.length co36) : Value).ownBlock) (.slice Ao46 t234.length co46) t234) ∧ qn (wc.heap[gb210]? = some (.cells #[.int .i64 a0_0,(.slice A0_1 l0_1.length c0_1)] 49 (0,0))) ∧ qn (wc.heap[gb224]? = some (.cells #[.int .i64 t219,(.slice Ao29 t220.length co29)] 56 (0,0))) ∧ qn (wc.heap[gb229]? = some (.cells #[.int .i64 t225,(.slice Ao36 t226.length co36)] 56 (0,0))) ∧ qn (wc.heap[gb238]? = some (.cells #[.int .i64 t233,(.slice Ao46 t234.length co46)] 56 (0,0))) ∧ qn (Below w.heap.size w wc))
                case first =>
                  have H:=HC74.out
                  clear HC74
                  by_cases c87 : t251 < 0
                  · rw [if_pos c87] at H
                    have c87b0 : decide (t251 < 0) = true:=decide_eq_true c87
                    clear c87
                    (first|rw [c87b0]|(simp only [i64_w,i32_w];rw [c87b0])|skip)
                    have H':=qn.mk H
                    clear H
                    go_wp2
                    go_meet
                    case rel=>exact ⟨_,(true),(by first|rfl|(simp;done)|(simp [*];done)),H',⟨by have:=HJ15.out;first|omega|exact Nat.le_refl _⟩,⟨by (with_reducible repeat (first|apply Kd.R_alloc|apply Kd.R_drewN|apply Kd.R_drew));exact Kd.R_mono HO_225001.out (fun _ hk=>⟨hk.1,hk.2.1⟩)⟩,⟨by (with_reducible repeat (first|apply Kd.R_alloc|apply Kd.R_drewN|apply Kd.R_drew));exact Kd.R_mono HO_230001.out (fun _ hk=>⟨hk.1,hk.2.1⟩)⟩,⟨by (with_reducible repeat (first|apply Kd.R_alloc|apply Kd.R_drewN|apply Kd.R_drew));exact Kd.R_mono HO_239001.out (fun _ hk=>⟨hk.1,hk.2.1⟩)⟩,⟨by (with_reducible repeat (first|refine qb ?_ _|refine qe ?_|refine qc ?_ _));exact BK210.out⟩,⟨by (with_reducible repeat (first|refine qb ?_ _|refine qe ?_|refine qc ?_ _));exact BK224.out⟩,⟨by (with_reducible repeat (first|refine qb ?_ _|refine qe ?_|refine qc ?_ _));exact BK229.out⟩,⟨by (with_reducible repeat (first|refine qb ?_ _|refine qe ?_|refine qc ?_ _));exact BK238.out⟩,⟨by repeat (first|(with_reducible first|exact HB.out|apply qf|apply qa|apply qd|refine qg ?_ GE210.out|refine qg ?_ GE224.out|refine qg ?_ GE229.out|refine qg ?_ GE238.out)|exact HB.out)⟩⟩
                  · rw [if_neg c87] at H
                    have c87b0 : decide (t251 < 0) = false:=decide_eq_false c87
                    clear c87
                    (first|rw [c87b0]|(simp only [i64_w,i32_w];rw [c87b0])|skip)
                    replace H:=Option.bind_eq_some_iff.mp H
                    obtain ⟨t253,A880,H⟩:=H
                    replace H : (if t253 = true then (laws_FnExactInduced.j1 kj15 l1 t223 (t237 != t223) a0_0 l0_1 t219 t220 t233 t234) else (laws_FnExactInduced.j1 kj15 l1 t223 true a0_0 l0_1 t219 t220 t233 t234)) = some r:=H
                    have A88:=qn.mk A880
                    clear A880
                    by_cases c89 : t253 = true
                    · subst c89
                      have H1 : (laws_FnExactInduced.j1 kj15 l1 t223 (t237 != t223) a0_0 l0_1 t219 t220 t233 t234) = some r:=by rw [if_pos rfl] at H;exact H
                      clear H
                      have H:=H1
                      clear H1
                      have H':=qn.mk H
                      clear H
                      have hnb90:=NB238_210.out
                      have hnc90:=NB210_238.out
                      have hnb91:=NB238_224.out
                      have hnc91:=NB224_238.out
                      have hnb92:=NB238_229.out
                      have hnc92:=NB229_238.out
                      have hcz93_0 : w86.cell? ⟨gb238,0,none⟩ = some (.int .i64 t233):=(qh BK238.out 0).trans rfl
                      have hcz93_1 : w86.cell? ⟨gb238,1,none⟩ = some (.slice Ao46 t234.length co46):=(qh BK238.out 1).trans rfl
                      have hfz93_0:=qi BK238.out 0
                      have hfz93_1:=qi BK238.out 1
                      have hnb94:=NB224_210.out
                      have hnc94:=NB210_224.out
                      have hnb95:=NB224_229.out
                      have hnc95:=NB229_224.out
                      have hcz96_0 : w86.cell? ⟨gb224,0,none⟩ = some (.int .i64 t219):=(qh BK224.out 0).trans rfl
                      have hcz96_1 : w86.cell? ⟨gb224,1,none⟩ = some (.slice Ao29 t220.length co29):=(qh BK224.out 1).trans rfl
                      have hfz96_0:=qi BK224.out 0
                      have hfz96_1:=qi BK224.out 1
                      go_wp2_with (first|(go_at_call 33;(with_reducible refine (laws_eqGraph.calls kj15 t233 _ _ t234 t219 _ _ t220 true _ ?side1 ?side2 ?side3 ?side4 A88.out).mono ?_);(case side1=>repeat (first|exact (Kd.R_reads' HO_239001.out).2.2|(with_reducible refine Kd.C_alloc ?_ _)|(with_reducible refine Kd.C_drewN ?_ _)|(with_reducible refine Kd.C_drew ?_)));(case side2=>exact (Kd.R_reads' HO_239001.out).2.1);(case side3=>repeat (first|exact (Kd.R_reads' HO_225001.out).2.2|(with_reducible refine Kd.C_alloc ?_ _)|(with_reducible refine Kd.C_drewN ?_ _)|(with_reducible refine Kd.C_drew ?_)));(case side4=>exact (Kd.R_reads' HO_225001.out).2.1);rintro e w97 ⟨rfl,hb⟩;have n0_:=rb_ HO_9 hb;have n1_:=rb_ HO_225001 hb;have n2_:=rb_ HO_230001 hb;have n3_:=rb_ HO_239001 hb;have n4_:=rb_ HO243 hb;have n5_:=rb_ HO247 hb;have n6_:=bb_ BK210 hb;have n7_:=bb_ BK224 hb;have n8_:=bb_ BK229 hb;have n9_:=bb_ BK238 hb;have n10_:=hs_ HB hb;clear HO_9;clear HO_225001;clear HO_230001;clear HO_239001;clear HO243;clear HO247;clear BK210;clear BK224;clear BK229;clear BK238;clear HB;have HO_9:=n0_;have HO_225001:=n1_;have HO_230001:=n2_;have HO_239001:=n3_;have HO243:=n4_;have HO247:=n5_;have BK210:=n6_;have BK224:=n7_;have BK229:=n8_;have BK238:=n9_;have HB:=n10_;clear n0_ n1_ n2_ n3_ n4_ n5_ n6_ n7_ n8_ n9_ n10_;(try clear hb);(try clear hb2);(try clear hk);(try clear hi)))
                      go_meet
                      case rel=>exact ⟨_,((t237 != t223)),(by first|rfl|(simp;done)|(simp [*];done)),H',⟨by have:=HJ15.out;first|omega|exact Nat.le_refl _⟩,⟨by (with_reducible repeat (first|apply Kd.R_alloc|apply Kd.R_drewN|apply Kd.R_drew));exact Kd.R_mono HO_225001.out (fun _ hk=>⟨hk.1,hk.2.1⟩)⟩,⟨by (with_reducible repeat (first|apply Kd.R_alloc|apply Kd.R_drewN|apply Kd.R_drew));exact Kd.R_mono HO_230001.out (fun _ hk=>⟨hk.1,hk.2.1⟩)⟩,⟨by (with_reducible repeat (first|apply Kd.R_alloc|apply Kd.R_drewN|apply Kd.R_drew));exact Kd.R_mono HO_239001.out (fun _ hk=>⟨hk.1,hk.2.1⟩)⟩,⟨by (with_reducible repeat (first|refine qb ?_ _|refine qe ?_|refine qc ?_ _));exact BK210.out⟩,⟨by (with_reducible repeat (first|refine qb ?_ _|refine qe ?_|refine qc ?_ _));exact BK224.out⟩,⟨by (with_reducible repeat (first|refine qb ?_ _|refine qe ?_|refine qc ?_ _));exact BK229.out⟩,⟨by (with_reducible repeat (first|refine qb ?_ _|refine qe ?_|refine qc ?_ _));exact BK238.out⟩,⟨by repeat (first|(with_reducible first|exact HB.out|apply qf|apply qa|apply qd|refine qg ?_ GE210.out|refine qg ?_ GE224.out|refine qg ?_ GE229.out|refine qg ?_ GE238.out)|exact HB.out)⟩⟩
                    · replace c89:=Bool.eq_false_iff.mpr c89
                      subst c89
                      have H1 : (laws_FnExactInduced.j1 kj15 l1 t223 true a0_0 l0_1 t219 t220 t233 t234) = some r:=by rw [if_neg (show ¬ (false = true) by decide)] at H;exact H
                      clear H
                      have H:=H1
                      clear H1
                      have H':=qn.mk H
                      clear H
                      have hnb98:=NB238_210.out
                      have hnc98:=NB210_238.out
                      have hnb99:=NB238_224.out
                      have hnc99:=NB224_238.out
                      have hnb100:=NB238_229.out
                      have hnc100:=NB229_238.out
                      have hcz101_0 : w86.cell? ⟨gb238,0,none⟩ = some (.int .i64 t233):=(qh BK238.out 0).trans rfl
                      have hcz101_1 : w86.cell? ⟨gb238,1,none⟩ = some (.slice Ao46 t234.length co46):=(qh BK238.out 1).trans rfl
                      have hfz101_0:=qi BK238.out 0
                      have hfz101_1:=qi BK238.out 1
                      have hnb102:=NB224_210.out
                      have hnc102:=NB210_224.out
                      have hnb103:=NB224_229.out
                      have hnc103:=NB229_224.out
                      have hcz104_0 : w86.cell? ⟨gb224,0,none⟩ = some (.int .i64 t219):=(qh BK224.out 0).trans rfl
                      have hcz104_1 : w86.cell? ⟨gb224,1,none⟩ = some (.slice Ao29 t220.length co29):=(qh BK224.out 1).trans rfl
                      have hfz104_0:=qi BK224.out 0
                      have hfz104_1:=qi BK224.out 1
                      go_wp2_with (first|(go_at_call 33;(with_reducible refine (laws_eqGraph.calls kj15 t233 _ _ t234 t219 _ _ t220 false _ ?side1 ?side2 ?side3 ?side4 A88.out).mono ?_);(case side1=>repeat (first|exact (Kd.R_reads' HO_239001.out).2.2|(with_reducible refine Kd.C_alloc ?_ _)|(with_reducible refine Kd.C_drewN ?_ _)|(with_reducible refine Kd.C_drew ?_)));(case side2=>exact (Kd.R_reads' HO_239001.out).2.1);(case side3=>repeat (first|exact (Kd.R_reads' HO_225001.out).2.2|(with_reducible refine Kd.C_alloc ?_ _)|(with_reducible refine Kd.C_drewN ?_ _)|(with_reducible refine Kd.C_drew ?_)));(case side4=>exact (Kd.R_reads' HO_225001.out).2.1);rintro e w105 ⟨rfl,hb⟩;have n0_:=rb_ HO_9 hb;have n1_:=rb_ HO_225001 hb;have n2_:=rb_ HO_230001 hb;have n3_:=rb_ HO_239001 hb;have n4_:=rb_ HO243 hb;have n5_:=rb_ HO247 hb;have n6_:=bb_ BK210 hb;have n7_:=bb_ BK224 hb;have n8_:=bb_ BK229 hb;have n9_:=bb_ BK238 hb;have n10_:=hs_ HB hb;clear HO_9;clear HO_225001;clear HO_230001;clear HO_239001;clear HO243;clear HO247;clear BK210;clear BK224;clear BK229;clear BK238;clear HB;have HO_9:=n0_;have HO_225001:=n1_;have HO_230001:=n2_;have HO_239001:=n3_;have HO243:=n4_;have HO247:=n5_;have BK210:=n6_;have BK224:=n7_;have BK229:=n8_;have BK238:=n9_;have HB:=n10_;clear n0_ n1_ n2_ n3_ n4_ n5_ n6_ n7_ n8_ n9_ n10_;(try clear hb);(try clear hb2);(try clear hk);(try clear hi)))
                      go_meet
                      case rel=>exact ⟨_,(true),(by first|rfl|(simp;done)|(simp [*];done)),H',⟨by have:=HJ15.out;first|omega|exact Nat.le_refl _⟩,⟨by (with_reducible repeat (first|apply Kd.R_alloc|apply Kd.R_drewN|apply Kd.R_drew));exact Kd.R_mono HO_225001.out (fun _ hk=>⟨hk.1,hk.2.1⟩)⟩,⟨by (with_reducible repeat (first|apply Kd.R_alloc|apply Kd.R_drewN|apply Kd.R_drew));exact Kd.R_mono HO_230001.out (fun _ hk=>⟨hk.1,hk.2.1⟩)⟩,⟨by (with_reducible repeat (first|apply Kd.R_alloc|apply Kd.R_drewN|apply Kd.R_drew));exact Kd.R_mono HO_239001.out (fun _ hk=>⟨hk.1,hk.2.1⟩)⟩,⟨by (with_reducible repeat (first|refine qb ?_ _|refine qe ?_|refine qc ?_ _));exact BK210.out⟩,⟨by (with_reducible repeat (first|refine qb ?_ _|refine qe ?_|refine qc ?_ _));exact BK224.out⟩,⟨by (with_reducible repeat (first|refine qb ?_ _|refine qe ?_|refine qc ?_ _));exact BK229.out⟩,⟨by (with_reducible repeat (first|refine qb ?_ _|refine qe ?_|refine qc ?_ _));exact BK238.out⟩,⟨by repeat (first|(with_reducible first|exact HB.out|apply qf|apply qa|apply qd|refine qg ?_ GE210.out|refine qg ?_ GE224.out|refine qg ?_ GE229.out|refine qg ?_ GE238.out)|exact HB.out)⟩⟩
                case rest =>
                  clear HC74
                  try clear c1
                  try clear c2
                  try clear p2
                  try clear c3
                  try clear c3b0
                  try clear c3b1
                  try clear c4
                  try clear c5
                  try clear c6
                  try clear c6b0
                  try clear c7
                  try clear c8
                  try clear c9
                  try clear c10
                  try clear c27
                  try clear c30
                  try clear c33
                  try clear c34
                  try clear c41
                  try clear c42
                  try clear c43
                  try clear c44
                  try clear c45
                  try clear c46
                  try clear c48
                  try clear c49
                  try clear c50
                  try clear c51
                  try clear c53
                  try clear c54
                  try clear c57
                  try clear c58
                  try clear c59
                  try clear c61
                  try clear c62
                  try clear c65
                  try clear c68
                  try clear c71
                  try clear c81
                  try clear c82
                  try clear c83
                  try clear c87
                  try clear c87b0
                  try clear c89
                  try clear c90
                  try clear c91
                  try clear c92
                  try clear c94
                  try clear c95
                  try clear c98
                  try clear c99
                  try clear c100
                  try clear c102
                  try clear c103
                  try clear hcz101_0
                  try clear hcz101_1
                  try clear hcz104_0
                  try clear hcz104_1
                  try clear hcz18_0
                  try clear hcz18_1
                  try clear hcz20_0
                  try clear hcz20_1
                  try clear hcz28_0
                  try clear hcz28_1
                  try clear hcz30_0
                  try clear hcz30_1
                  try clear hcz35_0
                  try clear hcz35_1
                  try clear hcz38_0
                  try clear hcz38_1
                  try clear hcz45_0
                  try clear hcz45_1
                  try clear hcz52_0
                  try clear hcz52_1
                  try clear hcz55_0
                  try clear hcz55_1
                  try clear hcz60_0
                  try clear hcz60_1
                  try clear hcz63_0
                  try clear hcz63_1
                  try clear hcz84_0
                  try clear hcz84_1
                  try clear hcz8_0
                  try clear hcz8_1
                  try clear hcz93_0
                  try clear hcz93_1
                  try clear hcz96_0
                  try clear hcz96_1
                  try clear hfz101_0
                  try clear hfz101_1
                  try clear hfz104_0
                  try clear hfz104_1
                  try clear hfz18_0
                  try clear hfz18_1
                  try clear hfz20_0
                  try clear hfz20_1
                  try clear hfz28_0
                  try clear hfz28_1
                  try clear hfz30_0
                  try clear hfz30_1
                  try clear hfz35_0
                  try clear hfz35_1
                  try clear hfz38_0
                  try clear hfz38_1
                  try clear hfz45_0
                  try clear hfz45_1
                  try clear hfz52_0
                  try clear hfz52_1
                  try clear hfz55_0
                  try clear hfz55_1
                  try clear hfz60_0
                  try clear hfz60_1
                  try clear hfz63_0
                  try clear hfz63_1
                  try clear hfz84_0
                  try clear hfz84_1
                  try clear hfz8_0
                  try clear hfz8_1
                  try clear hfz93_0
                  try clear hfz93_1
                  try clear hfz96_0
                  try clear hfz96_1
                  try clear p2
                  obtain ⟨kq,x80_73,rfl,HA,HJ73,HO_225001,HO_230001,HO_239001,BK210,BK224,BK229,BK238,HB⟩:=hcut
                  have hl230001_73:=(Kd.R_reads' HO_230001.out).1
                  rw [hl230001_73] at HO_230001
                  (try simp only [hl230001_73])
                  (try simp only [hl230001_73] at BK210)
                  (try simp only [hl230001_73] at BK224)
                  (try simp only [hl230001_73] at BK229)
                  (try simp only [hl230001_73] at BK238)
                  (try simp only [hl230001_73] at HO_225001)
                  (try simp only [hl230001_73] at HO_239001)
                  cases kq with
                  | zero=>exact absurd HA.out (by simp [laws_FnExactInduced.j1])
                  | succ kj73 =>
                    have H:=HA.out
                    clear HA
                    simp only [laws_FnExactInduced.j1] at H
                    by_cases c106 : x80_73 = true
                    · subst c106
                      have H1 : (some false) = some r:=by rw [if_pos rfl] at H;exact H
                      clear H
                      have H:=H1
                      clear H1
                      obtain rfl:=Option.some.inj H
                      go_wp2
                      go_ret
                      exact ⟨by first|rfl|(simp [errW_none,errW_some] <;> rfl)|(simp [*,errW_none,errW_some] <;> rfl),by repeat (first|(with_reducible first|exact HB.out|apply qf|apply qa|apply qd|refine qg ?_ GE210.out|refine qg ?_ GE224.out|refine qg ?_ GE229.out|refine qg ?_ GE238.out)|exact HB.out)⟩
                    · replace c106:=Bool.eq_false_iff.mpr c106
                      subst c106
                      have H1 : ((laws_markGraph.f kj73 t233 t234 1).bind fun bt254=>((laws_heldGraph.f kj73 t233 bt254.2 1).bind fun t256=>(if t256 < 0 then (some false) else (if t256 = bt254.1 then ((laws_toGraph.f kj73 a0_0 l0_1).bind fun bt257=>((laws_toIntS.f kj73 l1).bind fun t261=>((impl_Induced.f kj73 bt257.1 bt257.2 t261).bind fun bt264=>((laws_eqGraph.f kj73 bt264.1 bt264.2.1 t219 t220).bind fun t270=>(if t270 = true then (laws_FnExactInduced.j2 kj73 bt254.1 (bt264.2.2 != t223) t233 bt254.2) else (laws_FnExactInduced.j2 kj73 bt254.1 true t233 bt254.2)))))) else (some false))))) = some r:=by rw [if_neg (show ¬ (false = true) by decide)] at H;exact H
                      clear H
                      have H:=H1
                      clear H1
                      replace H:=Option.bind_eq_some_iff.mp H
                      obtain ⟨⟨t254,t255⟩,A1070,H⟩:=H
                      replace H : ((laws_heldGraph.f kj73 t233 t255 1).bind fun t256=>(if t256 < 0 then (some false) else (if t256 = t254 then ((laws_toGraph.f kj73 a0_0 l0_1).bind fun bt257=>((laws_toIntS.f kj73 l1).bind fun t261=>((impl_Induced.f kj73 bt257.1 bt257.2 t261).bind fun bt264=>((laws_eqGraph.f kj73 bt264.1 bt264.2.1 t219 t220).bind fun t270=>(if t270 = true then (laws_FnExactInduced.j2 kj73 t254 (bt264.2.2 != t223) t233 t255) else (laws_FnExactInduced.j2 kj73 t254 true t233 t255)))))) else (some false)))) = some r:=H
                      have A107:=qn.mk A1070
                      clear A1070
                      replace H:=Option.bind_eq_some_iff.mp H
                      obtain ⟨t256,A1080,H⟩:=H
                      replace H : (if t256 < 0 then (some false) else (if t256 = t254 then ((laws_toGraph.f kj73 a0_0 l0_1).bind fun bt257=>((laws_toIntS.f kj73 l1).bind fun t261=>((impl_Induced.f kj73 bt257.1 bt257.2 t261).bind fun bt264=>((laws_eqGraph.f kj73 bt264.1 bt264.2.1 t219 t220).bind fun t270=>(if t270 = true then (laws_FnExactInduced.j2 kj73 t254 (bt264.2.2 != t223) t233 t255) else (laws_FnExactInduced.j2 kj73 t254 true t233 t255)))))) else (some false))) = some r:=H
                      have A108:=qn.mk A1080
                      clear A1080
                      by_cases c109 : t256 < 0
                      · rw [if_pos c109] at H
                        have c109b0 : decide (t256 < 0) = true:=decide_eq_true c109
                        clear c109
                        obtain rfl:=Option.some.inj H
                        have hnb110:=NB238_210.out
                        have hnc110:=NB210_238.out
                        have hnb111:=NB238_224.out
                        have hnc111:=NB224_238.out
                        have hnb112:=NB238_229.out
                        have hnc112:=NB229_238.out
                        have hcz113_0 : wc.cell? ⟨gb238,0,none⟩ = some (.int .i64 t233):=(qh BK238.out 0).trans rfl
                        have hcz113_1 : wc.cell? ⟨gb238,1,none⟩ = some (.slice Ao46 t234.length co46):=(qh BK238.out 1).trans rfl
                        have hfz113_0:=qi BK238.out 0
                        have hfz113_1:=qi BK238.out 1
                        go_wp2_with (first|((with_reducible refine gate_callee (f:=45) rfl ?_);refine goesL_ (some 83) rfl rfl Try.func45 (by kernel_rfl) rfl #[.agg #[.int .i64 t233,.slice Ao46 t234.length co46],.int .i64 1] rfl (by (try simp only [List.map_toArray,List.map_cons,List.map_nil]);first|done|rfl|(simp only [List.length_drop,List.length_take];rfl)) ?_;(with_reducible refine (laws_markGraph.calls kj73 t233 (fun k_=>some k_ = (.slice Ao46 t234.length co46 : Value).ownBlock) (.slice Ao46 t234.length co46) t234 1 t254 t255 w _ ?side1 ?side2 A107.out).mono ?_);(case side1=>repeat (first|(with_reducible first|exact HB.out|apply qf|apply qa|apply qd|refine qg ?_ GE210.out|refine qg ?_ GE224.out|refine qg ?_ GE229.out|refine qg ?_ GE238.out)|exact HB.out));(case side2=>exact Kd.R_tight rfl HO_239001.out);rintro e w114 ⟨rfl,hy0,hb,hkp⟩;refine ⟨_,rfl,?_⟩;have n0_:=qn.mk (Kd.R_mono (ok':=fun k_=>some k_ ≠ (.slice Ao36 t250.length co36 : Value).ownBlock ∧ some k_ ≠ (.slice Ao46 t234.length co46 : Value).ownBlock) (Kd.R_keptB (HO_225001.out) hkp (fun k_ hk_ hs_=>(hk_.2) hs_)) (fun k_ hk_=>⟨hk_.1.1,hk_.1.2⟩));have n1_:=qn.mk (Kd.R_mono (ok':=fun k_=>some k_ ≠ (.slice Ao29 t220.length co29 : Value).ownBlock ∧ some k_ ≠ (.slice Ao46 t234.length co46 : Value).ownBlock) (Kd.R_keptB (HO_230001.out) hkp (fun k_ hk_ hs_=>(hk_.2) hs_)) (fun k_ hk_=>⟨hk_.1.1,hk_.1.2⟩));have n2_:=qn.mk (Kd.R_reok rfl hy0 (fun k_ e_=>HO_239001.out.1 k_ e_));have n3_:=qn.mk (blk_kept (by (with_reducible repeat (first|refine qb ?_ _|refine qe ?_|refine qc ?_ _));exact BK210.out) hkp (fun hs_=>(fun e_=>(Kd.R_ne HO_239001.out BK210.out (by decide)) e_) hs_));have n4_:=qn.mk (blk_kept (by (with_reducible repeat (first|refine qb ?_ _|refine qe ?_|refine qc ?_ _));exact BK224.out) hkp (fun hs_=>(fun e_=>(Kd.R_ne HO_239001.out BK224.out (by decide)) e_) hs_));have n5_:=qn.mk (blk_kept (by (with_reducible repeat (first|refine qb ?_ _|refine qe ?_|refine qc ?_ _));exact BK229.out) hkp (fun hs_=>(fun e_=>(Kd.R_ne HO_239001.out BK229.out (by decide)) e_) hs_));have n6_:=qn.mk (blk_kept (by (with_reducible repeat (first|refine qb ?_ _|refine qe ?_|refine qc ?_ _));exact BK238.out) hkp (fun hs_=>(fun e_=>(Kd.R_ne HO_239001.out BK238.out (by decide)) e_) hs_));have n7_:=qn.mk (hb);clear HO_225001;clear HO_230001;clear HO_239001;clear BK210;clear BK224;clear BK229;clear BK238;clear HB;have HO_225001:=n0_;have HO_230001:=n1_;have HO_239001:=n2_;have BK210:=n3_;have BK224:=n4_;have BK229:=n5_;have BK238:=n6_;have HB:=n7_;clear n0_ n1_ n2_ n3_ n4_ n5_ n6_ n7_;(try clear hb);(try clear hkp);(try clear hy0);have hcz115_0 : w114.cell? ⟨gb238,0,none⟩ = some (.int .i64 t233):=(qh BK238.out 0).trans rfl;have hcz115_1 : w114.cell? ⟨gb238,1,none⟩ = some (.slice Ao46 t234.length co46):=(qh BK238.out 1).trans rfl;have hfz115_0:=qi BK238.out 0;have hfz115_1:=qi BK238.out 1)|((with_reducible refine gate_callee (f:=47) rfl ?_);refine goesL_ (some 86) rfl rfl Try.func47 (by kernel_rfl) rfl #[.agg #[.int .i64 t233,.slice Ao46 t255.length co46],.int .i64 1] rfl (by (try simp only [List.map_toArray,List.map_cons,List.map_nil]);first|done|(rw [show t255.length = t234.length from (Kd.R_reads' HO_239001.out).1.symm] <;> rfl)|rfl|(simp only [List.length_drop,List.length_take];rfl)) ?_;(with_reducible refine (laws_heldGraph.calls kj73 t233 _ _ t255 1 t256 _ ?side1 ?side2 A108.out).mono ?_);(case side1=>repeat (first|exact (Kd.R_reads' HO_239001.out).2.2|(with_reducible refine Kd.C_alloc ?_ _)|(with_reducible refine Kd.C_drewN ?_ _)|(with_reducible refine Kd.C_drew ?_)));(case side2=>rw [show t255.length = t234.length from (Kd.R_reads' HO_239001.out).1.symm];exact (Kd.R_reads' HO_239001.out).2.1);rintro e w116 ⟨rfl,hb⟩;refine ⟨_,rfl,?_⟩;have n0_:=rb_ HO_225001 hb;have n1_:=rb_ HO_230001 hb;have n2_:=rb_ HO_239001 hb;have n3_:=bb_ BK210 hb;have n4_:=bb_ BK224 hb;have n5_:=bb_ BK229 hb;have n6_:=bb_ BK238 hb;have n7_:=hs_ HB hb;clear HO_225001;clear HO_230001;clear HO_239001;clear BK210;clear BK224;clear BK229;clear BK238;clear HB;have HO_225001:=n0_;have HO_230001:=n1_;have HO_239001:=n2_;have BK210:=n3_;have BK224:=n4_;have BK229:=n5_;have BK238:=n6_;have HB:=n7_;clear n0_ n1_ n2_ n3_ n4_ n5_ n6_ n7_;(try clear hb);(try clear hb2);(try clear hk);(try clear hi)))
                        go_ret
                        exact ⟨by first|rfl|(simp [errW_none,errW_some] <;> rfl)|(simp [*,errW_none,errW_some] <;> rfl),by repeat (first|(with_reducible first|exact HB.out|apply qf|apply qa|apply qd|refine qg ?_ GE210.out|refine qg ?_ GE224.out|refine qg ?_ GE229.out|refine qg ?_ GE238.out)|exact HB.out)⟩
                      · rw [if_neg c109] at H
                        have c109b0 : decide (t256 < 0) = false:=decide_eq_false c109
                        clear c109
                        by_cases c117 : t256 = t254
                        · rw [if_pos c117] at H
                          have c117b0 : (t256 == t254) = true:=beq_iff_eq.mpr c117
                          have c117b1 : (t256 != t254) = false:=bne_eq_false_iff_eq.mpr c117
                          clear c117
                          replace H:=Option.bind_eq_some_iff.mp H
                          obtain ⟨⟨t257,t258⟩,A1180,H⟩:=H
                          replace H : ((laws_toIntS.f kj73 l1).bind fun t261=>((impl_Induced.f kj73 t257 t258 t261).bind fun bt264=>((laws_eqGraph.f kj73 bt264.1 bt264.2.1 t219 t220).bind fun t270=>(if t270 = true then (laws_FnExactInduced.j2 kj73 t254 (bt264.2.2 != t223) t233 t255) else (laws_FnExactInduced.j2 kj73 t254 true t233 t255))))) = some r:=H
                          have A118:=qn.mk A1180
                          clear A1180
                          replace H:=Option.bind_eq_some_iff.mp H
                          obtain ⟨t261,A1190,H⟩:=H
                          replace H : ((impl_Induced.f kj73 t257 t258 t261).bind fun bt264=>((laws_eqGraph.f kj73 bt264.1 bt264.2.1 t219 t220).bind fun t270=>(if t270 = true then (laws_FnExactInduced.j2 kj73 t254 (bt264.2.2 != t223) t233 t255) else (laws_FnExactInduced.j2 kj73 t254 true t233 t255)))) = some r:=H
                          have A119:=qn.mk A1190
                          clear A1190
                          replace H:=Option.bind_eq_some_iff.mp H
                          obtain ⟨⟨t264,t265,t268⟩,A1200,H⟩:=H
                          replace H : ((laws_eqGraph.f kj73 t264 t265 t219 t220).bind fun t270=>(if t270 = true then (laws_FnExactInduced.j2 kj73 t254 (t268 != t223) t233 t255) else (laws_FnExactInduced.j2 kj73 t254 true t233 t255))) = some r:=H
                          have A120:=qn.mk A1200
                          clear A1200
                          have HC121:=qn.mk H
                          clear H
                          have hnb122:=NB238_210.out
                          have hnc122:=NB210_238.out
                          have hnb123:=NB238_224.out
                          have hnc123:=NB224_238.out
                          have hnb124:=NB238_229.out
                          have hnc124:=NB229_238.out
                          have hcz125_0 : wc.cell? ⟨gb238,0,none⟩ = some (.int .i64 t233):=(qh BK238.out 0).trans rfl
                          have hcz125_1 : wc.cell? ⟨gb238,1,none⟩ = some (.slice Ao46 t234.length co46):=(qh BK238.out 1).trans rfl
                          have hfz125_0:=qi BK238.out 0
                          have hfz125_1:=qi BK238.out 1
                          go_upto_region 31 with (first|((with_reducible refine gate_callee (f:=45) rfl ?_);refine goesL_ (some 83) rfl rfl Try.func45 (by kernel_rfl) rfl #[.agg #[.int .i64 t233,.slice Ao46 t234.length co46],.int .i64 1] rfl (by (try simp only [List.map_toArray,List.map_cons,List.map_nil]);first|done|rfl|(simp only [List.length_drop,List.length_take];rfl)) ?_;(with_reducible refine (laws_markGraph.calls kj73 t233 (fun k_=>some k_ = (.slice Ao46 t234.length co46 : Value).ownBlock) (.slice Ao46 t234.length co46) t234 1 t254 t255 w _ ?side1 ?side2 A107.out).mono ?_);(case side1=>repeat (first|(with_reducible first|exact HB.out|apply qf|apply qa|apply qd|refine qg ?_ GE210.out|refine qg ?_ GE224.out|refine qg ?_ GE229.out|refine qg ?_ GE238.out)|exact HB.out));(case side2=>exact Kd.R_tight rfl HO_239001.out);rintro e w126 ⟨rfl,hy0,hb,hkp⟩;refine ⟨_,rfl,?_⟩;have n0_:=qn.mk (Kd.R_mono (ok':=fun k_=>some k_ ≠ (.slice Ao36 t250.length co36 : Value).ownBlock ∧ some k_ ≠ (.slice Ao46 t234.length co46 : Value).ownBlock) (Kd.R_keptB (HO_225001.out) hkp (fun k_ hk_ hs_=>(hk_.2) hs_)) (fun k_ hk_=>⟨hk_.1.1,hk_.1.2⟩));have n1_:=qn.mk (Kd.R_mono (ok':=fun k_=>some k_ ≠ (.slice Ao29 t220.length co29 : Value).ownBlock ∧ some k_ ≠ (.slice Ao46 t234.length co46 : Value).ownBlock) (Kd.R_keptB (HO_230001.out) hkp (fun k_ hk_ hs_=>(hk_.2) hs_)) (fun k_ hk_=>⟨hk_.1.1,hk_.1.2⟩));have n2_:=qn.mk (Kd.R_reok rfl hy0 (fun k_ e_=>HO_239001.out.1 k_ e_));have n3_:=qn.mk (blk_kept (by (with_reducible repeat (first|refine qb ?_ _|refine qe ?_|refine qc ?_ _));exact BK210.out) hkp (fun hs_=>(fun e_=>(Kd.R_ne HO_239001.out BK210.out (by decide)) e_) hs_));have n4_:=qn.mk (blk_kept (by (with_reducible repeat (first|refine qb ?_ _|refine qe ?_|refine qc ?_ _));exact BK224.out) hkp (fun hs_=>(fun e_=>(Kd.R_ne HO_239001.out BK224.out (by decide)) e_) hs_));have n5_:=qn.mk (blk_kept (by (with_reducible repeat (first|refine qb ?_ _|refine qe ?_|refine qc ?_ _));exact BK229.out) hkp (fun hs_=>(fun e_=>(Kd.R_ne HO_239001.out BK229.out (by decide)) e_) hs_));have n6_:=qn.mk (blk_kept (by (with_reducible repeat (first|refine qb ?_ _|refine qe ?_|refine qc ?_ _));exact BK238.out) hkp (fun hs_=>(fun e_=>(Kd.R_ne HO_239001.out BK238.out (by decide)) e_) hs_));have n7_:=qn.mk (hb);clear HO_225001;clear HO_230001;clear HO_239001;clear BK210;clear BK224;clear BK229;clear BK238;clear HB;have HO_225001:=n0_;have HO_230001:=n1_;have HO_239001:=n2_;have BK210:=n3_;have BK224:=n4_;have BK229:=n5_;have BK238:=n6_;have HB:=n7_;clear n0_ n1_ n2_ n3_ n4_ n5_ n6_ n7_;(try clear hb);(try clear hkp);(try clear hy0);have hcz127_0 : w126.cell? ⟨gb238,0,none⟩ = some (.int .i64 t233):=(qh BK238.out 0).trans rfl;have hcz127_1 : w126.cell? ⟨gb238,1,none⟩ = some (.slice Ao46 t234.length co46):=(qh BK238.out 1).trans rfl;have hfz127_0:=qi BK238.out 0;have hfz127_1:=qi BK238.out 1)|((with_reducible refine gate_callee (f:=47) rfl ?_);refine goesL_ (some 86) rfl rfl Try.func47 (by kernel_rfl) rfl #[.agg #[.int .i64 t233,.slice Ao46 t255.length co46],.int .i64 1] rfl (by (try simp only [List.map_toArray,List.map_cons,List.map_nil]);first|done|(rw [show t255.length = t234.length from (Kd.R_reads' HO_239001.out).1.symm] <;> rfl)|rfl|(simp only [List.length_drop,List.length_take];rfl)) ?_;(with_reducible refine (laws_heldGraph.calls kj73 t233 _ _ t255 1 t256 _ ?side1 ?side2 A108.out).mono ?_);(case side1=>repeat (first|exact (Kd.R_reads' HO_239001.out).2.2|(with_reducible refine Kd.C_alloc ?_ _)|(with_reducible refine Kd.C_drewN ?_ _)|(with_reducible refine Kd.C_drew ?_)));(case side2=>rw [show t255.length = t234.length from (Kd.R_reads' HO_239001.out).1.symm];exact (Kd.R_reads' HO_239001.out).2.1);rintro e w128 ⟨rfl,hb⟩;refine ⟨_,rfl,?_⟩;have n0_:=rb_ HO_225001 hb;have n1_:=rb_ HO_230001 hb;have n2_:=rb_ HO_239001 hb;have n3_:=bb_ BK210 hb;have n4_:=bb_ BK224 hb;have n5_:=bb_ BK229 hb;have n6_:=bb_ BK238 hb;have n7_:=hs_ HB hb;clear HO_225001;clear HO_230001;clear HO_239001;clear BK210;clear BK224;clear BK229;clear BK238;clear HB;have HO_225001:=n0_;have HO_230001:=n1_;have HO_239001:=n2_;have BK210:=n3_;have BK224:=n4_;have BK229:=n5_;have BK238:=n6_;have HB:=n7_;clear n0_ n1_ n2_ n3_ n4_ n5_ n6_ n7_;(try clear hb);(try clear hb2);(try clear hk);(try clear hi);have hnb129:=NB210_224.out;have hnc129:=NB224_210.out;have hnb130:=NB210_229.out;have hnc130:=NB229_210.out;have hcz131_0 : w128.cell? ⟨gb210,0,none⟩ = some (.int .i64 a0_0):=(qh BK210.out 0).trans rfl;have hcz131_1 : w128.cell? ⟨gb210,1,none⟩ = some (.slice A0_1 l0_1.length c0_1):=(qh BK210.out 1).trans rfl;have hfz131_0:=qi BK210.out 0;have hfz131_1:=qi BK210.out 1)|((with_reducible refine gate_callee (f:=30) rfl ?_);refine goesL_ (some 94) rfl rfl Try.func30 (by kernel_rfl) rfl #[.agg #[.int .i64 a0_0,.slice A0_1 l0_1.length c0_1]] rfl (by (try simp only [List.map_toArray,List.map_cons,List.map_nil]);first|done|rfl|(simp only [List.length_drop,List.length_take];rfl)) ?_;(with_reducible refine (laws_toGraph.calls kj73 a0_0 _ _ l0_1 t257 t258 _ ?side1 ?side2 A118.out).mono ?_);(case side1=>repeat (first|exact (Kd.C_below HR0_1.out HB.out)|(with_reducible refine Kd.C_alloc ?_ _)|(with_reducible refine Kd.C_drewN ?_ _)|(with_reducible refine Kd.C_drew ?_)));(case side2=>exact HC0_1.out);rintro e w132 ⟨v259,rfl,ho0,hb⟩;refine ⟨_,rfl,?_⟩;have n0_:=qn.mk (Kd.R_elder' (by (with_reducible repeat (first|apply Kd.R_alloc|apply Kd.R_drewN|apply Kd.R_drew));exact HO_225001.out) (Kd.R_base ho0) hb);have n1_:=qn.mk (Kd.R_elder' (by (with_reducible repeat (first|apply Kd.R_alloc|apply Kd.R_drewN|apply Kd.R_drew));exact HO_230001.out) (Kd.R_base ho0) hb);have n2_:=qn.mk (Kd.R_elder' (by (with_reducible repeat (first|apply Kd.R_alloc|apply Kd.R_drewN|apply Kd.R_drew));exact HO_239001.out) (Kd.R_base ho0) hb);have n3_:=qn.mk (Kd.R_lower (Kd.R_new' (Kd.R_new' (Kd.R_new' ho0 (Kd.R_lt (by (with_reducible repeat (first|apply Kd.R_alloc|apply Kd.R_drewN|apply Kd.R_drew));exact HO_225001.out))) (Kd.R_lt (by (with_reducible repeat (first|apply Kd.R_alloc|apply Kd.R_drewN|apply Kd.R_drew));exact HO_230001.out))) (Kd.R_lt (by (with_reducible repeat (first|apply Kd.R_alloc|apply Kd.R_drewN|apply Kd.R_drew));exact HO_239001.out))) (qj (by repeat (first|(with_reducible first|exact HB.out|apply qf|apply qa|apply qd|refine qg ?_ GE210.out|refine qg ?_ GE224.out|refine qg ?_ GE229.out|refine qg ?_ GE238.out)|exact HB.out))));have n4_:=bb_ BK210 hb;have n5_:=bb_ BK224 hb;have n6_:=bb_ BK229 hb;have n7_:=bb_ BK238 hb;have n8_:=hs_ HB hb;clear HO_225001;clear HO_230001;clear HO_239001;clear BK210;clear BK224;clear BK229;clear BK238;clear HB;have HO_225001:=n0_;have HO_230001:=n1_;have HO_239001:=n2_;have HO260:=n3_;have BK210:=n4_;have BK224:=n5_;have BK229:=n6_;have BK238:=n7_;have HB:=n8_;clear n0_ n1_ n2_ n3_ n4_ n5_ n6_ n7_ n8_;(try clear hb);(try clear hb2);(try clear hk);(try clear hi);(try clear ho0))|((with_reducible refine gate_callee (f:=42) rfl ?_);refine goesL_ (some 96) rfl rfl Try.func42 (by kernel_rfl) rfl #[.slice A1 l1.length c1] rfl (by (try simp only [List.map_toArray,List.map_cons,List.map_nil]);first|done|rfl|(simp only [List.length_drop,List.length_take];rfl)) ?_;(with_reducible refine (laws_toIntS.calls kj73 _ _ l1 t261 _ ?side1 ?side2 A119.out).mono ?_);(case side1=>repeat (first|exact (Kd.C_below HR1.out HB.out)|(with_reducible refine Kd.C_alloc ?_ _)|(with_reducible refine Kd.C_drewN ?_ _)|(with_reducible refine Kd.C_drew ?_)));(case side2=>exact HC1.out);rintro e w133 ⟨v262,rfl,ho0,hb⟩;refine ⟨_,rfl,?_⟩;have n0_:=rb_ HO_225001 hb;have n1_:=rb_ HO_230001 hb;have n2_:=rb_ HO_239001 hb;have n3_:=rb_ HO260 hb;have n4_:=qn.mk (Kd.R_lower ho0 (qj (by repeat (first|(with_reducible first|exact HB.out|apply qf|apply qa|apply qd|refine qg ?_ GE210.out|refine qg ?_ GE224.out|refine qg ?_ GE229.out|refine qg ?_ GE238.out)|exact HB.out))));have n5_:=bb_ BK210 hb;have n6_:=bb_ BK224 hb;have n7_:=bb_ BK229 hb;have n8_:=bb_ BK238 hb;have n9_:=hs_ HB hb;clear HO_225001;clear HO_230001;clear HO_239001;clear HO260;clear BK210;clear BK224;clear BK229;clear BK238;clear HB;have HO_225001:=n0_;have HO_230001:=n1_;have HO_239001:=n2_;have HO260:=n3_;have HO263:=n4_;have BK210:=n5_;have BK224:=n6_;have BK229:=n7_;have BK238:=n8_;have HB:=n9_;clear n0_ n1_ n2_ n3_ n4_ n5_ n6_ n7_ n8_ n9_;(try clear hb);(try clear hb2);(try clear hk);(try clear hi);(try clear ho0);obtain ⟨Ao134,co134,eo134⟩:=Kd.R_slice HO260.out;subst eo134;obtain ⟨Ao135,co135,eo135⟩:=Kd.R_slice HO263.out;subst eo135)|((with_reducible refine gate_callee (f:=43) rfl ?_);refine goesL_ (some 97) rfl rfl Try.func43 (by kernel_rfl) rfl #[.agg #[.int .i64 t257,.slice Ao134 t258.length co134],.slice Ao135 t261.length co135] rfl (by (try simp only [List.map_toArray,List.map_cons,List.map_nil]);first|done|rfl|(simp only [List.length_drop,List.length_take];rfl)) ?_;(with_reducible refine (impl_Induced.calls kj73 t257 _ _ t258 _ _ t261 t264 t265 t268 _ ?side1 ?side2 ?side3 ?side4 A120.out).mono ?_);(case side1=>repeat (first|exact (Kd.R_reads' HO260.out).2.2|(with_reducible refine Kd.C_alloc ?_ _)|(with_reducible refine Kd.C_drewN ?_ _)|(with_reducible refine Kd.C_drew ?_)));(case side2=>exact (Kd.R_reads' HO260.out).2.1);(case side3=>repeat (first|exact (Kd.R_reads' HO263.out).2.2|(with_reducible refine Kd.C_alloc ?_ _)|(with_reducible refine Kd.C_drewN ?_ _)|(with_reducible refine Kd.C_drew ?_)));(case side4=>exact (Kd.R_reads' HO263.out).2.1);rintro e w136 ⟨v266,rfl,ho0,hb⟩;refine ⟨_,rfl,?_⟩;have n0_:=qn.mk (Kd.R_elder' (by (with_reducible repeat (first|apply Kd.R_alloc|apply Kd.R_drewN|apply Kd.R_drew));exact HO_225001.out) (Kd.R_base ho0) hb);have n1_:=qn.mk (Kd.R_elder' (by (with_reducible repeat (first|apply Kd.R_alloc|apply Kd.R_drewN|apply Kd.R_drew));exact HO_230001.out) (Kd.R_base ho0) hb);have n2_:=qn.mk (Kd.R_elder' (by (with_reducible repeat (first|apply Kd.R_alloc|apply Kd.R_drewN|apply Kd.R_drew));exact HO_239001.out) (Kd.R_base ho0) hb);have n3_:=qn.mk (Kd.R_elder' (by (with_reducible repeat (first|apply Kd.R_alloc|apply Kd.R_drewN|apply Kd.R_drew));exact HO260.out) (Kd.R_base ho0) hb);have n4_:=rb_ HO263 hb;have n5_:=qn.mk (Kd.R_lower (Kd.R_new' (Kd.R_new' (Kd.R_new' (Kd.R_new' ho0 (Kd.R_lt (by (with_reducible repeat (first|apply Kd.R_alloc|apply Kd.R_drewN|apply Kd.R_drew));exact HO_225001.out))) (Kd.R_lt (by (with_reducible repeat (first|apply Kd.R_alloc|apply Kd.R_drewN|apply Kd.R_drew));exact HO_230001.out))) (Kd.R_lt (by (with_reducible repeat (first|apply Kd.R_alloc|apply Kd.R_drewN|apply Kd.R_drew));exact HO_239001.out))) (Kd.R_lt (by (with_reducible repeat (first|apply Kd.R_alloc|apply Kd.R_drewN|apply Kd.R_drew));exact HO260.out))) (qj (by repeat (first|(with_reducible first|exact HB.out|apply qf|apply qa|apply qd|refine qg ?_ GE210.out|refine qg ?_ GE224.out|refine qg ?_ GE229.out|refine qg ?_ GE238.out)|exact HB.out))));have n6_:=bb_ BK210 hb;have n7_:=bb_ BK224 hb;have n8_:=bb_ BK229 hb;have n9_:=bb_ BK238 hb;have n10_:=hs_ HB hb;clear HO_225001;clear HO_230001;clear HO_239001;clear HO260;clear HO263;clear BK210;clear BK224;clear BK229;clear BK238;clear HB;have HO_225001:=n0_;have HO_230001:=n1_;have HO_239001:=n2_;have HO260:=n3_;have HO263:=n4_;have HO267:=n5_;have BK210:=n6_;have BK224:=n7_;have BK229:=n8_;have BK238:=n9_;have HB:=n10_;clear n0_ n1_ n2_ n3_ n4_ n5_ n6_ n7_ n8_ n9_ n10_;(try clear hb);(try clear hb2);(try clear hk);(try clear hi);(try clear ho0))|((with_reducible refine gate_dst (N:=15) rfl ?_);refine box_event ?hg (N:=15) ?hd (cs:=#[.int .i64 0,.slice none 0 0]) (t:=56) ?hr ?_;(case hd=>rfl);(case hg=>rfl);(case hr=>first|(go_simp;done)|(go_simp;rfl));intro gb269 hg w137 hbox hb;have n0_:=rb_ HO_225001 hb;have n1_:=rb_ HO_230001 hb;have n2_:=rb_ HO_239001 hb;have n3_:=rb_ HO260 hb;have n4_:=rb_ HO263 hb;have n5_:=rb_ HO267 hb;have n6_:=bb_ BK210 hb;have n7_:=bb_ BK224 hb;have n8_:=bb_ BK229 hb;have n9_:=bb_ BK238 hb;have n10_:=hs_ HB hb;have n11_:=qn.mk (hbox);have n12_:=qn.mk ((by rw [hg];exact (qj (by repeat (first|(with_reducible first|exact HB.out|apply qf|apply qa|apply qd|refine qg ?_ GE210.out|refine qg ?_ GE224.out|refine qg ?_ GE229.out|refine qg ?_ GE238.out)|exact HB.out))) : w.heap.size ≤ gb269));have n13_:=qn.mk ((by rw [hg];exact (qj (by repeat (first|(with_reducible first|exact HB.out|apply qf|apply qa|apply qd|refine qg ?_ GE210.out|refine qg ?_ GE224.out|refine qg ?_ GE229.out|refine qg ?_ GE238.out)|exact HB.out))) : w.heap.size ≤ gb269));have n14_:=qn.mk ((by rw [hg];exact nl_ BK210 : gb210 ≠ gb269));have n15_:=qn.mk ((by rw [hg];exact ng_ BK210 : gb269 ≠ gb210));have n16_:=qn.mk ((by rw [hg];exact nl_ BK224 : gb224 ≠ gb269));have n17_:=qn.mk ((by rw [hg];exact ng_ BK224 : gb269 ≠ gb224));have n18_:=qn.mk ((by rw [hg];exact nl_ BK229 : gb229 ≠ gb269));have n19_:=qn.mk ((by rw [hg];exact ng_ BK229 : gb269 ≠ gb229));have n20_:=qn.mk ((by rw [hg];exact nl_ BK238 : gb238 ≠ gb269));have n21_:=qn.mk ((by rw [hg];exact ng_ BK238 : gb269 ≠ gb238));clear HO_225001;clear HO_230001;clear HO_239001;clear HO260;clear HO263;clear HO267;clear BK210;clear BK224;clear BK229;clear BK238;clear HB;have HO_225001:=n0_;have HO_230001:=n1_;have HO_239001:=n2_;have HO260:=n3_;have HO263:=n4_;have HO267:=n5_;have BK210:=n6_;have BK224:=n7_;have BK229:=n8_;have BK238:=n9_;have HB:=n10_;have BK269:=n11_;have GW269:=n12_;have GE269:=n13_;have NB210_269:=n14_;have NB269_210:=n15_;have NB224_269:=n16_;have NB269_224:=n17_;have NB229_269:=n18_;have NB269_229:=n19_;have NB238_269:=n20_;have NB269_238:=n21_;clear n0_ n1_ n2_ n3_ n4_ n5_ n6_ n7_ n8_ n9_ n10_ n11_ n12_ n13_ n14_ n15_ n16_ n17_ n18_ n19_ n20_ n21_;clear hb hbox hg;have hnb138:=NB269_210.out;have hnc138:=NB210_269.out;have hnb139:=NB269_224.out;have hnc139:=NB224_269.out;have hnb140:=NB269_229.out;have hnc140:=NB229_269.out;have hnb141:=NB269_238.out;have hnc141:=NB238_269.out;have hcz142_0 : w137.cell? ⟨gb269,0,none⟩ = some (.int .i64 0):=(qh BK269.out 0).trans rfl;have hcz142_1 : w137.cell? ⟨gb269,1,none⟩ = some (.slice none 0 0):=(qh BK269.out 1).trans rfl;have hfz142_0:=qi BK269.out 0;have hfz142_1:=qi BK269.out 1;obtain ⟨Ao143,co143,eo143⟩:=Kd.R_slice HO267.out;subst eo143))
                          (try simp only [Act.put,List.setIfInBounds_toArray,List.set_cons_zero,List.set_cons_succ])
                          go_cut [108] (fun v108 wc=>∃ (kq : Nat) (x108_120 : Bool),v108 = .bool x108_120 ∧ qn (laws_FnExactInduced.j2 kq t254 x108_120 t233 t255 = some r) ∧ qn (kq ≤ kj73) ∧ qn (Kd.R k148 148 wc w.heap.size (fun k_=>some k_ ≠ ((.slice Ao36 t250.length co36) : Value).ownBlock ∧ some k_ ≠ ((.slice Ao46 t234.length co46) : Value).ownBlock ∧ some k_ ≠ ((.slice Ao143 t265.length co143) : Value).ownBlock) (.slice Ao29 t220.length co29) t220) ∧ qn (Kd.R k148 148 wc w.heap.size (fun k_=>some k_ ≠ ((.slice Ao29 t220.length co29) : Value).ownBlock ∧ some k_ ≠ ((.slice Ao46 t234.length co46) : Value).ownBlock ∧ some k_ ≠ ((.slice Ao143 t265.length co143) : Value).ownBlock) (.slice Ao36 t250.length co36) t250) ∧ qn (Kd.R k148 148 wc w.heap.size (fun k_=>some k_ ≠ ((.slice Ao29 t220.length co29) : Value).ownBlock ∧ some k_ ≠ ((.slice Ao36 t250.length co36) : Value).ownBlock ∧ some k_ ≠ ((.slice Ao143 t265.length co143) : Value).ownBlock) (.slice Ao46 t234.length co46) t255) ∧ qn (Kd.R k148 148 wc w.heap.size (fun k_=>some k_ ≠ ((.slice Ao29 t220.length co29) : Value).ownBlock ∧ some k_ ≠ ((.slice Ao36 t250.length co36) : Value).ownBlock ∧ some k_ ≠ ((.slice Ao46 t234.length co46) : Value).ownBlock) (.slice Ao143 t265.length co143) t265) ∧ qn (wc.heap[gb210]? = some (.cells #[.int .i64 a0_0,(.slice A0_1 l0_1.length c0_1)] 49 (0,0))) ∧ qn (wc.heap[gb224]? = some (.cells #[.int .i64 t219,(.slice Ao29 t220.length co29)] 56 (0,0))) ∧ qn (wc.heap[gb229]? = some (.cells #[.int .i64 t225,(.slice Ao36 t250.length co36)] 56 (0,0))) ∧ qn (wc.heap[gb238]? = some (.cells #[.int .i64 t233,(.slice Ao46 t234.length co46)] 56 (0,0))) ∧ qn (wc.heap[gb269]? = some (.cells #[.int .i64 t264,(.slice Ao143 t265.length co143)] 56 (0,0))) ∧ qn (Below w.heap.size w wc))
                          case first =>
                            have H:=HC121.out
                            clear HC121
                            replace H:=Option.bind_eq_some_iff.mp H
                            obtain ⟨t270,A1440,H⟩:=H
                            replace H : (if t270 = true then (laws_FnExactInduced.j2 kj73 t254 (t268 != t223) t233 t255) else (laws_FnExactInduced.j2 kj73 t254 true t233 t255)) = some r:=H
                            have A144:=qn.mk A1440
                            clear A1440
                            by_cases c145 : t270 = true
                            · subst c145
                              have H1 : (laws_FnExactInduced.j2 kj73 t254 (t268 != t223) t233 t255) = some r:=by rw [if_pos rfl] at H;exact H
                              clear H
                              have H:=H1
                              clear H1
                              have H':=qn.mk H
                              clear H
                              have hnb146:=NB269_210.out
                              have hnc146:=NB210_269.out
                              have hnb147:=NB269_224.out
                              have hnc147:=NB224_269.out
                              have hnb148:=NB269_229.out
                              have hnc148:=NB229_269.out
                              have hnb149:=NB269_238.out
                              have hnc149:=NB238_269.out
                              have hcz150_0 : w137.cell? ⟨gb269,0,none⟩ = some (.int .i64 0):=(qh BK269.out 0).trans rfl
                              have hcz150_1 : w137.cell? ⟨gb269,1,none⟩ = some (.slice none 0 0):=(qh BK269.out 1).trans rfl
                              have hfz150_0:=qi BK269.out 0
                              have hfz150_1:=qi BK269.out 1
                              have hnb151:=NB224_210.out
                              have hnc151:=NB210_224.out
                              have hnb152:=NB224_229.out
                              have hnc152:=NB229_224.out
                              have hnb153:=NB224_238.out
                              have hnc153:=NB238_224.out
                              have hcz154_0 : w137.cell? ⟨gb224,0,none⟩ = some (.int .i64 t219):=(qh BK224.out 0).trans rfl
                              have hcz154_1 : w137.cell? ⟨gb224,1,none⟩ = some (.slice Ao29 t220.length co29):=(qh BK224.out 1).trans rfl
                              have hfz154_0:=qi BK224.out 0
                              have hfz154_1:=qi BK224.out 1
                              go_wp2_with (first|((with_reducible refine gate_callee (f:=33) rfl ?_);refine goesL_ (some 102) rfl rfl Try.func33 (by kernel_rfl) rfl #[.agg #[.int .i64 t264,.slice Ao143 t265.length co143],.agg #[.int .i64 t219,.slice Ao29 t220.length co29]] rfl (by (try simp only [List.map_toArray,List.map_cons,List.map_nil]);first|done|rfl|(simp only [List.length_drop,List.length_take];rfl)) ?_;(with_reducible refine (laws_eqGraph.calls kj73 t264 _ _ t265 t219 _ _ t220 true _ ?side1 ?side2 ?side3 ?side4 A144.out).mono ?_);(case side1=>refine (Kd.R_reads' (e:=148) (base:=w.heap.size) (ok:=fun k_=>((((True ∧ some k_ ≠ (.slice Ao29 t220.length co29 : Value).ownBlock) ∧ some k_ ≠ (.slice Ao36 t250.length co36 : Value).ownBlock) ∧ some k_ ≠ (.slice Ao46 t234.length co46 : Value).ownBlock) ∧ some k_ ≠ (.slice Ao134 t258.length co134 : Value).ownBlock)) (n:=t265.length) (c:=co143) ?_).2.2;exact (by (with_reducible repeat (first|apply Kd.R_alloc|apply Kd.R_drewN|apply Kd.R_drew));exact (Kd.R_mono (Kd.R_far (p:=⟨gb269,1,none⟩) (Kd.R_far (p:=⟨gb269,0,none⟩) (Kd.R_types HO267.out BK269.out (by decide)) (fun _ hk=>hk.2) (.int .i64 t264)) (fun _ hk=>hk.2) (.slice Ao143 t265.length co143)) (fun _ h_=>h_.1))));(case side2=>exact (Kd.R_reads' HO267.out).2.1);(case side3=>refine (Kd.R_reads' (e:=148) (base:=w.heap.size) (ok:=fun k_=>(((some k_ ≠ (.slice Ao36 t250.length co36 : Value).ownBlock ∧ some k_ ≠ (.slice Ao46 t234.length co46 : Value).ownBlock) ∧ some k_ ≠ (.slice Ao134 t258.length co134 : Value).ownBlock) ∧ some k_ ≠ (.slice Ao143 t265.length co143 : Value).ownBlock)) (n:=t220.length) (c:=co29) ?_).2.2;exact (by (with_reducible repeat (first|apply Kd.R_alloc|apply Kd.R_drewN|apply Kd.R_drew));exact (Kd.R_mono (Kd.R_far (p:=⟨gb269,1,none⟩) (Kd.R_far (p:=⟨gb269,0,none⟩) (Kd.R_types HO_225001.out BK269.out (by decide)) (fun _ hk=>hk.2) (.int .i64 t264)) (fun _ hk=>hk.2) (.slice Ao143 t265.length co143)) (fun _ h_=>h_.1))));(case side4=>exact (Kd.R_reads' HO_225001.out).2.1);rintro e w155 ⟨rfl,hb⟩;refine ⟨_,rfl,?_⟩;have n0_:=qn.mk (Kd.R_below (by (with_reducible repeat (first|apply Kd.R_alloc|apply Kd.R_drewN|apply Kd.R_drew));exact (Kd.R_mono (Kd.R_far (p:=⟨gb269,1,none⟩) (Kd.R_far (p:=⟨gb269,0,none⟩) (Kd.R_types HO_225001.out BK269.out (by decide)) (fun _ hk=>hk.2) (.int .i64 t264)) (fun _ hk=>hk.2) (.slice Ao143 t265.length co143)) (fun _ h_=>h_.1))) hb);have n1_:=qn.mk (Kd.R_below (by (with_reducible repeat (first|apply Kd.R_alloc|apply Kd.R_drewN|apply Kd.R_drew));exact (Kd.R_mono (Kd.R_far (p:=⟨gb269,1,none⟩) (Kd.R_far (p:=⟨gb269,0,none⟩) (Kd.R_types HO_230001.out BK269.out (by decide)) (fun _ hk=>hk.2) (.int .i64 t264)) (fun _ hk=>hk.2) (.slice Ao143 t265.length co143)) (fun _ h_=>h_.1))) hb);have n2_:=qn.mk (Kd.R_below (by (with_reducible repeat (first|apply Kd.R_alloc|apply Kd.R_drewN|apply Kd.R_drew));exact (Kd.R_mono (Kd.R_far (p:=⟨gb269,1,none⟩) (Kd.R_far (p:=⟨gb269,0,none⟩) (Kd.R_types HO_239001.out BK269.out (by decide)) (fun _ hk=>hk.2) (.int .i64 t264)) (fun _ hk=>hk.2) (.slice Ao143 t265.length co143)) (fun _ h_=>h_.1))) hb);have n3_:=qn.mk (Kd.R_below (by (with_reducible repeat (first|apply Kd.R_alloc|apply Kd.R_drewN|apply Kd.R_drew));exact (Kd.R_mono (Kd.R_far (p:=⟨gb269,1,none⟩) (Kd.R_far (p:=⟨gb269,0,none⟩) (Kd.R_types HO260.out BK269.out (by decide)) (fun _ hk=>hk.2) (.int .i64 t264)) (fun _ hk=>hk.2) (.slice Ao143 t265.length co143)) (fun _ h_=>h_.1))) hb);have n4_:=qn.mk (Kd.R_below (by (with_reducible repeat (first|apply Kd.R_alloc|apply Kd.R_drewN|apply Kd.R_drew));exact (Kd.R_mono (Kd.R_far (p:=⟨gb269,1,none⟩) (Kd.R_far (p:=⟨gb269,0,none⟩) (Kd.R_types HO263.out BK269.out (by decide)) (fun _ hk=>hk.2) (.int .i64 t264)) (fun _ hk=>hk.2) (.slice Ao143 t265.length co143)) (fun _ h_=>h_.1))) hb);have n5_:=qn.mk (Kd.R_below (by (with_reducible repeat (first|apply Kd.R_alloc|apply Kd.R_drewN|apply Kd.R_drew));exact (Kd.R_mono (Kd.R_far (p:=⟨gb269,1,none⟩) (Kd.R_far (p:=⟨gb269,0,none⟩) (Kd.R_types HO267.out BK269.out (by decide)) (fun _ hk=>hk.2) (.int .i64 t264)) (fun _ hk=>hk.2) (.slice Ao143 t265.length co143)) (fun _ h_=>h_.1))) hb);have n6_:=qn.mk (ql (g:=gb210) (o:=.cells #[.int .i64 a0_0,.slice A0_1 l0_1.length c0_1] 49 (0,0)) (by (with_reducible repeat (first|refine qb ?_ _|refine qe ?_|refine qc ?_ _));refine blk_far ?_ NB210_269.out _;(with_reducible repeat (first|refine qb ?_ _|refine qe ?_|refine qc ?_ _));refine blk_far ?_ NB210_269.out _;(with_reducible repeat (first|refine qb ?_ _|refine qe ?_|refine qc ?_ _));exact BK210.out) hb);have n7_:=qn.mk (ql (g:=gb224) (o:=.cells #[.int .i64 t219,.slice Ao29 t220.length co29] 56 (0,0)) (by (with_reducible repeat (first|refine qb ?_ _|refine qe ?_|refine qc ?_ _));refine blk_far ?_ NB224_269.out _;(with_reducible repeat (first|refine qb ?_ _|refine qe ?_|refine qc ?_ _));refine blk_far ?_ NB224_269.out _;(with_reducible repeat (first|refine qb ?_ _|refine qe ?_|refine qc ?_ _));exact BK224.out) hb);have n8_:=qn.mk (ql (g:=gb229) (o:=.cells #[.int .i64 t225,.slice Ao36 t250.length co36] 56 (0,0)) (by (with_reducible repeat (first|refine qb ?_ _|refine qe ?_|refine qc ?_ _));refine blk_far ?_ NB229_269.out _;(with_reducible repeat (first|refine qb ?_ _|refine qe ?_|refine qc ?_ _));refine blk_far ?_ NB229_269.out _;(with_reducible repeat (first|refine qb ?_ _|refine qe ?_|refine qc ?_ _));exact BK229.out) hb);have n9_:=qn.mk (ql (g:=gb238) (o:=.cells #[.int .i64 t233,.slice Ao46 t234.length co46] 56 (0,0)) (by (with_reducible repeat (first|refine qb ?_ _|refine qe ?_|refine qc ?_ _));refine blk_far ?_ NB238_269.out _;(with_reducible repeat (first|refine qb ?_ _|refine qe ?_|refine qc ?_ _));refine blk_far ?_ NB238_269.out _;(with_reducible repeat (first|refine qb ?_ _|refine qe ?_|refine qc ?_ _));exact BK238.out) hb);have n10_:=qn.mk (ql (g:=gb269) (o:=.cells #[.int .i64 t264,.slice Ao143 t265.length co143] 56 (0,0)) (by (with_reducible repeat (first|refine qb ?_ _|refine qe ?_|refine qc ?_ _));refine blk_put (cs:=#[.int .i64 t264,.slice none 0 0]) ?_ 1 _ rfl;(with_reducible repeat (first|refine qb ?_ _|refine qe ?_|refine qc ?_ _));refine blk_put (cs:=#[.int .i64 0,.slice none 0 0]) ?_ 0 _ rfl;(with_reducible repeat (first|refine qb ?_ _|refine qe ?_|refine qc ?_ _));exact BK269.out) hb);have n11_:=hs_ HB hb;clear HO_225001;clear HO_230001;clear HO_239001;clear HO260;clear HO263;clear HO267;clear BK210;clear BK224;clear BK229;clear BK238;clear BK269;clear HB;have HO_225001:=n0_;have HO_230001:=n1_;have HO_239001:=n2_;have HO260:=n3_;have HO263:=n4_;have HO267:=n5_;have BK210:=n6_;have BK224:=n7_;have BK229:=n8_;have BK238:=n9_;have BK269:=n10_;have HB:=n11_;clear n0_ n1_ n2_ n3_ n4_ n5_ n6_ n7_ n8_ n9_ n10_ n11_;(try clear hb);(try clear hb2);(try clear hk);(try clear hi)))
                              go_meet
                              case rel=>exact ⟨_,((t268 != t223)),(by first|rfl|(simp;done)|(simp [*];done)),H',⟨by have:=HJ15.out;have:=HJ73.out;first|omega|exact Nat.le_refl _⟩,⟨by (try simp only [hl230001_73]);(with_reducible repeat (first|apply Kd.R_alloc|apply Kd.R_drewN|apply Kd.R_drew));exact Kd.R_mono HO_225001.out (fun _ hk=>⟨hk.1.1.1,⟨hk.1.1.2,hk.2⟩⟩)⟩,⟨by (try simp only [hl230001_73]);(with_reducible repeat (first|apply Kd.R_alloc|apply Kd.R_drewN|apply Kd.R_drew));exact Kd.R_mono HO_230001.out (fun _ hk=>⟨hk.1.1.1,⟨hk.1.1.2,hk.2⟩⟩)⟩,⟨by (try simp only [hl230001_73]);(with_reducible repeat (first|apply Kd.R_alloc|apply Kd.R_drewN|apply Kd.R_drew));exact Kd.R_mono HO_239001.out (fun _ hk=>⟨hk.1.1.1,⟨hk.1.1.2,hk.2⟩⟩)⟩,⟨by (try simp only [hl230001_73]);(with_reducible repeat (first|apply Kd.R_alloc|apply Kd.R_drewN|apply Kd.R_drew));exact Kd.R_mono HO267.out (fun _ hk=>⟨hk.1.1.1.2,⟨hk.1.1.2,hk.1.2⟩⟩)⟩,⟨by (try simp only [hl230001_73]);(with_reducible repeat (first|refine qb ?_ _|refine qe ?_|refine qc ?_ _));exact BK210.out⟩,⟨by (try simp only [hl230001_73]);(with_reducible repeat (first|refine qb ?_ _|refine qe ?_|refine qc ?_ _));exact BK224.out⟩,⟨by (try simp only [hl230001_73]);(with_reducible repeat (first|refine qb ?_ _|refine qe ?_|refine qc ?_ _));exact BK229.out⟩,⟨by (try simp only [hl230001_73]);(with_reducible repeat (first|refine qb ?_ _|refine qe ?_|refine qc ?_ _));exact BK238.out⟩,⟨by (try simp only [hl230001_73]);(with_reducible repeat (first|refine qb ?_ _|refine qe ?_|refine qc ?_ _));exact BK269.out⟩,⟨by repeat (first|(with_reducible first|exact HB.out|apply qf|apply qa|apply qd|refine qg ?_ GE210.out|refine qg ?_ GE224.out|refine qg ?_ GE229.out|refine qg ?_ GE238.out|refine qg ?_ GE269.out)|exact HB.out)⟩⟩
                            · replace c145:=Bool.eq_false_iff.mpr c145
                              subst c145
                              have H1 : (laws_FnExactInduced.j2 kj73 t254 true t233 t255) = some r:=by rw [if_neg (show ¬ (false = true) by decide)] at H;exact H
                              clear H
                              have H:=H1
                              clear H1
                              have H':=qn.mk H
                              clear H
                              have hnb156:=NB269_210.out
                              have hnc156:=NB210_269.out
                              have hnb157:=NB269_224.out
                              have hnc157:=NB224_269.out
                              have hnb158:=NB269_229.out
                              have hnc158:=NB229_269.out
                              have hnb159:=NB269_238.out
                              have hnc159:=NB238_269.out
                              have hcz160_0 : w137.cell? ⟨gb269,0,none⟩ = some (.int .i64 0):=(qh BK269.out 0).trans rfl
                              have hcz160_1 : w137.cell? ⟨gb269,1,none⟩ = some (.slice none 0 0):=(qh BK269.out 1).trans rfl
                              have hfz160_0:=qi BK269.out 0
                              have hfz160_1:=qi BK269.out 1
                              have hnb161:=NB224_210.out
                              have hnc161:=NB210_224.out
                              have hnb162:=NB224_229.out
                              have hnc162:=NB229_224.out
                              have hnb163:=NB224_238.out
                              have hnc163:=NB238_224.out
                              have hcz164_0 : w137.cell? ⟨gb224,0,none⟩ = some (.int .i64 t219):=(qh BK224.out 0).trans rfl
                              have hcz164_1 : w137.cell? ⟨gb224,1,none⟩ = some (.slice Ao29 t220.length co29):=(qh BK224.out 1).trans rfl
                              have hfz164_0:=qi BK224.out 0
                              have hfz164_1:=qi BK224.out 1
                              go_wp2_with (first|((with_reducible refine gate_callee (f:=33) rfl ?_);refine goesL_ (some 102) rfl rfl Try.func33 (by kernel_rfl) rfl #[.agg #[.int .i64 t264,.slice Ao143 t265.length co143],.agg #[.int .i64 t219,.slice Ao29 t220.length co29]] rfl (by (try simp only [List.map_toArray,List.map_cons,List.map_nil]);first|done|rfl|(simp only [List.length_drop,List.length_take];rfl)) ?_;(with_reducible refine (laws_eqGraph.calls kj73 t264 _ _ t265 t219 _ _ t220 false _ ?side1 ?side2 ?side3 ?side4 A144.out).mono ?_);(case side1=>refine (Kd.R_reads' (e:=148) (base:=w.heap.size) (ok:=fun k_=>((((True ∧ some k_ ≠ (.slice Ao29 t220.length co29 : Value).ownBlock) ∧ some k_ ≠ (.slice Ao36 t250.length co36 : Value).ownBlock) ∧ some k_ ≠ (.slice Ao46 t234.length co46 : Value).ownBlock) ∧ some k_ ≠ (.slice Ao134 t258.length co134 : Value).ownBlock)) (n:=t265.length) (c:=co143) ?_).2.2;exact (by (with_reducible repeat (first|apply Kd.R_alloc|apply Kd.R_drewN|apply Kd.R_drew));exact (Kd.R_mono (Kd.R_far (p:=⟨gb269,1,none⟩) (Kd.R_far (p:=⟨gb269,0,none⟩) (Kd.R_types HO267.out BK269.out (by decide)) (fun _ hk=>hk.2) (.int .i64 t264)) (fun _ hk=>hk.2) (.slice Ao143 t265.length co143)) (fun _ h_=>h_.1))));(case side2=>exact (Kd.R_reads' HO267.out).2.1);(case side3=>refine (Kd.R_reads' (e:=148) (base:=w.heap.size) (ok:=fun k_=>(((some k_ ≠ (.slice Ao36 t250.length co36 : Value).ownBlock ∧ some k_ ≠ (.slice Ao46 t234.length co46 : Value).ownBlock) ∧ some k_ ≠ (.slice Ao134 t258.length co134 : Value).ownBlock) ∧ some k_ ≠ (.slice Ao143 t265.length co143 : Value).ownBlock)) (n:=t220.length) (c:=co29) ?_).2.2;exact (by (with_reducible repeat (first|apply Kd.R_alloc|apply Kd.R_drewN|apply Kd.R_drew));exact (Kd.R_mono (Kd.R_far (p:=⟨gb269,1,none⟩) (Kd.R_far (p:=⟨gb269,0,none⟩) (Kd.R_types HO_225001.out BK269.out (by decide)) (fun _ hk=>hk.2) (.int .i64 t264)) (fun _ hk=>hk.2) (.slice Ao143 t265.length co143)) (fun _ h_=>h_.1))));(case side4=>exact (Kd.R_reads' HO_225001.out).2.1);rintro e w165 ⟨rfl,hb⟩;refine ⟨_,rfl,?_⟩;have n0_:=qn.mk (Kd.R_below (by (with_reducible repeat (first|apply Kd.R_alloc|apply Kd.R_drewN|apply Kd.R_drew));exact (Kd.R_mono (Kd.R_far (p:=⟨gb269,1,none⟩) (Kd.R_far (p:=⟨gb269,0,none⟩) (Kd.R_types HO_225001.out BK269.out (by decide)) (fun _ hk=>hk.2) (.int .i64 t264)) (fun _ hk=>hk.2) (.slice Ao143 t265.length co143)) (fun _ h_=>h_.1))) hb);have n1_:=qn.mk (Kd.R_below (by (with_reducible repeat (first|apply Kd.R_alloc|apply Kd.R_drewN|apply Kd.R_drew));exact (Kd.R_mono (Kd.R_far (p:=⟨gb269,1,none⟩) (Kd.R_far (p:=⟨gb269,0,none⟩) (Kd.R_types HO_230001.out BK269.out (by decide)) (fun _ hk=>hk.2) (.int .i64 t264)) (fun _ hk=>hk.2) (.slice Ao143 t265.length co143)) (fun _ h_=>h_.1))) hb);have n2_:=qn.mk (Kd.R_below (by (with_reducible repeat (first|apply Kd.R_alloc|apply Kd.R_drewN|apply Kd.R_drew));exact (Kd.R_mono (Kd.R_far (p:=⟨gb269,1,none⟩) (Kd.R_far (p:=⟨gb269,0,none⟩) (Kd.R_types HO_239001.out BK269.out (by decide)) (fun _ hk=>hk.2) (.int .i64 t264)) (fun _ hk=>hk.2) (.slice Ao143 t265.length co143)) (fun _ h_=>h_.1))) hb);have n3_:=qn.mk (Kd.R_below (by (with_reducible repeat (first|apply Kd.R_alloc|apply Kd.R_drewN|apply Kd.R_drew));exact (Kd.R_mono (Kd.R_far (p:=⟨gb269,1,none⟩) (Kd.R_far (p:=⟨gb269,0,none⟩) (Kd.R_types HO260.out BK269.out (by decide)) (fun _ hk=>hk.2) (.int .i64 t264)) (fun _ hk=>hk.2) (.slice Ao143 t265.length co143)) (fun _ h_=>h_.1))) hb);have n4_:=qn.mk (Kd.R_below (by (with_reducible repeat (first|apply Kd.R_alloc|apply Kd.R_drewN|apply Kd.R_drew));exact (Kd.R_mono (Kd.R_far (p:=⟨gb269,1,none⟩) (Kd.R_far (p:=⟨gb269,0,none⟩) (Kd.R_types HO263.out BK269.out (by decide)) (fun _ hk=>hk.2) (.int .i64 t264)) (fun _ hk=>hk.2) (.slice Ao143 t265.length co143)) (fun _ h_=>h_.1))) hb);have n5_:=qn.mk (Kd.R_below (by (with_reducible repeat (first|apply Kd.R_alloc|apply Kd.R_drewN|apply Kd.R_drew));exact (Kd.R_mono (Kd.R_far (p:=⟨gb269,1,none⟩) (Kd.R_far (p:=⟨gb269,0,none⟩) (Kd.R_types HO267.out BK269.out (by decide)) (fun _ hk=>hk.2) (.int .i64 t264)) (fun _ hk=>hk.2) (.slice Ao143 t265.length co143)) (fun _ h_=>h_.1))) hb);have n6_:=qn.mk (ql (g:=gb210) (o:=.cells #[.int .i64 a0_0,.slice A0_1 l0_1.length c0_1] 49 (0,0)) (by (with_reducible repeat (first|refine qb ?_ _|refine qe ?_|refine qc ?_ _));refine blk_far ?_ NB210_269.out _;(with_reducible repeat (first|refine qb ?_ _|refine qe ?_|refine qc ?_ _));refine blk_far ?_ NB210_269.out _;(with_reducible repeat (first|refine qb ?_ _|refine qe ?_|refine qc ?_ _));exact BK210.out) hb);have n7_:=qn.mk (ql (g:=gb224) (o:=.cells #[.int .i64 t219,.slice Ao29 t220.length co29] 56 (0,0)) (by (with_reducible repeat (first|refine qb ?_ _|refine qe ?_|refine qc ?_ _));refine blk_far ?_ NB224_269.out _;(with_reducible repeat (first|refine qb ?_ _|refine qe ?_|refine qc ?_ _));refine blk_far ?_ NB224_269.out _;(with_reducible repeat (first|refine qb ?_ _|refine qe ?_|refine qc ?_ _));exact BK224.out) hb);have n8_:=qn.mk (ql (g:=gb229) (o:=.cells #[.int .i64 t225,.slice Ao36 t250.length co36] 56 (0,0)) (by (with_reducible repeat (first|refine qb ?_ _|refine qe ?_|refine qc ?_ _));refine blk_far ?_ NB229_269.out _;(with_reducible repeat (first|refine qb ?_ _|refine qe ?_|refine qc ?_ _));refine blk_far ?_ NB229_269.out _;(with_reducible repeat (first|refine qb ?_ _|refine qe ?_|refine qc ?_ _));exact BK229.out) hb);have n9_:=qn.mk (ql (g:=gb238) (o:=.cells #[.int .i64 t233,.slice Ao46 t234.length co46] 56 (0,0)) (by (with_reducible repeat (first|refine qb ?_ _|refine qe ?_|refine qc ?_ _));refine blk_far ?_ NB238_269.out _;(with_reducible repeat (first|refine qb ?_ _|refine qe ?_|refine qc ?_ _));refine blk_far ?_ NB238_269.out _;(with_reducible repeat (first|refine qb ?_ _|refine qe ?_|refine qc ?_ _));exact BK238.out) hb);have n10_:=qn.mk (ql (g:=gb269) (o:=.cells #[.int .i64 t264,.slice Ao143 t265.length co143] 56 (0,0)) (by (with_reducible repeat (first|refine qb ?_ _|refine qe ?_|refine qc ?_ _));refine blk_put (cs:=#[.int .i64 t264,.slice none 0 0]) ?_ 1 _ rfl;(with_reducible repeat (first|refine qb ?_ _|refine qe ?_|refine qc ?_ _));refine blk_put (cs:=#[.int .i64 0,.slice none 0 0]) ?_ 0 _ rfl;(with_reducible repeat (first|refine qb ?_ _|refine qe ?_|refine qc ?_ _));exact BK269.out) hb);have n11_:=hs_ HB hb;clear HO_225001;clear HO_230001;clear HO_239001;clear HO260;clear HO263;clear HO267;clear BK210;clear BK224;clear BK229;clear BK238;clear BK269;clear HB;have HO_225001:=n0_;have HO_230001:=n1_;have HO_239001:=n2_;have HO260:=n3_;have HO263:=n4_;have HO267:=n5_;have BK210:=n6_;have BK224:=n7_;have BK229:=n8_;have BK238:=n9_;have BK269:=n10_;have HB:=n11_;clear n0_ n1_ n2_ n3_ n4_ n5_ n6_ n7_ n8_ n9_ n10_ n11_;(try clear hb);(try clear hb2);(try clear hk);(try clear hi)))
                              go_meet
                              case rel=>exact ⟨_,(true),(by first|rfl|(simp;done)|(simp [*];done)),H',⟨by have:=HJ15.out;have:=HJ73.out;first|omega|exact Nat.le_refl _⟩,⟨by (try simp only [hl230001_73]);(with_reducible repeat (first|apply Kd.R_alloc|apply Kd.R_drewN|apply Kd.R_drew));exact Kd.R_mono HO_225001.out (fun _ hk=>⟨hk.1.1.1,⟨hk.1.1.2,hk.2⟩⟩)⟩,⟨by (try simp only [hl230001_73]);(with_reducible repeat (first|apply Kd.R_alloc|apply Kd.R_drewN|apply Kd.R_drew));exact Kd.R_mono HO_230001.out (fun _ hk=>⟨hk.1.1.1,⟨hk.1.1.2,hk.2⟩⟩)⟩,⟨by (try simp only [hl230001_73]);(with_reducible repeat (first|apply Kd.R_alloc|apply Kd.R_drewN|apply Kd.R_drew));exact Kd.R_mono HO_239001.out (fun _ hk=>⟨hk.1.1.1,⟨hk.1.1.2,hk.2⟩⟩)⟩,⟨by (try simp only [hl230001_73]);(with_reducible repeat (first|apply Kd.R_alloc|apply Kd.R_drewN|apply Kd.R_drew));exact Kd.R_mono HO267.out (fun _ hk=>⟨hk.1.1.1.2,⟨hk.1.1.2,hk.1.2⟩⟩)⟩,⟨by (try simp only [hl230001_73]);(with_reducible repeat (first|refine qb ?_ _|refine qe ?_|refine qc ?_ _));exact BK210.out⟩,⟨by (try simp only [hl230001_73]);(with_reducible repeat (first|refine qb ?_ _|refine qe ?_|refine qc ?_ _));exact BK224.out⟩,⟨by (try simp only [hl230001_73]);(with_reducible repeat (first|refine qb ?_ _|refine qe ?_|refine qc ?_ _));exact BK229.out⟩,⟨by (try simp only [hl230001_73]);(with_reducible repeat (first|refine qb ?_ _|refine qe ?_|refine qc ?_ _));exact BK238.out⟩,⟨by (try simp only [hl230001_73]);(with_reducible repeat (first|refine qb ?_ _|refine qe ?_|refine qc ?_ _));exact BK269.out⟩,⟨by repeat (first|(with_reducible first|exact HB.out|apply qf|apply qa|apply qd|refine qg ?_ GE210.out|refine qg ?_ GE224.out|refine qg ?_ GE229.out|refine qg ?_ GE238.out|refine qg ?_ GE269.out)|exact HB.out)⟩⟩
                          case rest =>
                            clear HC121
                            try clear c1
                            try clear c2
                            try clear p2
                            try clear c3
                            try clear c3b0
                            try clear c3b1
                            try clear c4
                            try clear c5
                            try clear c6
                            try clear c6b0
                            try clear c7
                            try clear c8
                            try clear c9
                            try clear c10
                            try clear c11
                            try clear c12
                            try clear c13
                            try clear c14
                            try clear c15
                            try clear c16
                            try clear c27
                            try clear c30
                            try clear c33
                            try clear c34
                            try clear c41
                            try clear c42
                            try clear c43
                            try clear c44
                            try clear c45
                            try clear c46
                            try clear c47
                            try clear c48
                            try clear c49
                            try clear c50
                            try clear c51
                            try clear c53
                            try clear c54
                            try clear c57
                            try clear c58
                            try clear c59
                            try clear c61
                            try clear c62
                            try clear c65
                            try clear c68
                            try clear c71
                            try clear c81
                            try clear c82
                            try clear c83
                            try clear c87
                            try clear c87b0
                            try clear c89
                            try clear c90
                            try clear c91
                            try clear c92
                            try clear c94
                            try clear c95
                            try clear c98
                            try clear c99
                            try clear c100
                            try clear c102
                            try clear c103
                            try clear c106
                            try clear c109
                            try clear c109b0
                            try clear c110
                            try clear c111
                            try clear c112
                            try clear c117
                            try clear c117b0
                            try clear c117b1
                            try clear c122
                            try clear c123
                            try clear c124
                            try clear c129
                            try clear c130
                            try clear c138
                            try clear c139
                            try clear c140
                            try clear c141
                            try clear c145
                            try clear c146
                            try clear c147
                            try clear c148
                            try clear c149
                            try clear c151
                            try clear c152
                            try clear c153
                            try clear c156
                            try clear c157
                            try clear c158
                            try clear c159
                            try clear c161
                            try clear c162
                            try clear c163
                            try clear hcz101_0
                            try clear hcz101_1
                            try clear hcz104_0
                            try clear hcz104_1
                            try clear hcz113_0
                            try clear hcz113_1
                            try clear hcz115_0
                            try clear hcz115_1
                            try clear hcz125_0
                            try clear hcz125_1
                            try clear hcz127_0
                            try clear hcz127_1
                            try clear hcz131_0
                            try clear hcz131_1
                            try clear hcz142_0
                            try clear hcz142_1
                            try clear hcz150_0
                            try clear hcz150_1
                            try clear hcz154_0
                            try clear hcz154_1
                            try clear hcz160_0
                            try clear hcz160_1
                            try clear hcz164_0
                            try clear hcz164_1
                            try clear hcz18_0
                            try clear hcz18_1
                            try clear hcz20_0
                            try clear hcz20_1
                            try clear hcz28_0
                            try clear hcz28_1
                            try clear hcz30_0
                            try clear hcz30_1
                            try clear hcz35_0
                            try clear hcz35_1
                            try clear hcz38_0
                            try clear hcz38_1
                            try clear hcz45_0
                            try clear hcz45_1
                            try clear hcz52_0
                            try clear hcz52_1
                            try clear hcz55_0
                            try clear hcz55_1
                            try clear hcz60_0
                            try clear hcz60_1
                            try clear hcz63_0
                            try clear hcz63_1
                            try clear hcz84_0
                            try clear hcz84_1
                            try clear hcz8_0
                            try clear hcz8_1
                            try clear hcz93_0
                            try clear hcz93_1
                            try clear hcz96_0
                            try clear hcz96_1
                            try clear hfz101_0
                            try clear hfz101_1
                            try clear hfz104_0
                            try clear hfz104_1
                            try clear hfz113_0
                            try clear hfz113_1
                            try clear hfz115_0
                            try clear hfz115_1
                            try clear hfz125_0
                            try clear hfz125_1
                            try clear hfz127_0
                            try clear hfz127_1
                            try clear hfz131_0
                            try clear hfz131_1
                            try clear hfz142_0
                            try clear hfz142_1
                            try clear hfz150_0
                            try clear hfz150_1
                            try clear hfz154_0
                            try clear hfz154_1
                            try clear hfz160_0
                            try clear hfz160_1
                            try clear hfz164_0
                            try clear hfz164_1
                            try clear hfz18_0
                            try clear hfz18_1
                            try clear hfz20_0
                            try clear hfz20_1
                            try clear hfz28_0
                            try clear hfz28_1
                            try clear hfz30_0
                            try clear hfz30_1
                            try clear hfz35_0
                            try clear hfz35_1
                            try clear hfz38_0
                            try clear hfz38_1
                            try clear hfz45_0
                            try clear hfz45_1
                            try clear hfz52_0
                            try clear hfz52_1
                            try clear hfz55_0
                            try clear hfz55_1
                            try clear hfz60_0
                            try clear hfz60_1
                            try clear hfz63_0
                            try clear hfz63_1
                            try clear hfz84_0
                            try clear hfz84_1
                            try clear hfz8_0
                            try clear hfz8_1
                            try clear hfz93_0
                            try clear hfz93_1
                            try clear hfz96_0
                            try clear hfz96_1
                            try clear p2
                            obtain ⟨kq,x108_120,rfl,HA,HJ120,HO_225001,HO_230001,HO_239001,HO_270001,BK210,BK224,BK229,BK238,BK269,HB⟩:=hcut
                            have hl239001_120:=(Kd.R_reads' HO_239001.out).1
                            rw [hl239001_120] at HO_239001
                            (try simp only [hl239001_120])
                            (try simp only [hl239001_120] at BK210)
                            (try simp only [hl239001_120] at BK224)
                            (try simp only [hl239001_120] at BK229)
                            (try simp only [hl239001_120] at BK238)
                            (try simp only [hl239001_120] at BK269)
                            (try simp only [hl239001_120] at HO_225001)
                            (try simp only [hl239001_120] at HO_230001)
                            (try simp only [hl239001_120] at HO_270001)
                            cases kq with
                            | zero=>exact absurd HA.out (by simp [laws_FnExactInduced.j2])
                            | succ kj120 =>
                              have H:=HA.out
                              clear HA
                              simp only [laws_FnExactInduced.j2] at H
                              by_cases c166 : x108_120 = true
                              · subst c166
                                have H1 : (some false) = some r:=by rw [if_pos rfl] at H;exact H
                                clear H
                                have H:=H1
                                clear H1
                                obtain rfl:=Option.some.inj H
                                go_wp2
                                go_ret
                                exact ⟨by first|rfl|(simp [errW_none,errW_some] <;> rfl)|(simp [*,errW_none,errW_some] <;> rfl),by repeat (first|(with_reducible first|exact HB.out|apply qf|apply qa|apply qd|refine qg ?_ GE210.out|refine qg ?_ GE224.out|refine qg ?_ GE229.out|refine qg ?_ GE238.out|refine qg ?_ GE269.out)|exact HB.out)⟩
                              · replace c166:=Bool.eq_false_iff.mpr c166
                                subst c166
                                have H1 : ((laws_heldGraph.f kj120 t233 t255 1).bind fun t271=>(if t271 < 0 then (some false) else (if t271 = t254 then (some true) else (some false)))) = some r:=by rw [if_neg (show ¬ (false = true) by decide)] at H;exact H
                                clear H
                                have H:=H1
                                clear H1
                                replace H:=Option.bind_eq_some_iff.mp H
                                obtain ⟨t271,A1670,H⟩:=H
                                replace H : (if t271 < 0 then (some false) else (if t271 = t254 then (some true) else (some false))) = some r:=H
                                have A167:=qn.mk A1670
                                clear A1670
                                by_cases c168 : t271 < 0
                                · rw [if_pos c168] at H
                                  have c168b0 : decide (t271 < 0) = true:=decide_eq_true c168
                                  clear c168
                                  obtain rfl:=Option.some.inj H
                                  have hnb169:=NB238_210.out
                                  have hnc169:=NB210_238.out
                                  have hnb170:=NB238_224.out
                                  have hnc170:=NB224_238.out
                                  have hnb171:=NB238_229.out
                                  have hnc171:=NB229_238.out
                                  have hnb172:=NB238_269.out
                                  have hnc172:=NB269_238.out
                                  have hcz173_0 : wc.cell? ⟨gb238,0,none⟩ = some (.int .i64 t233):=(qh BK238.out 0).trans rfl
                                  have hcz173_1 : wc.cell? ⟨gb238,1,none⟩ = some (.slice Ao46 t255.length co46):=(qh BK238.out 1).trans rfl
                                  have hfz173_0:=qi BK238.out 0
                                  have hfz173_1:=qi BK238.out 1
                                  go_wp2_with (first|((with_reducible refine gate_callee (f:=47) rfl ?_);refine goesL_ (some 111) rfl rfl Try.func47 (by kernel_rfl) rfl #[.agg #[.int .i64 t233,.slice Ao46 t255.length co46],.int .i64 1] rfl (by (try simp only [List.map_toArray,List.map_cons,List.map_nil]);first|done|rfl|(simp only [List.length_drop,List.length_take];rfl)) ?_;(with_reducible refine (laws_heldGraph.calls kj120 t233 _ _ t255 1 t271 _ ?side1 ?side2 A167.out).mono ?_);(case side1=>repeat (first|exact (Kd.R_reads' HO_239001.out).2.2|(with_reducible refine Kd.C_alloc ?_ _)|(with_reducible refine Kd.C_drewN ?_ _)|(with_reducible refine Kd.C_drew ?_)));(case side2=>exact (Kd.R_reads' HO_239001.out).2.1);rintro e w174 ⟨rfl,hb⟩;refine ⟨_,rfl,?_⟩;have n0_:=rb_ HO_225001 hb;have n1_:=rb_ HO_230001 hb;have n2_:=rb_ HO_239001 hb;have n3_:=rb_ HO_270001 hb;have n4_:=bb_ BK210 hb;have n5_:=bb_ BK224 hb;have n6_:=bb_ BK229 hb;have n7_:=bb_ BK238 hb;have n8_:=bb_ BK269 hb;have n9_:=hs_ HB hb;clear HO_225001;clear HO_230001;clear HO_239001;clear HO_270001;clear BK210;clear BK224;clear BK229;clear BK238;clear BK269;clear HB;have HO_225001:=n0_;have HO_230001:=n1_;have HO_239001:=n2_;have HO_270001:=n3_;have BK210:=n4_;have BK224:=n5_;have BK229:=n6_;have BK238:=n7_;have BK269:=n8_;have HB:=n9_;clear n0_ n1_ n2_ n3_ n4_ n5_ n6_ n7_ n8_ n9_;(try clear hb);(try clear hb2);(try clear hk);(try clear hi)))
                                  go_ret
                                  exact ⟨by first|rfl|(simp [errW_none,errW_some] <;> rfl)|(simp [*,errW_none,errW_some] <;> rfl),by repeat (first|(with_reducible first|exact HB.out|apply qf|apply qa|apply qd|refine qg ?_ GE210.out|refine qg ?_ GE224.out|refine qg ?_ GE229.out|refine qg ?_ GE238.out|refine qg ?_ GE269.out)|exact HB.out)⟩
                                · rw [if_neg c168] at H
                                  have c168b0 : decide (t271 < 0) = false:=decide_eq_false c168
                                  clear c168
                                  by_cases c175 : t271 = t254
                                  · rw [if_pos c175] at H
                                    have c175b0 : (t271 == t254) = true:=beq_iff_eq.mpr c175
                                    have c175b1 : (t271 != t254) = false:=bne_eq_false_iff_eq.mpr c175
                                    clear c175
                                    obtain rfl:=Option.some.inj H
                                    have hnb176:=NB238_210.out
                                    have hnc176:=NB210_238.out
                                    have hnb177:=NB238_224.out
                                    have hnc177:=NB224_238.out
                                    have hnb178:=NB238_229.out
                                    have hnc178:=NB229_238.out
                                    have hnb179:=NB238_269.out
                                    have hnc179:=NB269_238.out
                                    have hcz180_0 : wc.cell? ⟨gb238,0,none⟩ = some (.int .i64 t233):=(qh BK238.out 0).trans rfl
                                    have hcz180_1 : wc.cell? ⟨gb238,1,none⟩ = some (.slice Ao46 t255.length co46):=(qh BK238.out 1).trans rfl
                                    have hfz180_0:=qi BK238.out 0
                                    have hfz180_1:=qi BK238.out 1
                                    go_wp2_with (first|((with_reducible refine gate_callee (f:=47) rfl ?_);refine goesL_ (some 111) rfl rfl Try.func47 (by kernel_rfl) rfl #[.agg #[.int .i64 t233,.slice Ao46 t255.length co46],.int .i64 1] rfl (by (try simp only [List.map_toArray,List.map_cons,List.map_nil]);first|done|rfl|(simp only [List.length_drop,List.length_take];rfl)) ?_;(with_reducible refine (laws_heldGraph.calls kj120 t233 _ _ t255 1 t271 _ ?side1 ?side2 A167.out).mono ?_);(case side1=>repeat (first|exact (Kd.R_reads' HO_239001.out).2.2|(with_reducible refine Kd.C_alloc ?_ _)|(with_reducible refine Kd.C_drewN ?_ _)|(with_reducible refine Kd.C_drew ?_)));(case side2=>exact (Kd.R_reads' HO_239001.out).2.1);rintro e w181 ⟨rfl,hb⟩;refine ⟨_,rfl,?_⟩;have n0_:=rb_ HO_225001 hb;have n1_:=rb_ HO_230001 hb;have n2_:=rb_ HO_239001 hb;have n3_:=rb_ HO_270001 hb;have n4_:=bb_ BK210 hb;have n5_:=bb_ BK224 hb;have n6_:=bb_ BK229 hb;have n7_:=bb_ BK238 hb;have n8_:=bb_ BK269 hb;have n9_:=hs_ HB hb;clear HO_225001;clear HO_230001;clear HO_239001;clear HO_270001;clear BK210;clear BK224;clear BK229;clear BK238;clear BK269;clear HB;have HO_225001:=n0_;have HO_230001:=n1_;have HO_239001:=n2_;have HO_270001:=n3_;have BK210:=n4_;have BK224:=n5_;have BK229:=n6_;have BK238:=n7_;have BK269:=n8_;have HB:=n9_;clear n0_ n1_ n2_ n3_ n4_ n5_ n6_ n7_ n8_ n9_;(try clear hb);(try clear hb2);(try clear hk);(try clear hi)))
                                    go_ret
                                    exact ⟨by first|rfl|(simp [errW_none,errW_some] <;> rfl)|(simp [*,errW_none,errW_some] <;> rfl),by repeat (first|(with_reducible first|exact HB.out|apply qf|apply qa|apply qd|refine qg ?_ GE210.out|refine qg ?_ GE224.out|refine qg ?_ GE229.out|refine qg ?_ GE238.out|refine qg ?_ GE269.out)|exact HB.out)⟩
                                  · rw [if_neg c175] at H
                                    have c175b0 : (t271 == t254) = false:=beq_eq_false_iff_ne.mpr c175
                                    have c175b1 : (t271 != t254) = true:=bne_iff_ne.mpr c175
                                    obtain rfl:=Option.some.inj H
                                    have hnb182:=NB238_210.out
                                    have hnc182:=NB210_238.out
                                    have hnb183:=NB238_224.out
                                    have hnc183:=NB224_238.out
                                    have hnb184:=NB238_229.out
                                    have hnc184:=NB229_238.out
                                    have hnb185:=NB238_269.out
                                    have hnc185:=NB269_238.out
                                    have hcz186_0 : wc.cell? ⟨gb238,0,none⟩ = some (.int .i64 t233):=(qh BK238.out 0).trans rfl
                                    have hcz186_1 : wc.cell? ⟨gb238,1,none⟩ = some (.slice Ao46 t255.length co46):=(qh BK238.out 1).trans rfl
                                    have hfz186_0:=qi BK238.out 0
                                    have hfz186_1:=qi BK238.out 1
                                    go_wp2_with (first|((with_reducible refine gate_callee (f:=47) rfl ?_);refine goesL_ (some 111) rfl rfl Try.func47 (by kernel_rfl) rfl #[.agg #[.int .i64 t233,.slice Ao46 t255.length co46],.int .i64 1] rfl (by (try simp only [List.map_toArray,List.map_cons,List.map_nil]);first|done|rfl|(simp only [List.length_drop,List.length_take];rfl)) ?_;(with_reducible refine (laws_heldGraph.calls kj120 t233 _ _ t255 1 t271 _ ?side1 ?side2 A167.out).mono ?_);(case side1=>repeat (first|exact (Kd.R_reads' HO_239001.out).2.2|(with_reducible refine Kd.C_alloc ?_ _)|(with_reducible refine Kd.C_drewN ?_ _)|(with_reducible refine Kd.C_drew ?_)));(case side2=>exact (Kd.R_reads' HO_239001.out).2.1);rintro e w187 ⟨rfl,hb⟩;refine ⟨_,rfl,?_⟩;have n0_:=rb_ HO_225001 hb;have n1_:=rb_ HO_230001 hb;have n2_:=rb_ HO_239001 hb;have n3_:=rb_ HO_270001 hb;have n4_:=bb_ BK210 hb;have n5_:=bb_ BK224 hb;have n6_:=bb_ BK229 hb;have n7_:=bb_ BK238 hb;have n8_:=bb_ BK269 hb;have n9_:=hs_ HB hb;clear HO_225001;clear HO_230001;clear HO_239001;clear HO_270001;clear BK210;clear BK224;clear BK229;clear BK238;clear BK269;clear HB;have HO_225001:=n0_;have HO_230001:=n1_;have HO_239001:=n2_;have HO_270001:=n3_;have BK210:=n4_;have BK224:=n5_;have BK229:=n6_;have BK238:=n7_;have BK269:=n8_;have HB:=n9_;clear n0_ n1_ n2_ n3_ n4_ n5_ n6_ n7_ n8_ n9_;(try clear hb);(try clear hb2);(try clear hk);(try clear hi)))
                                    go_ret
                                    exact ⟨by first|rfl|(simp [errW_none,errW_some] <;> rfl)|(simp [*,errW_none,errW_some] <;> rfl),by repeat (first|(with_reducible first|exact HB.out|apply qf|apply qa|apply qd|refine qg ?_ GE210.out|refine qg ?_ GE224.out|refine qg ?_ GE229.out|refine qg ?_ GE238.out|refine qg ?_ GE269.out)|exact HB.out)⟩
                        · rw [if_neg c117] at H
                          have c117b0 : (t256 == t254) = false:=beq_eq_false_iff_ne.mpr c117
                          have c117b1 : (t256 != t254) = true:=bne_iff_ne.mpr c117
                          obtain rfl:=Option.some.inj H
                          have hnb188:=NB238_210.out
                          have hnc188:=NB210_238.out
                          have hnb189:=NB238_224.out
                          have hnc189:=NB224_238.out
                          have hnb190:=NB238_229.out
                          have hnc190:=NB229_238.out
                          have hcz191_0 : wc.cell? ⟨gb238,0,none⟩ = some (.int .i64 t233):=(qh BK238.out 0).trans rfl
                          have hcz191_1 : wc.cell? ⟨gb238,1,none⟩ = some (.slice Ao46 t234.length co46):=(qh BK238.out 1).trans rfl
                          have hfz191_0:=qi BK238.out 0
                          have hfz191_1:=qi BK238.out 1
                          go_wp2_with (first|((with_reducible refine gate_callee (f:=45) rfl ?_);refine goesL_ (some 83) rfl rfl Try.func45 (by kernel_rfl) rfl #[.agg #[.int .i64 t233,.slice Ao46 t234.length co46],.int .i64 1] rfl (by (try simp only [List.map_toArray,List.map_cons,List.map_nil]);first|done|rfl|(simp only [List.length_drop,List.length_take];rfl)) ?_;(with_reducible refine (laws_markGraph.calls kj73 t233 (fun k_=>some k_ = (.slice Ao46 t234.length co46 : Value).ownBlock) (.slice Ao46 t234.length co46) t234 1 t254 t255 w _ ?side1 ?side2 A107.out).mono ?_);(case side1=>repeat (first|(with_reducible first|exact HB.out|apply qf|apply qa|apply qd|refine qg ?_ GE210.out|refine qg ?_ GE224.out|refine qg ?_ GE229.out|refine qg ?_ GE238.out)|exact HB.out));(case side2=>exact Kd.R_tight rfl HO_239001.out);rintro e w192 ⟨rfl,hy0,hb,hkp⟩;refine ⟨_,rfl,?_⟩;have n0_:=qn.mk (Kd.R_mono (ok':=fun k_=>some k_ ≠ (.slice Ao36 t250.length co36 : Value).ownBlock ∧ some k_ ≠ (.slice Ao46 t234.length co46 : Value).ownBlock) (Kd.R_keptB (HO_225001.out) hkp (fun k_ hk_ hs_=>(hk_.2) hs_)) (fun k_ hk_=>⟨hk_.1.1,hk_.1.2⟩));have n1_:=qn.mk (Kd.R_mono (ok':=fun k_=>some k_ ≠ (.slice Ao29 t220.length co29 : Value).ownBlock ∧ some k_ ≠ (.slice Ao46 t234.length co46 : Value).ownBlock) (Kd.R_keptB (HO_230001.out) hkp (fun k_ hk_ hs_=>(hk_.2) hs_)) (fun k_ hk_=>⟨hk_.1.1,hk_.1.2⟩));have n2_:=qn.mk (Kd.R_reok rfl hy0 (fun k_ e_=>HO_239001.out.1 k_ e_));have n3_:=qn.mk (blk_kept (by (with_reducible repeat (first|refine qb ?_ _|refine qe ?_|refine qc ?_ _));exact BK210.out) hkp (fun hs_=>(fun e_=>(Kd.R_ne HO_239001.out BK210.out (by decide)) e_) hs_));have n4_:=qn.mk (blk_kept (by (with_reducible repeat (first|refine qb ?_ _|refine qe ?_|refine qc ?_ _));exact BK224.out) hkp (fun hs_=>(fun e_=>(Kd.R_ne HO_239001.out BK224.out (by decide)) e_) hs_));have n5_:=qn.mk (blk_kept (by (with_reducible repeat (first|refine qb ?_ _|refine qe ?_|refine qc ?_ _));exact BK229.out) hkp (fun hs_=>(fun e_=>(Kd.R_ne HO_239001.out BK229.out (by decide)) e_) hs_));have n6_:=qn.mk (blk_kept (by (with_reducible repeat (first|refine qb ?_ _|refine qe ?_|refine qc ?_ _));exact BK238.out) hkp (fun hs_=>(fun e_=>(Kd.R_ne HO_239001.out BK238.out (by decide)) e_) hs_));have n7_:=qn.mk (hb);clear HO_225001;clear HO_230001;clear HO_239001;clear BK210;clear BK224;clear BK229;clear BK238;clear HB;have HO_225001:=n0_;have HO_230001:=n1_;have HO_239001:=n2_;have BK210:=n3_;have BK224:=n4_;have BK229:=n5_;have BK238:=n6_;have HB:=n7_;clear n0_ n1_ n2_ n3_ n4_ n5_ n6_ n7_;(try clear hb);(try clear hkp);(try clear hy0);have hcz193_0 : w192.cell? ⟨gb238,0,none⟩ = some (.int .i64 t233):=(qh BK238.out 0).trans rfl;have hcz193_1 : w192.cell? ⟨gb238,1,none⟩ = some (.slice Ao46 t234.length co46):=(qh BK238.out 1).trans rfl;have hfz193_0:=qi BK238.out 0;have hfz193_1:=qi BK238.out 1)|((with_reducible refine gate_callee (f:=47) rfl ?_);refine goesL_ (some 86) rfl rfl Try.func47 (by kernel_rfl) rfl #[.agg #[.int .i64 t233,.slice Ao46 t255.length co46],.int .i64 1] rfl (by (try simp only [List.map_toArray,List.map_cons,List.map_nil]);first|done|(rw [show t255.length = t234.length from (Kd.R_reads' HO_239001.out).1.symm] <;> rfl)|rfl|(simp only [List.length_drop,List.length_take];rfl)) ?_;(with_reducible refine (laws_heldGraph.calls kj73 t233 _ _ t255 1 t256 _ ?side1 ?side2 A108.out).mono ?_);(case side1=>repeat (first|exact (Kd.R_reads' HO_239001.out).2.2|(with_reducible refine Kd.C_alloc ?_ _)|(with_reducible refine Kd.C_drewN ?_ _)|(with_reducible refine Kd.C_drew ?_)));(case side2=>rw [show t255.length = t234.length from (Kd.R_reads' HO_239001.out).1.symm];exact (Kd.R_reads' HO_239001.out).2.1);rintro e w194 ⟨rfl,hb⟩;refine ⟨_,rfl,?_⟩;have n0_:=rb_ HO_225001 hb;have n1_:=rb_ HO_230001 hb;have n2_:=rb_ HO_239001 hb;have n3_:=bb_ BK210 hb;have n4_:=bb_ BK224 hb;have n5_:=bb_ BK229 hb;have n6_:=bb_ BK238 hb;have n7_:=hs_ HB hb;clear HO_225001;clear HO_230001;clear HO_239001;clear BK210;clear BK224;clear BK229;clear BK238;clear HB;have HO_225001:=n0_;have HO_230001:=n1_;have HO_239001:=n2_;have BK210:=n3_;have BK224:=n4_;have BK229:=n5_;have BK238:=n6_;have HB:=n7_;clear n0_ n1_ n2_ n3_ n4_ n5_ n6_ n7_;(try clear hb);(try clear hb2);(try clear hk);(try clear hi)))
                          go_ret
                          exact ⟨by first|rfl|(simp [errW_none,errW_some] <;> rfl)|(simp [*,errW_none,errW_some] <;> rfl),by repeat (first|(with_reducible first|exact HB.out|apply qf|apply qa|apply qd|refine qg ?_ GE210.out|refine qg ?_ GE224.out|refine qg ?_ GE229.out|refine qg ?_ GE238.out)|exact HB.out)⟩
              · replace c71:=Bool.eq_false_iff.mpr c71
                subst c71
                have H1 : (some false) = some r:=by rw [if_neg (show ¬ (false = true) by decide)] at H;exact H
                clear H
                have H:=H1
                clear H1
                obtain rfl:=Option.some.inj H
                try go_wp2
                have n0_:=qn.mk (Kd.R_drew HO_9.out)
                have n1_:=qn.mk (Kd.R_drew HO_225001.out)
                have n2_:=qn.mk (Kd.R_drew HO_230001.out)
                have n3_:=qn.mk (Kd.R_drew HO_239001.out)
                have n4_:=qn.mk (qe BK210.out)
                have n5_:=qn.mk (qe BK224.out)
                have n6_:=qn.mk (qe BK229.out)
                have n7_:=qn.mk (qe BK238.out)
                have n8_:=qn.mk (qd HB.out)
                clear HO_9
                clear HO_225001
                clear HO_230001
                clear HO_239001
                clear BK210
                clear BK224
                clear BK229
                clear BK238
                clear HB
                have HO_9:=n0_
                have HO_225001:=n1_
                have HO_230001:=n2_
                have HO_239001:=n3_
                have BK210:=n4_
                have BK224:=n5_
                have BK229:=n6_
                have BK238:=n7_
                have HB:=n8_
                clear n0_ n1_ n2_ n3_ n4_ n5_ n6_ n7_ n8_
                refine start_ (n:=5) (S:=fun w'=>w'.cell? ⟨gb229,0,none⟩ = some (.int .i64 t225) ∧ w'.cell? ⟨gb229,1,none⟩ = some (.slice Ao36 t226.length co36) ∧ w'.cell? ⟨gb210,0,none⟩ = some (.int .i64 a0_0) ∧ w'.cell? ⟨gb210,1,none⟩ = some (.slice A0_1 l0_1.length c0_1)) (ds:=[]) #[false,false,false,false,false] (by kernel_rfl) rfl rfl ⟨(qh BK229.out 0).trans rfl,(qh BK229.out 1).trans rfl,(qh BK210.out 0).trans rfl,(qh BK210.out 1).trans rfl⟩ (fun hHeld=>?_)
                generalize wc.drew = w195 at HO_9 HO_225001 HO_230001 HO_239001 BK210 BK224 BK229 BK238 HB hHeld ⊢
                refine take_ (i:=0) (N:=some 52) (v:=?_) (a':=?_) #[true,false,false,false,false] rfl rfl (by kernel_rfl) (fun _ _ _ h=>h) (Or.inl ⟨by rfl,?_⟩) hHeld ?_ ?_
                rotate_left
                · rintro w' ⟨s0,s1,s2,s3⟩
                  go_simp
                  with_reducible rfl
                rotate_left
                · simp only [Act.put,List.setIfInBounds_toArray,List.set_cons_zero,List.set_cons_succ,i64_w,i32_w]
                  rfl
                refine take_ (i:=1) (N:=some 53) (v:=?_) (a':=?_) #[true,true,false,false,false] rfl rfl (by kernel_rfl) (fun _ _ _ h=>h) (Or.inl ⟨by rfl,?_⟩) hHeld ?_ ?_
                rotate_left
                · rintro w' ⟨s0,s1,s2,s3⟩
                  go_simp
                  with_reducible rfl
                rotate_left
                · simp only [Act.put,List.setIfInBounds_toArray,List.set_cons_zero,List.set_cons_succ,i64_w,i32_w]
                  rfl
                refine one_ (i:=2) (N:=some 54) #[true,true,true,false,false] rfl rfl (by kernel_rfl) (by decide) (fun K hK=>?_)
                refine goes_ Try.func30 (by kernel_rfl) rfl #[.agg #[.int .i64 a0_0,.slice A0_1 l0_1.length c0_1]] (by rfl) rfl rfl (by (try simp only [List.map_toArray,List.map_cons,List.map_nil]);first|done|rfl|(simp only [List.length_drop,List.length_take];rfl)) ?_
                with_reducible refine (laws_toGraph.calls kj15 a0_0 _ _ l0_1 t240 t241 _ ?side1 ?side2 A66.out).mono ?_
                (case side1=>repeat (first|exact (Kd.C_below HR0_1.out HB.out)|(with_reducible refine Kd.C_alloc ?_ _)|(with_reducible refine Kd.C_drewN ?_ _)|(with_reducible refine Kd.C_drew ?_)))
                (case side2=>exact HC0_1.out)
                rintro e w196 ⟨v242,rfl,ho0,hb⟩
                refine ⟨_,rfl,?_⟩
                have n0_:=rb_ HO_9 hb
                have n1_:=qn.mk (Kd.R_elder' (by (with_reducible repeat (first|apply Kd.R_alloc|apply Kd.R_drewN|apply Kd.R_drew));exact HO_225001.out) (Kd.R_base ho0) hb)
                have n2_:=qn.mk (Kd.R_elder' (by (with_reducible repeat (first|apply Kd.R_alloc|apply Kd.R_drewN|apply Kd.R_drew));exact HO_230001.out) (Kd.R_base ho0) hb)
                have n3_:=qn.mk (Kd.R_elder' (by (with_reducible repeat (first|apply Kd.R_alloc|apply Kd.R_drewN|apply Kd.R_drew));exact HO_239001.out) (Kd.R_base ho0) hb)
                have n4_:=qn.mk (Kd.R_lower (Kd.R_new' (Kd.R_new' (Kd.R_new' ho0 (Kd.R_lt (by (with_reducible repeat (first|apply Kd.R_alloc|apply Kd.R_drewN|apply Kd.R_drew));exact HO_225001.out))) (Kd.R_lt (by (with_reducible repeat (first|apply Kd.R_alloc|apply Kd.R_drewN|apply Kd.R_drew));exact HO_230001.out))) (Kd.R_lt (by (with_reducible repeat (first|apply Kd.R_alloc|apply Kd.R_drewN|apply Kd.R_drew));exact HO_239001.out))) (qj (by repeat (first|(with_reducible first|exact HB.out|apply qf|apply qa|apply qd|refine qg ?_ GE210.out|refine qg ?_ GE224.out|refine qg ?_ GE229.out|refine qg ?_ GE238.out)|exact HB.out))))
                have n5_:=bb_ BK210 hb
                have n6_:=bb_ BK224 hb
                have n7_:=bb_ BK229 hb
                have n8_:=bb_ BK238 hb
                have n9_:=hs_ HB hb
                clear HO_9
                clear HO_225001
                clear HO_230001
                clear HO_239001
                clear BK210
                clear BK224
                clear BK229
                clear BK238
                clear HB
                have HO_9:=n0_
                have HO_225001:=n1_
                have HO_230001:=n2_
                have HO_239001:=n3_
                have HO243:=n4_
                have BK210:=n5_
                have BK224:=n6_
                have BK229:=n7_
                have BK238:=n8_
                have HB:=n9_
                clear n0_ n1_ n2_ n3_ n4_ n5_ n6_ n7_ n8_ n9_
                (try clear hb)
                (try clear hb2)
                (try clear hk)
                (try clear hi)
                (try clear ho0)
                obtain ⟨Ao197,co197,eo197⟩:=Kd.R_slice HO243.out
                (first|subst eo197|(injection eo197 with f1_ f2_ f3_;have f4_:=f1_.symm;have f5_:=f3_.symm;clear f1_ f2_ f3_;subst f4_;subst f5_))
                refine hK.out _ _ ⟨(qh BK229.out 0).trans rfl,(qh BK229.out 1).trans rfl,(qh BK210.out 0).trans rfl,(qh BK210.out 1).trans rfl⟩ (fun hHeld=>?_)
                clear hK K
                refine norm_ (a':=?_) ?_ ?_
                rotate_left
                · show Act.put _ (some 54) _ = _
                  simp only [Act.put,List.setIfInBounds_toArray,List.set_cons_zero,List.set_cons_succ,i64_w,i32_w]
                  rfl
                refine one_ (i:=3) (N:=some 55) #[true,true,true,true,false] rfl rfl (by kernel_rfl) (by decide) (fun K hK=>?_)
                refine goes_ Try.func33 (by kernel_rfl) rfl #[.agg #[.int .i64 t225,.slice Ao36 t226.length co36],.agg #[.int .i64 t240,.slice Ao197 t241.length co197]] (by rfl) rfl rfl (by (try simp only [List.map_toArray,List.map_cons,List.map_nil]);first|done|rfl|(simp only [List.length_drop,List.length_take];rfl)) ?_
                with_reducible refine (laws_eqGraph.calls kj15 t225 _ _ t226 t240 _ _ t241 true _ ?side1 ?side2 ?side3 ?side4 A67.out).mono ?_
                (case side1=>repeat (first|exact (Kd.R_reads' HO_230001.out).2.2|(with_reducible refine Kd.C_alloc ?_ _)|(with_reducible refine Kd.C_drewN ?_ _)|(with_reducible refine Kd.C_drew ?_)))
                (case side2=>exact (Kd.R_reads' HO_230001.out).2.1)
                (case side3=>repeat (first|exact (Kd.R_reads' HO243.out).2.2|(with_reducible refine Kd.C_alloc ?_ _)|(with_reducible refine Kd.C_drewN ?_ _)|(with_reducible refine Kd.C_drew ?_)))
                (case side4=>exact (Kd.R_reads' HO243.out).2.1)
                rintro e w198 ⟨rfl,hb⟩
                refine ⟨_,rfl,?_⟩
                have n0_:=rb_ HO_9 hb
                have n1_:=rb_ HO_225001 hb
                have n2_:=rb_ HO_230001 hb
                have n3_:=rb_ HO_239001 hb
                have n4_:=rb_ HO243 hb
                have n5_:=bb_ BK210 hb
                have n6_:=bb_ BK224 hb
                have n7_:=bb_ BK229 hb
                have n8_:=bb_ BK238 hb
                have n9_:=hs_ HB hb
                clear HO_9
                clear HO_225001
                clear HO_230001
                clear HO_239001
                clear HO243
                clear BK210
                clear BK224
                clear BK229
                clear BK238
                clear HB
                have HO_9:=n0_
                have HO_225001:=n1_
                have HO_230001:=n2_
                have HO_239001:=n3_
                have HO243:=n4_
                have BK210:=n5_
                have BK224:=n6_
                have BK229:=n7_
                have BK238:=n8_
                have HB:=n9_
                clear n0_ n1_ n2_ n3_ n4_ n5_ n6_ n7_ n8_ n9_
                (try clear hb)
                (try clear hb2)
                (try clear hk)
                (try clear hi)
                refine hK.out _ _ ⟨(qh BK229.out 0).trans rfl,(qh BK229.out 1).trans rfl,(qh BK210.out 0).trans rfl,(qh BK210.out 1).trans rfl⟩ (fun hHeld=>?_)
                clear hK K
                refine norm_ (a':=?_) ?_ ?_
                rotate_left
                · show Act.put _ (some 55) _ = _
                  simp only [Act.put,List.setIfInBounds_toArray,List.set_cons_zero,List.set_cons_succ,i64_w,i32_w]
                  rfl
                refine pure_ (i:=4) (N:=some 56) (v:=?_) (a':=?_) #[true,true,true,true,true] rfl rfl (by kernel_rfl) (fun _ _ _ h=>h) (Or.inl ⟨by rfl,?_⟩) ?_ ?_
                rotate_left
                · intro w'
                  go_simp
                  with_reducible rfl
                rotate_left
                · simp only [Act.put,List.setIfInBounds_toArray,List.set_cons_zero,List.set_cons_succ,i64_w,i32_w]
                  rfl
                refine done_ (by kernel_rfl) ?_
                try go_wp2_with (first|((with_reducible refine gate_callee (f:=42) rfl ?_);refine goesL_ (some 59) rfl rfl Try.func42 (by kernel_rfl) rfl #[.slice A1 l1.length c1] rfl (by (try simp only [List.map_toArray,List.map_cons,List.map_nil]);first|done|rfl|(simp only [List.length_drop,List.length_take];rfl)) ?_;(with_reducible refine (laws_toIntS.calls kj15 _ _ l1 t245 _ ?side1 ?side2 A69.out).mono ?_);(case side1=>repeat (first|exact (Kd.C_below HR1.out HB.out)|(with_reducible refine Kd.C_alloc ?_ _)|(with_reducible refine Kd.C_drewN ?_ _)|(with_reducible refine Kd.C_drew ?_)));(case side2=>exact HC1.out);rintro e w199 ⟨v246,rfl,ho0,hb⟩;refine ⟨_,rfl,?_⟩;have n0_:=qn.mk (Kd.R_elder' (by (with_reducible repeat (first|apply Kd.R_alloc|apply Kd.R_drewN|apply Kd.R_drew));exact HO_9.out) (Kd.R_base ho0) hb);have n1_:=rb_ HO_225001 hb;have n2_:=rb_ HO_230001 hb;have n3_:=rb_ HO_239001 hb;have n4_:=rb_ HO243 hb;have n5_:=qn.mk (Kd.R_lower (Kd.R_new' ho0 (Kd.R_lt (by (with_reducible repeat (first|apply Kd.R_alloc|apply Kd.R_drewN|apply Kd.R_drew));exact HO_9.out))) (qj (by repeat (first|(with_reducible first|exact HB.out|apply qf|apply qa|apply qd|refine qg ?_ GE210.out|refine qg ?_ GE224.out|refine qg ?_ GE229.out|refine qg ?_ GE238.out)|exact HB.out))));have n6_:=bb_ BK210 hb;have n7_:=bb_ BK224 hb;have n8_:=bb_ BK229 hb;have n9_:=bb_ BK238 hb;have n10_:=hs_ HB hb;clear HO_9;clear HO_225001;clear HO_230001;clear HO_239001;clear HO243;clear BK210;clear BK224;clear BK229;clear BK238;clear HB;have HO_9:=n0_;have HO_225001:=n1_;have HO_230001:=n2_;have HO_239001:=n3_;have HO243:=n4_;have HO247:=n5_;have BK210:=n6_;have BK224:=n7_;have BK229:=n8_;have BK238:=n9_;have HB:=n10_;clear n0_ n1_ n2_ n3_ n4_ n5_ n6_ n7_ n8_ n9_ n10_;(try clear hb);(try clear hb2);(try clear hk);(try clear hi);(try clear ho0);obtain ⟨Ao200,co200,eo200⟩:=Kd.R_slice HO247.out;subst eo200)|((with_reducible refine gate_callee (f:=44) rfl ?_);refine goesL_ (some 60) rfl rfl Try.func44 (by kernel_rfl) rfl #[.slice Ao39 t230.length co39,.slice Ao200 t245.length co200] rfl (by (try simp only [List.map_toArray,List.map_cons,List.map_nil]);first|done|rfl|(simp only [List.length_drop,List.length_take];rfl)) ?_;(with_reducible refine (laws_eqIntS.calls kj15 _ _ t230 _ _ t245 false _ ?side1 ?side2 ?side3 ?side4 A70.out).mono ?_);(case side1=>repeat (first|exact (Kd.R_reads' HO_9.out).2.2|(with_reducible refine Kd.C_alloc ?_ _)|(with_reducible refine Kd.C_drewN ?_ _)|(with_reducible refine Kd.C_drew ?_)));(case side2=>exact (Kd.R_reads' HO_9.out).2.1);(case side3=>repeat (first|exact (Kd.R_reads' HO247.out).2.2|(with_reducible refine Kd.C_alloc ?_ _)|(with_reducible refine Kd.C_drewN ?_ _)|(with_reducible refine Kd.C_drew ?_)));(case side4=>exact (Kd.R_reads' HO247.out).2.1);rintro e w' ⟨rfl,⟨nd,rfl⟩⟩;refine ⟨_,rfl,?_⟩))
                go_ret
                exact ⟨by first|rfl|(simp [errW_none,errW_some] <;> rfl)|(simp [*,errW_none,errW_some] <;> rfl),by repeat (first|(with_reducible first|exact HB.out|apply qf|apply qa|apply qd|refine qg ?_ GE210.out|refine qg ?_ GE224.out|refine qg ?_ GE229.out|refine qg ?_ GE238.out)|exact HB.out)⟩
            · replace c68:=Bool.eq_false_iff.mpr c68
              subst c68
              have H1 : (some false) = some r:=by rw [if_neg (show ¬ (false = true) by decide)] at H;exact H
              clear H
              have H:=H1
              clear H1
              obtain rfl:=Option.some.inj H
              try go_wp2
              have n0_:=qn.mk (Kd.R_drew HO_9.out)
              have n1_:=qn.mk (Kd.R_drew HO_225001.out)
              have n2_:=qn.mk (Kd.R_drew HO_230001.out)
              have n3_:=qn.mk (Kd.R_drew HO_239001.out)
              have n4_:=qn.mk (qe BK210.out)
              have n5_:=qn.mk (qe BK224.out)
              have n6_:=qn.mk (qe BK229.out)
              have n7_:=qn.mk (qe BK238.out)
              have n8_:=qn.mk (qd HB.out)
              clear HO_9
              clear HO_225001
              clear HO_230001
              clear HO_239001
              clear BK210
              clear BK224
              clear BK229
              clear BK238
              clear HB
              have HO_9:=n0_
              have HO_225001:=n1_
              have HO_230001:=n2_
              have HO_239001:=n3_
              have BK210:=n4_
              have BK224:=n5_
              have BK229:=n6_
              have BK238:=n7_
              have HB:=n8_
              clear n0_ n1_ n2_ n3_ n4_ n5_ n6_ n7_ n8_
              refine start_ (n:=5) (S:=fun w'=>w'.cell? ⟨gb229,0,none⟩ = some (.int .i64 t225) ∧ w'.cell? ⟨gb229,1,none⟩ = some (.slice Ao36 t226.length co36) ∧ w'.cell? ⟨gb210,0,none⟩ = some (.int .i64 a0_0) ∧ w'.cell? ⟨gb210,1,none⟩ = some (.slice A0_1 l0_1.length c0_1)) (ds:=[]) #[false,false,false,false,false] (by kernel_rfl) rfl rfl ⟨(qh BK229.out 0).trans rfl,(qh BK229.out 1).trans rfl,(qh BK210.out 0).trans rfl,(qh BK210.out 1).trans rfl⟩ (fun hHeld=>?_)
              generalize wc.drew = w201 at HO_9 HO_225001 HO_230001 HO_239001 BK210 BK224 BK229 BK238 HB hHeld ⊢
              refine take_ (i:=0) (N:=some 52) (v:=?_) (a':=?_) #[true,false,false,false,false] rfl rfl (by kernel_rfl) (fun _ _ _ h=>h) (Or.inl ⟨by rfl,?_⟩) hHeld ?_ ?_
              rotate_left
              · rintro w' ⟨s0,s1,s2,s3⟩
                go_simp
                with_reducible rfl
              rotate_left
              · simp only [Act.put,List.setIfInBounds_toArray,List.set_cons_zero,List.set_cons_succ,i64_w,i32_w]
                rfl
              refine take_ (i:=1) (N:=some 53) (v:=?_) (a':=?_) #[true,true,false,false,false] rfl rfl (by kernel_rfl) (fun _ _ _ h=>h) (Or.inl ⟨by rfl,?_⟩) hHeld ?_ ?_
              rotate_left
              · rintro w' ⟨s0,s1,s2,s3⟩
                go_simp
                with_reducible rfl
              rotate_left
              · simp only [Act.put,List.setIfInBounds_toArray,List.set_cons_zero,List.set_cons_succ,i64_w,i32_w]
                rfl
              refine one_ (i:=2) (N:=some 54) #[true,true,true,false,false] rfl rfl (by kernel_rfl) (by decide) (fun K hK=>?_)
              refine goes_ Try.func30 (by kernel_rfl) rfl #[.agg #[.int .i64 a0_0,.slice A0_1 l0_1.length c0_1]] (by rfl) rfl rfl (by (try simp only [List.map_toArray,List.map_cons,List.map_nil]);first|done|rfl|(simp only [List.length_drop,List.length_take];rfl)) ?_
              with_reducible refine (laws_toGraph.calls kj15 a0_0 _ _ l0_1 t240 t241 _ ?side1 ?side2 A66.out).mono ?_
              (case side1=>repeat (first|exact (Kd.C_below HR0_1.out HB.out)|(with_reducible refine Kd.C_alloc ?_ _)|(with_reducible refine Kd.C_drewN ?_ _)|(with_reducible refine Kd.C_drew ?_)))
              (case side2=>exact HC0_1.out)
              rintro e w202 ⟨v242,rfl,ho0,hb⟩
              refine ⟨_,rfl,?_⟩
              have n0_:=rb_ HO_9 hb
              have n1_:=qn.mk (Kd.R_elder' (by (with_reducible repeat (first|apply Kd.R_alloc|apply Kd.R_drewN|apply Kd.R_drew));exact HO_225001.out) (Kd.R_base ho0) hb)
              have n2_:=qn.mk (Kd.R_elder' (by (with_reducible repeat (first|apply Kd.R_alloc|apply Kd.R_drewN|apply Kd.R_drew));exact HO_230001.out) (Kd.R_base ho0) hb)
              have n3_:=qn.mk (Kd.R_elder' (by (with_reducible repeat (first|apply Kd.R_alloc|apply Kd.R_drewN|apply Kd.R_drew));exact HO_239001.out) (Kd.R_base ho0) hb)
              have n4_:=qn.mk (Kd.R_lower (Kd.R_new' (Kd.R_new' (Kd.R_new' ho0 (Kd.R_lt (by (with_reducible repeat (first|apply Kd.R_alloc|apply Kd.R_drewN|apply Kd.R_drew));exact HO_225001.out))) (Kd.R_lt (by (with_reducible repeat (first|apply Kd.R_alloc|apply Kd.R_drewN|apply Kd.R_drew));exact HO_230001.out))) (Kd.R_lt (by (with_reducible repeat (first|apply Kd.R_alloc|apply Kd.R_drewN|apply Kd.R_drew));exact HO_239001.out))) (qj (by repeat (first|(with_reducible first|exact HB.out|apply qf|apply qa|apply qd|refine qg ?_ GE210.out|refine qg ?_ GE224.out|refine qg ?_ GE229.out|refine qg ?_ GE238.out)|exact HB.out))))
              have n5_:=bb_ BK210 hb
              have n6_:=bb_ BK224 hb
              have n7_:=bb_ BK229 hb
              have n8_:=bb_ BK238 hb
              have n9_:=hs_ HB hb
              clear HO_9
              clear HO_225001
              clear HO_230001
              clear HO_239001
              clear BK210
              clear BK224
              clear BK229
              clear BK238
              clear HB
              have HO_9:=n0_
              have HO_225001:=n1_
              have HO_230001:=n2_
              have HO_239001:=n3_
              have HO243:=n4_
              have BK210:=n5_
              have BK224:=n6_
              have BK229:=n7_
              have BK238:=n8_
              have HB:=n9_
              clear n0_ n1_ n2_ n3_ n4_ n5_ n6_ n7_ n8_ n9_
              (try clear hb)
              (try clear hb2)
              (try clear hk)
              (try clear hi)
              (try clear ho0)
              obtain ⟨Ao203,co203,eo203⟩:=Kd.R_slice HO243.out
              (first|subst eo203|(injection eo203 with f1_ f2_ f3_;have f4_:=f1_.symm;have f5_:=f3_.symm;clear f1_ f2_ f3_;subst f4_;subst f5_))
              refine hK.out _ _ ⟨(qh BK229.out 0).trans rfl,(qh BK229.out 1).trans rfl,(qh BK210.out 0).trans rfl,(qh BK210.out 1).trans rfl⟩ (fun hHeld=>?_)
              clear hK K
              refine norm_ (a':=?_) ?_ ?_
              rotate_left
              · show Act.put _ (some 54) _ = _
                simp only [Act.put,List.setIfInBounds_toArray,List.set_cons_zero,List.set_cons_succ,i64_w,i32_w]
                rfl
              refine one_ (i:=3) (N:=some 55) #[true,true,true,true,false] rfl rfl (by kernel_rfl) (by decide) (fun K hK=>?_)
              refine goes_ Try.func33 (by kernel_rfl) rfl #[.agg #[.int .i64 t225,.slice Ao36 t226.length co36],.agg #[.int .i64 t240,.slice Ao203 t241.length co203]] (by rfl) rfl rfl (by (try simp only [List.map_toArray,List.map_cons,List.map_nil]);first|done|rfl|(simp only [List.length_drop,List.length_take];rfl)) ?_
              with_reducible refine (laws_eqGraph.calls kj15 t225 _ _ t226 t240 _ _ t241 false _ ?side1 ?side2 ?side3 ?side4 A67.out).mono ?_
              (case side1=>repeat (first|exact (Kd.R_reads' HO_230001.out).2.2|(with_reducible refine Kd.C_alloc ?_ _)|(with_reducible refine Kd.C_drewN ?_ _)|(with_reducible refine Kd.C_drew ?_)))
              (case side2=>exact (Kd.R_reads' HO_230001.out).2.1)
              (case side3=>repeat (first|exact (Kd.R_reads' HO243.out).2.2|(with_reducible refine Kd.C_alloc ?_ _)|(with_reducible refine Kd.C_drewN ?_ _)|(with_reducible refine Kd.C_drew ?_)))
              (case side4=>exact (Kd.R_reads' HO243.out).2.1)
              rintro e w204 ⟨rfl,hb⟩
              refine ⟨_,rfl,?_⟩
              have n0_:=rb_ HO_9 hb
              have n1_:=rb_ HO_225001 hb
              have n2_:=rb_ HO_230001 hb
              have n3_:=rb_ HO_239001 hb
              have n4_:=rb_ HO243 hb
              have n5_:=bb_ BK210 hb
              have n6_:=bb_ BK224 hb
              have n7_:=bb_ BK229 hb
              have n8_:=bb_ BK238 hb
              have n9_:=hs_ HB hb
              clear HO_9
              clear HO_225001
              clear HO_230001
              clear HO_239001
              clear HO243
              clear BK210
              clear BK224
              clear BK229
              clear BK238
              clear HB
              have HO_9:=n0_
              have HO_225001:=n1_
              have HO_230001:=n2_
              have HO_239001:=n3_
              have HO243:=n4_
              have BK210:=n5_
              have BK224:=n6_
              have BK229:=n7_
              have BK238:=n8_
              have HB:=n9_
              clear n0_ n1_ n2_ n3_ n4_ n5_ n6_ n7_ n8_ n9_
              (try clear hb)
              (try clear hb2)
              (try clear hk)
              (try clear hi)
              refine hK.out _ _ ⟨(qh BK229.out 0).trans rfl,(qh BK229.out 1).trans rfl,(qh BK210.out 0).trans rfl,(qh BK210.out 1).trans rfl⟩ (fun hHeld=>?_)
              clear hK K
              refine norm_ (a':=?_) ?_ ?_
              rotate_left
              · show Act.put _ (some 55) _ = _
                simp only [Act.put,List.setIfInBounds_toArray,List.set_cons_zero,List.set_cons_succ,i64_w,i32_w]
                rfl
              refine pure_ (i:=4) (N:=some 56) (v:=?_) (a':=?_) #[true,true,true,true,true] rfl rfl (by kernel_rfl) (fun _ _ _ h=>h) (Or.inl ⟨by rfl,?_⟩) ?_ ?_
              rotate_left
              · intro w'
                go_simp
                with_reducible rfl
              rotate_left
              · simp only [Act.put,List.setIfInBounds_toArray,List.set_cons_zero,List.set_cons_succ,i64_w,i32_w]
                rfl
              refine done_ (by kernel_rfl) ?_
              try go_wp2
              go_ret
              exact ⟨by first|rfl|(simp [errW_none,errW_some] <;> rfl)|(simp [*,errW_none,errW_some] <;> rfl),by repeat (first|(with_reducible first|exact HB.out|apply qf|apply qa|apply qd|refine qg ?_ GE210.out|refine qg ?_ GE224.out|refine qg ?_ GE229.out|refine qg ?_ GE238.out)|exact HB.out)⟩

end Go.Proofs.Ytbonjmnpcklciaa.QFnExactInduced
