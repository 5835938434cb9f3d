import Derived.Test.YtnffimpoekjkpaaGreatZFnExactSolvex0
set_option linter.all false
namespace Go.Proofs.YtnffimpoekjkpaaGreat.QFnExactSolve
open Go.RowKit Go.Proofs.YtnffimpoekjkpaaGreatW.PrintWords Go.Proofs.YtnffimpoekjkpaaGreatW.PrintLast Go.Proofs.YtnffimpoekjkpaaGreatW.PrintMore
set_option maxHeartbeats 8000000
set_option maxRecDepth 100000
attribute [local go_sem] Od' Pd' Xd' Yd' Jd' Kd' Qd' Rd'
def laws_szEdgeS.f (l0 : List (S84)) (a1 : Int) : Option (Int):=if (wrap64 (a1 - (l0.length : Int))) < 0 then (some (-1)) else (some (wrap64 (a1 - (l0.length : Int))))
theorem laws_szEdgeS.calls (A0 : Option Addr) (c0 : Nat) (l0 : List (S84)) (a1 : Int) (r : Int) (w : World) (hr0 : Kd.C k84 w A0 l0.length l0) (hc0 : l0.length ≤ c0) (h : laws_szEdgeS.f l0 a1 = some r) :
  Calls Tryz.prog 16 #[.slice A0 l0.length c0,.int .i64 a1] w fun e w'=>e = .returned (.int .i64 r) ∧ re' w w':=by
 have HR0:=qz.mk hr0
 have HC0:=qz.mk hc0
 clear hr0 hc0
 have H : (if (wrap64 (a1 - (l0.length : Int))) < 0 then (some (-1)) else (some (wrap64 (a1 - (l0.length : Int))))) = some r:=h
 clear h
 by_cases c3 : (wrap64 (a1 - (l0.length : Int))) < 0
 ·rw [if_pos c3] at H
  have c3b0 : decide ((wrap64 (a1 - (l0.length : Int))) < 0) = true:=decide_eq_true c3
  clear c3
  obtain rfl:=Option.some.inj H
  go_enter Tryz.func16,Tryz.ntmps16
  go_wp2
  go_ret
  exact ⟨wa',ma'⟩
 rw [if_neg c3] at H
 have c3b0 : decide ((wrap64 (a1 - (l0.length : Int))) < 0) = false:=decide_eq_false c3
 clear c3
 obtain rfl:=Option.some.inj H
 go_enter Tryz.func16,Tryz.ntmps16
 go_wp2
 go_ret
 exact ⟨wa',ma'⟩
def laws_szGraph.f (a0_0 : Int) (l0_1 : List (S84)) (a1 : Int) : Option (Int):=(laws_szEdgeS.f l0_1 a1).bind fun t102=>(if t102 < 0 then (some (-1)) else (some t102))
theorem laws_szGraph.calls (a0_0 : Int) (A0_1 : Option Addr) (c0_1 : Nat) (l0_1 : List (S84)) (a1 : Int) (r : Int) (w : World) (hr0_1 : Kd.C k84 w A0_1 l0_1.length l0_1) (hc0_1 : l0_1.length ≤ c0_1) (h : laws_szGraph.f a0_0 l0_1 a1 = some r) :
  Calls Tryz.prog 4 #[.agg #[.int .i64 a0_0,.slice A0_1 l0_1.length c0_1],.int .i64 a1] w fun e w'=>e = .returned (.int .i64 r) ∧ Below w.heap.size w w':=by
 have hu24:=Tryz.underlying24
 have HR0_1:=qz.mk hr0_1
 have HC0_1:=qz.mk hc0_1
 clear hr0_1 hc0_1
 have HB:=qz.mk (Below.refl w.heap.size w)
 have H : ((laws_szEdgeS.f l0_1 a1).bind fun t102=>(if t102 < 0 then (some (-1)) else (some t102))) = some r:=h
 clear h
 replace H:=Option.bind_eq_some_iff.mp H
 obtain ⟨t102,A30,H⟩:=H
 replace H : (if t102 < 0 then (some (-1)) else (some t102)) = some r:=H
 have A3:=qz.mk A30
 clear A30
 by_cases c4 : t102 < 0
 ·rw [if_pos c4] at H
  have c4b0 : decide (t102 < 0) = true:=decide_eq_true c4
  clear c4
  obtain rfl:=Option.some.inj H
  go_enter Tryz.func4,Tryz.ntmps4
  go_wp2_with (first|((with_reducible refine Af' (N:=2) rfl ?_);refine yf' ?hg (N:=2) ?hd (cs:=#[.int .i64 a0_0,.slice A0_1 l0_1.length c0_1]) (t:=24) ?hr ?_;(case hd=>rfl);(case hg=>rfl);(case hr=>first|(go_simp;done)|(go_simp;rfl));intro gb101 hg w5 hbox hb;have BK101:=qz.mk (hbox);have GW101:=qz.mk ((by rw [hg];exact (qv hx_) : w.heap.size ≤ gb101));have GE101:=qz.mk ((by rw [hg];exact (qv hx_) : w.heap.size ≤ gb101));replace HB:=hs_ HB hb;clear hb hbox hg;obtain ⟨hcz6_0,hcz6_1,hfz6_0,hfz6_1⟩:=c2f_ BK101.o)|((with_reducible refine qh' (f:=16) rfl ?_);refine goesL_ (some 8) rfl rfl Tryz.func16 da' rfl #[.slice A0_1 l0_1.length c0_1,.int .i64 a1] rfl sm_ ?_;(with_reducible refine (laws_szEdgeS.calls _ _ l0_1 a1 t102 _ ?side1 ?side2 A3.o).mono ?_);(case side1=>repeat (first|exact (Kd.C_below HR0_1.o HB.o)|(with_reducible refine Kd.C_alloc ?_ _)|(with_reducible refine Kd.C_drewN ?_ _)|(with_reducible refine Kd.C_drew ?_)));(case side2=>exact HC0_1.o);rintro e w' ⟨rfl,⟨nd,rfl⟩⟩;refine ⟨_,rfl,?_⟩))
  go_ret
  exact ⟨rt_,hx_⟩
 rw [if_neg c4] at H
 have c4b0 : decide (t102 < 0) = false:=decide_eq_false c4
 clear c4
 obtain rfl:=Option.some.inj H
 go_enter Tryz.func4,Tryz.ntmps4
 go_wp2_with (first|((with_reducible refine Af' (N:=2) rfl ?_);refine yf' ?hg (N:=2) ?hd (cs:=#[.int .i64 a0_0,.slice A0_1 l0_1.length c0_1]) (t:=24) ?hr ?_;(case hd=>rfl);(case hg=>rfl);(case hr=>first|(go_simp;done)|(go_simp;rfl));intro gb101 hg w7 hbox hb;have BK101:=qz.mk (hbox);have GW101:=qz.mk ((by rw [hg];exact (qv hx_) : w.heap.size ≤ gb101));have GE101:=qz.mk ((by rw [hg];exact (qv hx_) : w.heap.size ≤ gb101));replace HB:=hs_ HB hb;clear hb hbox hg;obtain ⟨hcz8_0,hcz8_1,hfz8_0,hfz8_1⟩:=c2f_ BK101.o)|((with_reducible refine qh' (f:=16) rfl ?_);refine goesL_ (some 8) rfl rfl Tryz.func16 da' rfl #[.slice A0_1 l0_1.length c0_1,.int .i64 a1] rfl sm_ ?_;(with_reducible refine (laws_szEdgeS.calls _ _ l0_1 a1 t102 _ ?side1 ?side2 A3.o).mono ?_);(case side1=>repeat (first|exact (Kd.C_below HR0_1.o HB.o)|(with_reducible refine Kd.C_alloc ?_ _)|(with_reducible refine Kd.C_drewN ?_ _)|(with_reducible refine Kd.C_drew ?_)));(case side2=>exact HC0_1.o);rintro e w' ⟨rfl,⟨nd,rfl⟩⟩;refine ⟨_,rfl,?_⟩))
 go_ret
 exact ⟨rt_,hx_⟩
def spec_Scalar.f (a0_0 : Int) (a0_1 : Int) (a0_2 : Int) (a0_3 : Int) (a0_4 : Int) : Option (Int):=some (wrap64 ((wrap64 ((wrap64 (90000 * a0_2)) + (wrap64 (300 * a0_3)))) + a0_4))
theorem spec_Scalar.calls (a0_0 : Int) (a0_1 : Int) (a0_2 : Int) (a0_3 : Int) (a0_4 : Int) (r : Int) (w : World) (h : spec_Scalar.f a0_0 a0_1 a0_2 a0_3 a0_4 = some r) :
  Calls Tryz.prog 39 #[.agg #[.int .i64 a0_0,.int .i64 a0_1,.int .i64 a0_2,.int .i64 a0_3,.int .i64 a0_4]] w fun e w'=>e = .returned (.int .i64 r) ∧ Below w.heap.size w w':=by
 have hu73:=Tryz.underlying73
 have HB:=qz.mk (Below.refl w.heap.size w)
 have H : (some (wrap64 ((wrap64 ((wrap64 (90000 * a0_2)) + (wrap64 (300 * a0_3)))) + a0_4))) = some r:=h
 clear h
 obtain rfl:=Option.some.inj H
 go_enter Tryz.func39,Tryz.ntmps39
 go_wp2_with (first|((with_reducible refine Af' (N:=1) rfl ?_);refine yf' ?hg (N:=1) ?hd (cs:=#[.int .i64 a0_0,.int .i64 a0_1,.int .i64 a0_2,.int .i64 a0_3,.int .i64 a0_4]) (t:=73) ?hr ?_;(case hd=>rfl);(case hg=>rfl);(case hr=>first|(go_simp;done)|(go_simp;rfl));intro gb114 hg w2 hbox hb;have BK114:=qz.mk (hbox);have GW114:=qz.mk ((by rw [hg];exact (qv hx_) : w.heap.size ≤ gb114));have GE114:=qz.mk ((by rw [hg];exact (qv hx_) : w.heap.size ≤ gb114));replace HB:=hs_ HB hb;clear hb hbox hg;obtain ⟨hcz3_0,hcz3_1,hcz3_2,hcz3_3,hcz3_4,hfz3_0,hfz3_1,hfz3_2,hfz3_3,hfz3_4⟩:=c5f_ BK114.o))
 go_ret
 exact ⟨rt_,hx_⟩
end Go.Proofs.YtnffimpoekjkpaaGreat.QFnExactSolve
