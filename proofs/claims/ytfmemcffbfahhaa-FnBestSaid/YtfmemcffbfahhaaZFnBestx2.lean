/- Lean functions for the Go functions that the law FnBest reaches, and that each Go function comes to just its Lean function's answer; by a program of this session. -/
import Derived.Test.YtfmemcffbfahhaaZFnBestx0
namespace Go.Proofs.Ytfmemcffbfahhaa.QFnBest
open Go.RowKit Go.Proofs.YtfmemcffbfahhaaW.PrintWords Go.Proofs.YtfmemcffbfahhaaW.PrintLast Go.Proofs.YtfmemcffbfahhaaW.PrintMore
attribute [local go_sem] max2_int min2_int max_two min_two max_three min_three max_four min_four   -- for this text's walks alone
set_option linter.unusedVariables false
set_option linter.unusedSimpArgs false

/-! ### laws_big: function 12 -/
def laws_big.f (l0 : List Int) : Option (Bool):=some (decide ((l0.length : Int) > 1048576))
set_option maxHeartbeats 8000000 in
set_option maxRecDepth 100000 in
theorem laws_big.calls (A0 : Option Addr) (c0 : Nat) (l0 : List Int) (r : Bool) (w : World) (hr0 : Kd.C (Kd.int .u8) w A0 l0.length l0) (hc0 : l0.length ≤ c0) (h : laws_big.f l0 = some r) :
  Calls Try.prog 12 #[.slice A0 l0.length c0] w fun e w'=>e = .returned (.bool r) ∧ Drawn0 w w':=by
 have HR0:=qn.mk hr0
 have HC0:=qn.mk hc0
 clear hr0 hc0
 have H : (some (decide ((l0.length : Int) > 1048576))) = some r:=h
 clear h
 obtain rfl:=Option.some.inj H
 go_enter Try.func12,Try.ntmps12
 go_wp2
 go_ret
 exact ⟨by first|rfl|(simp;done)|(simp [*];done),by repeat (first|exact Drawn0.refl _|apply Drawn0.step)⟩

/-! ### spec_l01In: function 98 -/
def spec_l01In.f (a0 : Int) (a1 : Int) (a2 : Int) : Option (Bool):=if a0 ≥ a1 then (some (decide (a0 ≤ a2))) else (some false)
set_option maxHeartbeats 8000000 in
set_option maxRecDepth 100000 in
theorem spec_l01In.calls (a0 : Int) (a1 : Int) (a2 : Int) (r : Bool) (w : World) (h : spec_l01In.f a0 a1 a2 = some r) :
  Calls Try.prog 98 #[.int .i64 a0,.int .i64 a1,.int .i64 a2] w fun e w'=>e = .returned (.bool r) ∧ Drawn0 w w':=by
 have H : (if a0 ≥ a1 then (some (decide (a0 ≤ a2))) else (some false)) = some r:=h
 clear h
 by_cases c4 : a0 ≥ a1
 ·rw [if_pos c4] at H
  have c4b0 : decide (a1 ≤ a0) = true:=decide_eq_true c4
  clear c4
  obtain rfl:=Option.some.inj H
  go_enter Try.func98,Try.ntmps98
  go_wp2
  go_ret
  exact ⟨by first|rfl|(simp;done)|(simp [*];done),by repeat (first|exact Drawn0.refl _|apply Drawn0.step)⟩
 ·rw [if_neg c4] at H
  have c4b0 : decide (a1 ≤ a0) = false:=decide_eq_false c4
  clear c4
  obtain rfl:=Option.some.inj H
  go_enter Try.func98,Try.ntmps98
  go_wp2
  go_ret
  exact ⟨by first|rfl|(simp;done)|(simp [*];done),by repeat (first|exact Drawn0.refl _|apply Drawn0.step)⟩

/-! ### spec_l08Worth: function 113 -/
def spec_l08Worth.f (a0 : Int) : Option (Bool):=(spec_l01In.f a0 0 50).bind fun t101=>(some t101)
set_option maxHeartbeats 8000000 in
set_option maxRecDepth 100000 in
theorem spec_l08Worth.calls (a0 : Int) (r : Bool) (w : World) (h : spec_l08Worth.f a0 = some r) :
  Calls Try.prog 113 #[.int .i64 a0] w fun e w'=>e = .returned (.bool r) ∧ Drawn0 w w':=by
 have H : ((spec_l01In.f a0 0 50).bind fun t101=>(some t101)) = some r:=h
 clear h
 replace H:=Option.bind_eq_some_iff.mp H
 obtain ⟨t101,A20,H⟩:=H
 replace H : (some t101) = some r:=H
 have A2:=qn.mk A20
 clear A20
 obtain rfl:=Option.some.inj H
 go_enter Try.func113,Try.ntmps113
 go_wp2_with (first|((with_reducible refine gate_callee (f:=98) rfl ?_);refine goesL_ (some 4) rfl rfl Try.func98 (by kernel_rfl) rfl #[.int .i64 a0,.int .i64 0,.int .i64 50] rfl (by (try simp only [List.map_toArray,List.map_cons,List.map_nil]);first|done|rfl|(simp only [List.length_drop,List.length_take];rfl)) ?_;(with_reducible refine (spec_l01In.calls a0 0 50 t101 _ A2.out).mono ?_);rintro e w' ⟨rfl,⟨nd,rfl⟩⟩;refine ⟨_,rfl,?_⟩))
 go_ret
 exact ⟨by first|rfl|(simp;done)|(simp [*];done),by repeat (first|exact Drawn0.refl _|apply Drawn0.step)⟩

/-! ### spec_GraphOk: function 82 -/
mutual
def spec_GraphOk.l0 : Nat → Int → Int → List (S36) → Option (Bool)
 | 0,_,_,_=>none
 | k + 1,x3,x103000,x103001=>if x3 < (x103001.length : Int) then (if 0 ≤ x3 then (if ((rd_T36 x103001 x3).f0) < 0 then (none) else (if ((rd_T36 x103001 x3).f0) ≥ ((rd_T36 x103001 x3).f1) then (none) else (if ((rd_T36 x103001 x3).f1) ≥ x103000 then (none) else ((spec_l08Worth.f ((rd_T36 x103001 x3).f2)).bind fun t106=>(if t106 = true then ((spec_l08Worth.f ((rd_T36 x103001 x3).f3)).bind fun t107=>(if t107 = true then ((spec_l08Worth.f ((rd_T36 x103001 x3).f4)).bind fun t108=>(spec_GraphOk.j1 k x3 (!t108) x103000 x103001 ((rd_T36 x103001 x3).f0) ((rd_T36 x103001 x3).f1) ((rd_T36 x103001 x3).f2) ((rd_T36 x103001 x3).f3) ((rd_T36 x103001 x3).f4))) else (none))) else (none)))))) else (none)) else (some true)
def spec_GraphOk.j1 : Nat → Int → Bool → Int → List (S36) → Int → Int → Int → Int → Int → Option (Bool)
 | 0,_,_,_,_,_,_,_,_,_=>none
 | k + 1,x3,x55,x103000,x103001,x106000,x106001,x106002,x106003,x106004=>if x55 = true then (none) else (if x3 > 0 then (if 0 ≤ (wrap64 (x3 - 1)) then (if (wrap64 (x3 - 1)) < (x103001.length : Int) then (if ((rd_T36 x103001 (wrap64 (x3 - 1))).f0) > x106000 then (none) else (if ((rd_T36 x103001 (wrap64 (x3 - 1))).f0) = x106000 then (if ((rd_T36 x103001 (wrap64 (x3 - 1))).f1) ≥ x106001 then (none) else (spec_GraphOk.l0 k (wrap64 (x3 + 1)) x103000 x103001)) else (spec_GraphOk.l0 k (wrap64 (x3 + 1)) x103000 x103001))) else (none)) else (none)) else (spec_GraphOk.l0 k (wrap64 (x3 + 1)) x103000 x103001))
end
def spec_GraphOk.f (k : Nat) (a0_0 : Int) (l0_1 : List (S36)) : Option (Bool):=(spec_l01In.f a0_0 0 9).bind fun t103=>(if t103 = true then (spec_GraphOk.l0 k 0 a0_0 l0_1) else (none))
theorem spec_GraphOk.mono_l : ∀ k,(∀ y0 y1 y2,LeO (spec_GraphOk.l0 k y0 y1 y2) (spec_GraphOk.l0 (k + 1) y0 y1 y2)) ∧ (∀ y0 y1 y2 y3 y4 y5 y6 y7 y8,LeO (spec_GraphOk.j1 k y0 y1 y2 y3 y4 y5 y6 y7 y8) (spec_GraphOk.j1 (k + 1) y0 y1 y2 y3 y4 y5 y6 y7 y8))
 | 0=>⟨fun _ _ _ r h=>by simp [spec_GraphOk.l0] at h,fun _ _ _ _ _ _ _ _ _ r h=>by simp [spec_GraphOk.j1] at h⟩
 | k + 1=>by
  obtain ⟨ih0,ih1⟩:=spec_GraphOk.mono_l k
  refine ⟨?_,?_⟩
  ·intro y0 y1 y2
   unfold spec_GraphOk.l0
   repeat' first
   | (with_reducible exact ih0 _ _ _)
   | (with_reducible exact ih1 _ _ _ _ _ _ _ _ _)
   | (with_reducible exact LeO.refl _)
   | (with_reducible exact LeO.none _)
   | (with_reducible refine LeO.ite ?_ ?_)
   | (with_reducible refine LeO.bind ?_ (fun _=>?_))
   | exact ih0 _ _ _
   | exact ih1 _ _ _ _ _ _ _ _ _
   | exact LeO.none _
   | refine LeO.ite ?_ ?_
   | refine LeO.bind ?_ (fun _=>?_)
  ·intro y0 y1 y2 y3 y4 y5 y6 y7 y8
   unfold spec_GraphOk.j1
   repeat' first
   | (with_reducible exact ih0 _ _ _)
   | (with_reducible exact ih1 _ _ _ _ _ _ _ _ _)
   | (with_reducible exact LeO.refl _)
   | (with_reducible exact LeO.none _)
   | (with_reducible refine LeO.ite ?_ ?_)
   | (with_reducible refine LeO.bind ?_ (fun _=>?_))
   | exact ih0 _ _ _
   | exact ih1 _ _ _ _ _ _ _ _ _
   | exact LeO.none _
   | refine LeO.ite ?_ ?_
   | refine LeO.bind ?_ (fun _=>?_)
theorem spec_GraphOk.mono : ∀ a0 a1 k,LeO (spec_GraphOk.f k a0 a1) (spec_GraphOk.f (k + 1) a0 a1):=by
 intro a0 a1 k
 obtain ⟨ih0,ih1⟩:=spec_GraphOk.mono_l k
 unfold spec_GraphOk.f
 repeat' first
   | (with_reducible exact ih0 _ _ _)
   | (with_reducible exact ih1 _ _ _ _ _ _ _ _ _)
   | (with_reducible exact LeO.refl _)
   | (with_reducible exact LeO.none _)
   | (with_reducible refine LeO.ite ?_ ?_)
   | (with_reducible refine LeO.bind ?_ (fun _=>?_))
   | exact ih0 _ _ _
   | exact ih1 _ _ _ _ _ _ _ _ _
   | exact LeO.none _
   | refine LeO.ite ?_ ?_
   | refine LeO.bind ?_ (fun _=>?_)
set_option maxHeartbeats 8000000 in
set_option maxRecDepth 100000 in
theorem spec_GraphOk.calls (k : Nat) (a0_0 : Int) (A0_1 : Option Addr) (c0_1 : Nat) (l0_1 : List (S36)) (r : Bool) (w : World) (hr0_1 : Kd.C k36 w A0_1 l0_1.length l0_1) (hc0_1 : l0_1.length ≤ c0_1) (h : spec_GraphOk.f k a0_0 l0_1 = some r) :
  Calls Try.prog 82 #[.agg #[.int .i64 a0_0,.slice A0_1 l0_1.length c0_1]] w fun e w'=>e = .returned (.bool r) ∧ Below w.heap.size w w':=by
 have hu26:=Try.underlying26
 have hu36:=Try.underlying36
 have HR0_1:=qn.mk hr0_1
 have HC0_1:=qn.mk hc0_1
 clear hr0_1 hc0_1
 have HB:=qn.mk (Below.refl w.heap.size w)
 have H : ((spec_l01In.f a0_0 0 9).bind fun t103=>(if t103 = true then (spec_GraphOk.l0 k 0 a0_0 l0_1) else (none))) = some r:=h
 clear h
 replace H:=Option.bind_eq_some_iff.mp H
 obtain ⟨t103,A20,H⟩:=H
 replace H : (if t103 = true then (spec_GraphOk.l0 k 0 a0_0 l0_1) else (none)) = some r:=H
 have A2:=qn.mk A20
 clear A20
 by_cases c3 : t103 = true
 ·subst c3
  have H1 : (spec_GraphOk.l0 k 0 a0_0 l0_1) = some r:=by rw [if_pos rfl] at H;exact H
  clear H
  have H:=H1
  clear H1
  have H':=qn.mk H
  clear H
  go_enter Try.func82,Try.ntmps82
  go_wp2_with (first|((with_reducible refine gate_dst (N:=1) rfl ?_);refine box_event ?hg (N:=1) ?hd (cs:=#[.int .i64 a0_0,.slice A0_1 l0_1.length c0_1]) (t:=26) ?hr ?_;(case hd=>rfl);(case hg=>rfl);(case hr=>first|(go_simp;done)|(go_simp;rfl));intro gb102 hg w4 hbox hb;have n0_:=hs_ HB hb;have n1_:=qn.mk (hbox);have n2_:=qn.mk ((by rw [hg];exact (qj (by repeat (first|(with_reducible first|exact HB.out|apply qf|apply qa|apply qd)|exact HB.out))) : w.heap.size ≤ gb102));have n3_:=qn.mk ((by rw [hg];exact (qj (by repeat (first|(with_reducible first|exact HB.out|apply qf|apply qa|apply qd)|exact HB.out))) : w.heap.size ≤ gb102));clear HB;have HB:=n0_;have BK102:=n1_;have GW102:=n2_;have GE102:=n3_;clear n0_ n1_ n2_ n3_;clear hb hbox hg;have hcz5_0 : w4.cell? ⟨gb102,0,none⟩ = some (.int .i64 a0_0):=(qh BK102.out 0).trans rfl;have hcz5_1 : w4.cell? ⟨gb102,1,none⟩ = some (.slice A0_1 l0_1.length c0_1):=(qh BK102.out 1).trans rfl;have hfz5_0:=qi BK102.out 0;have hfz5_1:=qi BK102.out 1)|(go_at_call 98;(with_reducible refine (spec_l01In.calls a0_0 0 9 true _ A2.out).mono ?_);rintro e w' ⟨rfl,⟨nd,rfl⟩⟩;(try first|exact ⟨rfl,_,World.drewN_drewN _ _ _⟩|exact ⟨rfl,_,Eq.trans (World.drewN_drewN _ _ _) (congrArg (World.drewN _) (Nat.add_assoc _ _ _))⟩)))
  repeat (go_quiet (first|((with_reducible refine gate_dst (N:=1) rfl ?_);refine box_event ?hg (N:=1) ?hd (cs:=#[.int .i64 a0_0,.slice A0_1 l0_1.length c0_1]) (t:=26) ?hr ?_;(case hd=>rfl);(case hg=>rfl);(case hr=>first|(go_simp;done)|(go_simp;rfl));intro gb102 hg w4 hbox hb;have n0_:=hs_ HB hb;have n1_:=qn.mk (hbox);have n2_:=qn.mk ((by rw [hg];exact (qj (by repeat (first|(with_reducible first|exact HB.out|apply qf|apply qa|apply qd)|exact HB.out))) : w.heap.size ≤ gb102));have n3_:=qn.mk ((by rw [hg];exact (qj (by repeat (first|(with_reducible first|exact HB.out|apply qf|apply qa|apply qd)|exact HB.out))) : w.heap.size ≤ gb102));clear HB;have HB:=n0_;have BK102:=n1_;have GW102:=n2_;have GE102:=n3_;clear n0_ n1_ n2_ n3_;clear hb hbox hg;have hcz5_0 : w4.cell? ⟨gb102,0,none⟩ = some (.int .i64 a0_0):=(qh BK102.out 0).trans rfl;have hcz5_1 : w4.cell? ⟨gb102,1,none⟩ = some (.slice A0_1 l0_1.length c0_1):=(qh BK102.out 1).trans rfl;have hfz5_0:=qi BK102.out 0;have hfz5_1:=qi BK102.out 1)|(go_at_call 98;(with_reducible refine (spec_l01In.calls a0_0 0 9 true _ A2.out).mono ?_);rintro e w' ⟨rfl,⟨nd,rfl⟩⟩;(try first|exact ⟨rfl,_,World.drewN_drewN _ _ _⟩|exact ⟨rfl,_,Eq.trans (World.drewN_drewN _ _ _) (congrArg (World.drewN _) (Nat.add_assoc _ _ _))⟩)));try go_wp2_with (first|((with_reducible refine gate_dst (N:=1) rfl ?_);refine box_event ?hg (N:=1) ?hd (cs:=#[.int .i64 a0_0,.slice A0_1 l0_1.length c0_1]) (t:=26) ?hr ?_;(case hd=>rfl);(case hg=>rfl);(case hr=>first|(go_simp;done)|(go_simp;rfl));intro gb102 hg w4 hbox hb;have n0_:=hs_ HB hb;have n1_:=qn.mk (hbox);have n2_:=qn.mk ((by rw [hg];exact (qj (by repeat (first|(with_reducible first|exact HB.out|apply qf|apply qa|apply qd)|exact HB.out))) : w.heap.size ≤ gb102));have n3_:=qn.mk ((by rw [hg];exact (qj (by repeat (first|(with_reducible first|exact HB.out|apply qf|apply qa|apply qd)|exact HB.out))) : w.heap.size ≤ gb102));clear HB;have HB:=n0_;have BK102:=n1_;have GW102:=n2_;have GE102:=n3_;clear n0_ n1_ n2_ n3_;clear hb hbox hg;have hcz5_0 : w4.cell? ⟨gb102,0,none⟩ = some (.int .i64 a0_0):=(qh BK102.out 0).trans rfl;have hcz5_1 : w4.cell? ⟨gb102,1,none⟩ = some (.slice A0_1 l0_1.length c0_1):=(qh BK102.out 1).trans rfl;have hfz5_0:=qi BK102.out 0;have hfz5_1:=qi BK102.out 1)|(go_at_call 98;(with_reducible refine (spec_l01In.calls a0_0 0 9 true _ A2.out).mono ?_);rintro e w' ⟨rfl,⟨nd,rfl⟩⟩;(try first|exact ⟨rfl,_,World.drewN_drewN _ _ _⟩|exact ⟨rfl,_,Eq.trans (World.drewN_drewN _ _ _) (congrArg (World.drewN _) (Nat.add_assoc _ _ _))⟩))))
  go_loopg [3] k (fun kq v3 w'=>∃ (x3_1 : Int),v3 = .int .i64 x3_1 ∧ qn (spec_GraphOk.l0 kq x3_1 a0_0 l0_1 = some r) ∧ qn (kq ≤ k) ∧ qn (w'.heap[gb102]? = some (.cells #[.int .i64 a0_0,(.slice A0_1 l0_1.length c0_1)] 26 (0,0))) ∧ qn (Below w.heap.size w w'))
  case atStart=>exact ⟨(0),(by first|rfl|(simp;done)|(simp [*];done)),H',⟨Nat.le_refl _⟩,⟨by (with_reducible repeat (first|refine qb ?_ _|refine qe ?_|refine qc ?_ _));exact BK102.out⟩,⟨by repeat (first|(with_reducible first|exact HB.out|apply qf|apply qa|apply qd|refine qg ?_ GE102.out)|exact HB.out)⟩⟩
  case round =>
   clear H'
   try clear p2
   try clear c3
   try clear hcz5_0
   try clear hcz5_1
   try clear hfz5_0
   try clear hfz5_1
   obtain ⟨x3_1,rfl,HA,HK1,BK102,HB⟩:=hrel
   cases gk with
   | zero=>exact absurd HA.out (by simp [spec_GraphOk.l0])
   | succ k1 =>
    have H:=HA.out
    clear HA
    simp only [spec_GraphOk.l0] at H
    by_cases c6 : x3_1 < (l0_1.length : Int)
    ·rw [if_pos c6] at H
     have c6b0 : decide (x3_1 < (l0_1.length : Int)) = true:=decide_eq_true c6
     clear c6
     by_cases c7 : 0 ≤ x3_1
     ·rw [if_pos c7] at H
      have c7b0 : decide (0 ≤ x3_1) = true:=decide_eq_true c7
      clear c7
      have HC8:=qn.mk H
      clear H
      have hcz9_0 : wr.cell? ⟨gb102,0,none⟩ = some (.int .i64 a0_0):=(qh BK102.out 0).trans rfl
      have hcz9_1 : wr.cell? ⟨gb102,1,none⟩ = some (.slice A0_1 l0_1.length c0_1):=(qh BK102.out 1).trans rfl
      have hfz9_0:=qi BK102.out 0
      have hfz9_1:=qi BK102.out 1
      have p104 : 0 ≤ (x3_1 : Int):=of_decide_eq_true (by first|(with_reducible assumption)|assumption)
      have q104 : x3_1 < (l0_1.length : Int):=of_decide_eq_true (by first|(with_reducible assumption)|assumption)
      obtain ⟨ad104,e104,hx104_0,hx104_1,hx104_2,hx104_3,hx104_4⟩:=at_T36 HR0_1.out x3_1 p104 q104
      cases e104
      replace hx104_0:=cb_ HB hx104_0
      replace hx104_1:=cb_ HB hx104_1
      replace hx104_2:=cb_ HB hx104_2
      replace hx104_3:=cb_ HB hx104_3
      replace hx104_4:=cb_ HB hx104_4
      replace p104:=eq_true p104
      replace q104:=eq_true q104
      go_upto_region 7 with (first|((with_reducible refine gate_dst (N:=4) rfl ?_);refine box_event ?hg (N:=4) ?hd (cs:=#[.int .i64 0,.int .i64 0,.int .i64 0,.int .i64 0,.int .i64 0]) (t:=36) ?hr ?_;(case hd=>rfl);(case hg=>rfl);(case hr=>first|(go_simp;done)|(go_simp;rfl));intro gb105 hg w10 hbox hb;have n0_:=bb_ BK102 hb;have n1_:=hs_ HB hb;have n2_:=qn.mk (hbox);have n3_:=qn.mk ((by rw [hg];exact (qj (by repeat (first|(with_reducible first|exact HB.out|apply qf|apply qa|apply qd|refine qg ?_ GE102.out)|exact HB.out))) : w.heap.size ≤ gb105));have n4_:=qn.mk ((by rw [hg];exact (qj (by repeat (first|(with_reducible first|exact HB.out|apply qf|apply qa|apply qd|refine qg ?_ GE102.out)|exact HB.out))) : w.heap.size ≤ gb105));have n5_:=qn.mk ((by rw [hg];exact nl_ BK102 : gb102 ≠ gb105));have n6_:=qn.mk ((by rw [hg];exact ng_ BK102 : gb105 ≠ gb102));clear BK102;clear HB;have BK102:=n0_;have HB:=n1_;have BK105:=n2_;have GW105:=n3_;have GE105:=n4_;have NB102_105:=n5_;have NB105_102:=n6_;clear n0_ n1_ n2_ n3_ n4_ n5_ n6_;clear hb hbox hg;have hnb11:=NB105_102.out;have hnc11:=NB102_105.out;have hcz12_0 : w10.cell? ⟨gb105,0,none⟩ = some (.int .i64 0):=(qh BK105.out 0).trans rfl;have hcz12_1 : w10.cell? ⟨gb105,1,none⟩ = some (.int .i64 0):=(qh BK105.out 1).trans rfl;have hcz12_2 : w10.cell? ⟨gb105,2,none⟩ = some (.int .i64 0):=(qh BK105.out 2).trans rfl;have hcz12_3 : w10.cell? ⟨gb105,3,none⟩ = some (.int .i64 0):=(qh BK105.out 3).trans rfl;have hcz12_4 : w10.cell? ⟨gb105,4,none⟩ = some (.int .i64 0):=(qh BK105.out 4).trans rfl;have hfz12_0:=qi BK105.out 0;have hfz12_1:=qi BK105.out 1;have hfz12_2:=qi BK105.out 2;have hfz12_3:=qi BK105.out 3;have hfz12_4:=qi BK105.out 4))
      repeat (go_quiet (first|((with_reducible refine gate_dst (N:=4) rfl ?_);refine box_event ?hg (N:=4) ?hd (cs:=#[.int .i64 0,.int .i64 0,.int .i64 0,.int .i64 0,.int .i64 0]) (t:=36) ?hr ?_;(case hd=>rfl);(case hg=>rfl);(case hr=>first|(go_simp;done)|(go_simp;rfl));intro gb105 hg w10 hbox hb;have n0_:=bb_ BK102 hb;have n1_:=hs_ HB hb;have n2_:=qn.mk (hbox);have n3_:=qn.mk ((by rw [hg];exact (qj (by repeat (first|(with_reducible first|exact HB.out|apply qf|apply qa|apply qd|refine qg ?_ GE102.out)|exact HB.out))) : w.heap.size ≤ gb105));have n4_:=qn.mk ((by rw [hg];exact (qj (by repeat (first|(with_reducible first|exact HB.out|apply qf|apply qa|apply qd|refine qg ?_ GE102.out)|exact HB.out))) : w.heap.size ≤ gb105));have n5_:=qn.mk ((by rw [hg];exact nl_ BK102 : gb102 ≠ gb105));have n6_:=qn.mk ((by rw [hg];exact ng_ BK102 : gb105 ≠ gb102));clear BK102;clear HB;have BK102:=n0_;have HB:=n1_;have BK105:=n2_;have GW105:=n3_;have GE105:=n4_;have NB102_105:=n5_;have NB105_102:=n6_;clear n0_ n1_ n2_ n3_ n4_ n5_ n6_;clear hb hbox hg;have hnb11:=NB105_102.out;have hnc11:=NB102_105.out;have hcz12_0 : w10.cell? ⟨gb105,0,none⟩ = some (.int .i64 0):=(qh BK105.out 0).trans rfl;have hcz12_1 : w10.cell? ⟨gb105,1,none⟩ = some (.int .i64 0):=(qh BK105.out 1).trans rfl;have hcz12_2 : w10.cell? ⟨gb105,2,none⟩ = some (.int .i64 0):=(qh BK105.out 2).trans rfl;have hcz12_3 : w10.cell? ⟨gb105,3,none⟩ = some (.int .i64 0):=(qh BK105.out 3).trans rfl;have hcz12_4 : w10.cell? ⟨gb105,4,none⟩ = some (.int .i64 0):=(qh BK105.out 4).trans rfl;have hfz12_0:=qi BK105.out 0;have hfz12_1:=qi BK105.out 1;have hfz12_2:=qi BK105.out 2;have hfz12_3:=qi BK105.out 3;have hfz12_4:=qi BK105.out 4));go_upto_region 7 with (first|((with_reducible refine gate_dst (N:=4) rfl ?_);refine box_event ?hg (N:=4) ?hd (cs:=#[.int .i64 0,.int .i64 0,.int .i64 0,.int .i64 0,.int .i64 0]) (t:=36) ?hr ?_;(case hd=>rfl);(case hg=>rfl);(case hr=>first|(go_simp;done)|(go_simp;rfl));intro gb105 hg w10 hbox hb;have n0_:=bb_ BK102 hb;have n1_:=hs_ HB hb;have n2_:=qn.mk (hbox);have n3_:=qn.mk ((by rw [hg];exact (qj (by repeat (first|(with_reducible first|exact HB.out|apply qf|apply qa|apply qd|refine qg ?_ GE102.out)|exact HB.out))) : w.heap.size ≤ gb105));have n4_:=qn.mk ((by rw [hg];exact (qj (by repeat (first|(with_reducible first|exact HB.out|apply qf|apply qa|apply qd|refine qg ?_ GE102.out)|exact HB.out))) : w.heap.size ≤ gb105));have n5_:=qn.mk ((by rw [hg];exact nl_ BK102 : gb102 ≠ gb105));have n6_:=qn.mk ((by rw [hg];exact ng_ BK102 : gb105 ≠ gb102));clear BK102;clear HB;have BK102:=n0_;have HB:=n1_;have BK105:=n2_;have GW105:=n3_;have GE105:=n4_;have NB102_105:=n5_;have NB105_102:=n6_;clear n0_ n1_ n2_ n3_ n4_ n5_ n6_;clear hb hbox hg;have hnb11:=NB105_102.out;have hnc11:=NB102_105.out;have hcz12_0 : w10.cell? ⟨gb105,0,none⟩ = some (.int .i64 0):=(qh BK105.out 0).trans rfl;have hcz12_1 : w10.cell? ⟨gb105,1,none⟩ = some (.int .i64 0):=(qh BK105.out 1).trans rfl;have hcz12_2 : w10.cell? ⟨gb105,2,none⟩ = some (.int .i64 0):=(qh BK105.out 2).trans rfl;have hcz12_3 : w10.cell? ⟨gb105,3,none⟩ = some (.int .i64 0):=(qh BK105.out 3).trans rfl;have hcz12_4 : w10.cell? ⟨gb105,4,none⟩ = some (.int .i64 0):=(qh BK105.out 4).trans rfl;have hfz12_0:=qi BK105.out 0;have hfz12_1:=qi BK105.out 1;have hfz12_2:=qi BK105.out 2;have hfz12_3:=qi BK105.out 3;have hfz12_4:=qi BK105.out 4)))
      (try simp only [Act.put,List.setIfInBounds_toArray,List.set_cons_zero,List.set_cons_succ])
      go_cut [55] (fun v55 wc=>∃ (kq : Nat) (x55_7 : Bool),v55 = .bool x55_7 ∧ qn (spec_GraphOk.j1 kq x3_1 x55_7 a0_0 l0_1 ((rd_T36 l0_1 x3_1).f0) ((rd_T36 l0_1 x3_1).f1) ((rd_T36 l0_1 x3_1).f2) ((rd_T36 l0_1 x3_1).f3) ((rd_T36 l0_1 x3_1).f4) = some r) ∧ qn (kq ≤ k1) ∧ qn (wc.heap[gb102]? = some (.cells #[.int .i64 a0_0,(.slice (some ad104) l0_1.length c0_1)] 26 (0,0))) ∧ qn (wc.heap[gb105]? = some (.cells #[.int .i64 ((rd_T36 l0_1 x3_1).f0),.int .i64 ((rd_T36 l0_1 x3_1).f1),.int .i64 ((rd_T36 l0_1 x3_1).f2),.int .i64 ((rd_T36 l0_1 x3_1).f3),.int .i64 ((rd_T36 l0_1 x3_1).f4)] 36 (0,0))) ∧ qn (Below w.heap.size w wc))
      case first =>
       have H:=HC8.out
       clear HC8
       by_cases c13 : ((rd_T36 l0_1 x3_1).f0) < 0
       ·rw [if_pos c13] at H
        exact absurd H (by simp)
       ·rw [if_neg c13] at H
        have c13b0 : decide (((rd_T36 l0_1 x3_1).f0) < 0) = false:=decide_eq_false c13
        clear c13
        (first|rw [c13b0]|(simp only [i64_w,i32_w];rw [c13b0])|skip)
        by_cases c16 : ((rd_T36 l0_1 x3_1).f0) ≥ ((rd_T36 l0_1 x3_1).f1)
        ·rw [if_pos c16] at H
         exact absurd H (by simp)
        ·rw [if_neg c16] at H
         have c16b0 : decide (((rd_T36 l0_1 x3_1).f1) ≤ ((rd_T36 l0_1 x3_1).f0)) = false:=decide_eq_false c16
         clear c16
         by_cases c19 : ((rd_T36 l0_1 x3_1).f1) ≥ a0_0
         ·rw [if_pos c19] at H
          exact absurd H (by simp)
         ·rw [if_neg c19] at H
          have c19b0 : decide (a0_0 ≤ ((rd_T36 l0_1 x3_1).f1)) = false:=decide_eq_false c19
          clear c19
          replace H:=Option.bind_eq_some_iff.mp H
          obtain ⟨t106,A230,H⟩:=H
          replace H : (if t106 = true then ((spec_l08Worth.f ((rd_T36 l0_1 x3_1).f3)).bind fun t107=>(if t107 = true then ((spec_l08Worth.f ((rd_T36 l0_1 x3_1).f4)).bind fun t108=>(spec_GraphOk.j1 k1 x3_1 (!t108) a0_0 l0_1 ((rd_T36 l0_1 x3_1).f0) ((rd_T36 l0_1 x3_1).f1) ((rd_T36 l0_1 x3_1).f2) ((rd_T36 l0_1 x3_1).f3) ((rd_T36 l0_1 x3_1).f4))) else (none))) else (none)) = some r:=H
          have A23:=qn.mk A230
          clear A230
          by_cases c24 : t106 = true
          ·subst c24
           have H1 : ((spec_l08Worth.f ((rd_T36 l0_1 x3_1).f3)).bind fun t107=>(if t107 = true then ((spec_l08Worth.f ((rd_T36 l0_1 x3_1).f4)).bind fun t108=>(spec_GraphOk.j1 k1 x3_1 (!t108) a0_0 l0_1 ((rd_T36 l0_1 x3_1).f0) ((rd_T36 l0_1 x3_1).f1) ((rd_T36 l0_1 x3_1).f2) ((rd_T36 l0_1 x3_1).f3) ((rd_T36 l0_1 x3_1).f4))) else (none))) = some r:=by rw [if_pos rfl] at H;exact H
           clear H
           have H:=H1
           clear H1
           replace H:=Option.bind_eq_some_iff.mp H
           obtain ⟨t107,A250,H⟩:=H
           replace H : (if t107 = true then ((spec_l08Worth.f ((rd_T36 l0_1 x3_1).f4)).bind fun t108=>(spec_GraphOk.j1 k1 x3_1 (!t108) a0_0 l0_1 ((rd_T36 l0_1 x3_1).f0) ((rd_T36 l0_1 x3_1).f1) ((rd_T36 l0_1 x3_1).f2) ((rd_T36 l0_1 x3_1).f3) ((rd_T36 l0_1 x3_1).f4))) else (none)) = some r:=H
           have A25:=qn.mk A250
           clear A250
           by_cases c26 : t107 = true
           ·subst c26
            have H1 : ((spec_l08Worth.f ((rd_T36 l0_1 x3_1).f4)).bind fun t108=>(spec_GraphOk.j1 k1 x3_1 (!t108) a0_0 l0_1 ((rd_T36 l0_1 x3_1).f0) ((rd_T36 l0_1 x3_1).f1) ((rd_T36 l0_1 x3_1).f2) ((rd_T36 l0_1 x3_1).f3) ((rd_T36 l0_1 x3_1).f4))) = some r:=by rw [if_pos rfl] at H;exact H
            clear H
            have H:=H1
            clear H1
            replace H:=Option.bind_eq_some_iff.mp H
            obtain ⟨t108,A270,H⟩:=H
            replace H : (spec_GraphOk.j1 k1 x3_1 (!t108) a0_0 l0_1 ((rd_T36 l0_1 x3_1).f0) ((rd_T36 l0_1 x3_1).f1) ((rd_T36 l0_1 x3_1).f2) ((rd_T36 l0_1 x3_1).f3) ((rd_T36 l0_1 x3_1).f4)) = some r:=H
            have A27:=qn.mk A270
            clear A270
            have H':=qn.mk H
            clear H
            have hnb28:=NB105_102.out
            have hnc28:=NB102_105.out
            have hcz29_0 : w10.cell? ⟨gb105,0,none⟩ = some (.int .i64 0):=(qh BK105.out 0).trans rfl
            have hcz29_1 : w10.cell? ⟨gb105,1,none⟩ = some (.int .i64 0):=(qh BK105.out 1).trans rfl
            have hcz29_2 : w10.cell? ⟨gb105,2,none⟩ = some (.int .i64 0):=(qh BK105.out 2).trans rfl
            have hcz29_3 : w10.cell? ⟨gb105,3,none⟩ = some (.int .i64 0):=(qh BK105.out 3).trans rfl
            have hcz29_4 : w10.cell? ⟨gb105,4,none⟩ = some (.int .i64 0):=(qh BK105.out 4).trans rfl
            have hfz29_0:=qi BK105.out 0
            have hfz29_1:=qi BK105.out 1
            have hfz29_2:=qi BK105.out 2
            have hfz29_3:=qi BK105.out 3
            have hfz29_4:=qi BK105.out 4
            have hcz30_0 : w10.cell? ⟨gb102,0,none⟩ = some (.int .i64 a0_0):=(qh BK102.out 0).trans rfl
            have hcz30_1 : w10.cell? ⟨gb102,1,none⟩ = some (.slice (some ad104) l0_1.length c0_1):=(qh BK102.out 1).trans rfl
            have hfz30_0:=qi BK102.out 0
            have hfz30_1:=qi BK102.out 1
            go_wp2_with (first|(go_at_call 113;(with_reducible refine (spec_l08Worth.calls ((rd_T36 l0_1 x3_1).f2) true _ A23.out).mono ?_);rintro e w' ⟨rfl,⟨nd,rfl⟩⟩;(try first|exact ⟨rfl,_,World.drewN_drewN _ _ _⟩|exact ⟨rfl,_,Eq.trans (World.drewN_drewN _ _ _) (congrArg (World.drewN _) (Nat.add_assoc _ _ _))⟩))|(go_at_call 113;(with_reducible refine (spec_l08Worth.calls ((rd_T36 l0_1 x3_1).f3) true _ A25.out).mono ?_);rintro e w' ⟨rfl,⟨nd,rfl⟩⟩;(try first|exact ⟨rfl,_,World.drewN_drewN _ _ _⟩|exact ⟨rfl,_,Eq.trans (World.drewN_drewN _ _ _) (congrArg (World.drewN _) (Nat.add_assoc _ _ _))⟩))|(go_at_call 113;(with_reducible refine (spec_l08Worth.calls ((rd_T36 l0_1 x3_1).f4) t108 _ A27.out).mono ?_);rintro e w' ⟨rfl,⟨nd,rfl⟩⟩;(try first|exact ⟨rfl,_,World.drewN_drewN _ _ _⟩|exact ⟨rfl,_,Eq.trans (World.drewN_drewN _ _ _) (congrArg (World.drewN _) (Nat.add_assoc _ _ _))⟩)))
            repeat (go_quiet (first|(go_at_call 113;(with_reducible refine (spec_l08Worth.calls ((rd_T36 l0_1 x3_1).f2) true _ A23.out).mono ?_);rintro e w' ⟨rfl,⟨nd,rfl⟩⟩;(try first|exact ⟨rfl,_,World.drewN_drewN _ _ _⟩|exact ⟨rfl,_,Eq.trans (World.drewN_drewN _ _ _) (congrArg (World.drewN _) (Nat.add_assoc _ _ _))⟩))|(go_at_call 113;(with_reducible refine (spec_l08Worth.calls ((rd_T36 l0_1 x3_1).f3) true _ A25.out).mono ?_);rintro e w' ⟨rfl,⟨nd,rfl⟩⟩;(try first|exact ⟨rfl,_,World.drewN_drewN _ _ _⟩|exact ⟨rfl,_,Eq.trans (World.drewN_drewN _ _ _) (congrArg (World.drewN _) (Nat.add_assoc _ _ _))⟩))|(go_at_call 113;(with_reducible refine (spec_l08Worth.calls ((rd_T36 l0_1 x3_1).f4) t108 _ A27.out).mono ?_);rintro e w' ⟨rfl,⟨nd,rfl⟩⟩;(try first|exact ⟨rfl,_,World.drewN_drewN _ _ _⟩|exact ⟨rfl,_,Eq.trans (World.drewN_drewN _ _ _) (congrArg (World.drewN _) (Nat.add_assoc _ _ _))⟩)));try go_wp2_with (first|(go_at_call 113;(with_reducible refine (spec_l08Worth.calls ((rd_T36 l0_1 x3_1).f2) true _ A23.out).mono ?_);rintro e w' ⟨rfl,⟨nd,rfl⟩⟩;(try first|exact ⟨rfl,_,World.drewN_drewN _ _ _⟩|exact ⟨rfl,_,Eq.trans (World.drewN_drewN _ _ _) (congrArg (World.drewN _) (Nat.add_assoc _ _ _))⟩))|(go_at_call 113;(with_reducible refine (spec_l08Worth.calls ((rd_T36 l0_1 x3_1).f3) true _ A25.out).mono ?_);rintro e w' ⟨rfl,⟨nd,rfl⟩⟩;(try first|exact ⟨rfl,_,World.drewN_drewN _ _ _⟩|exact ⟨rfl,_,Eq.trans (World.drewN_drewN _ _ _) (congrArg (World.drewN _) (Nat.add_assoc _ _ _))⟩))|(go_at_call 113;(with_reducible refine (spec_l08Worth.calls ((rd_T36 l0_1 x3_1).f4) t108 _ A27.out).mono ?_);rintro e w' ⟨rfl,⟨nd,rfl⟩⟩;(try first|exact ⟨rfl,_,World.drewN_drewN _ _ _⟩|exact ⟨rfl,_,Eq.trans (World.drewN_drewN _ _ _) (congrArg (World.drewN _) (Nat.add_assoc _ _ _))⟩))))
            go_meet
            case rel=>exact ⟨_,(!t108),(by first|rfl|(simp;done)|(simp [*];done)),H',⟨by have:=HK1.out;first|omega|exact Nat.le_refl _⟩,⟨by (with_reducible repeat (first|refine qb ?_ _|refine qe ?_|refine qc ?_ _));refine blk_far ?_ NB102_105.out _;(with_reducible repeat (first|refine qb ?_ _|refine qe ?_|refine qc ?_ _));refine blk_far ?_ NB102_105.out _;(with_reducible repeat (first|refine qb ?_ _|refine qe ?_|refine qc ?_ _));refine blk_far ?_ NB102_105.out _;(with_reducible repeat (first|refine qb ?_ _|refine qe ?_|refine qc ?_ _));refine blk_far ?_ NB102_105.out _;(with_reducible repeat (first|refine qb ?_ _|refine qe ?_|refine qc ?_ _));refine blk_far ?_ NB102_105.out _;(with_reducible repeat (first|refine qb ?_ _|refine qe ?_|refine qc ?_ _));exact BK102.out⟩,⟨by (with_reducible repeat (first|refine qb ?_ _|refine qe ?_|refine qc ?_ _));refine blk_put (cs:=#[.int .i64 ((rd_T36 l0_1 x3_1).f0),.int .i64 ((rd_T36 l0_1 x3_1).f1),.int .i64 ((rd_T36 l0_1 x3_1).f2),.int .i64 ((rd_T36 l0_1 x3_1).f3),.int .i64 0]) ?_ 4 _ rfl;(with_reducible repeat (first|refine qb ?_ _|refine qe ?_|refine qc ?_ _));refine blk_put (cs:=#[.int .i64 ((rd_T36 l0_1 x3_1).f0),.int .i64 ((rd_T36 l0_1 x3_1).f1),.int .i64 ((rd_T36 l0_1 x3_1).f2),.int .i64 0,.int .i64 0]) ?_ 3 _ rfl;(with_reducible repeat (first|refine qb ?_ _|refine qe ?_|refine qc ?_ _));refine blk_put (cs:=#[.int .i64 ((rd_T36 l0_1 x3_1).f0),.int .i64 ((rd_T36 l0_1 x3_1).f1),.int .i64 0,.int .i64 0,.int .i64 0]) ?_ 2 _ rfl;(with_reducible repeat (first|refine qb ?_ _|refine qe ?_|refine qc ?_ _));refine blk_put (cs:=#[.int .i64 ((rd_T36 l0_1 x3_1).f0),.int .i64 0,.int .i64 0,.int .i64 0,.int .i64 0]) ?_ 1 _ rfl;(with_reducible repeat (first|refine qb ?_ _|refine qe ?_|refine qc ?_ _));refine blk_put (cs:=#[.int .i64 0,.int .i64 0,.int .i64 0,.int .i64 0,.int .i64 0]) ?_ 0 _ rfl;(with_reducible repeat (first|refine qb ?_ _|refine qe ?_|refine qc ?_ _));exact BK105.out⟩,⟨by repeat (first|(with_reducible first|exact HB.out|apply qf|apply qa|apply qd|refine qg ?_ GE102.out|refine qg ?_ GE105.out)|exact HB.out)⟩⟩
           ·replace c26:=Bool.eq_false_iff.mpr c26
            subst c26
            have H1 : (none) = some r:=by rw [if_neg (show ¬ (false = true) by decide)] at H;exact H
            exact absurd H1 (by simp)
          ·replace c24:=Bool.eq_false_iff.mpr c24
           subst c24
           have H1 : (none) = some r:=by rw [if_neg (show ¬ (false = true) by decide)] at H;exact H
           exact absurd H1 (by simp)
      case rest =>
       clear HC8
       try clear c1
       try clear p1
       try clear q1
       try clear hx1
       try clear c2
       try clear p2
       try clear c3
       try clear c6
       try clear c6b0
       try clear c7
       try clear c7b0
       try clear c8
       try clear p10
       try clear q10
       try clear hx10
       try clear c11
       try clear c13
       try clear c13b0
       try clear c14
       try clear c16
       try clear c16b0
       try clear c17
       try clear c19
       try clear c19b0
       try clear c20
       try clear c24
       try clear c26
       try clear c28
       try clear c31
       try clear c34
       try clear hcz12_0
       try clear hcz12_1
       try clear hcz12_2
       try clear hcz12_3
       try clear hcz12_4
       try clear hcz15_0
       try clear hcz15_1
       try clear hcz15_2
       try clear hcz15_3
       try clear hcz15_4
       try clear hcz18_0
       try clear hcz18_1
       try clear hcz18_2
       try clear hcz18_3
       try clear hcz18_4
       try clear hcz21_0
       try clear hcz21_1
       try clear hcz21_2
       try clear hcz21_3
       try clear hcz21_4
       try clear hcz22_0
       try clear hcz22_1
       try clear hcz29_0
       try clear hcz29_1
       try clear hcz29_2
       try clear hcz29_3
       try clear hcz29_4
       try clear hcz30_0
       try clear hcz30_1
       try clear hcz32_0
       try clear hcz32_1
       try clear hcz32_2
       try clear hcz32_3
       try clear hcz32_4
       try clear hcz33_0
       try clear hcz33_1
       try clear hcz35_0
       try clear hcz35_1
       try clear hcz35_2
       try clear hcz35_3
       try clear hcz35_4
       try clear hcz36_0
       try clear hcz36_1
       try clear hcz5_0
       try clear hcz5_1
       try clear hcz9_0
       try clear hcz9_1
       try clear hfz12_0
       try clear hfz12_1
       try clear hfz12_2
       try clear hfz12_3
       try clear hfz12_4
       try clear hfz15_0
       try clear hfz15_1
       try clear hfz15_2
       try clear hfz15_3
       try clear hfz15_4
       try clear hfz18_0
       try clear hfz18_1
       try clear hfz18_2
       try clear hfz18_3
       try clear hfz18_4
       try clear hfz21_0
       try clear hfz21_1
       try clear hfz21_2
       try clear hfz21_3
       try clear hfz21_4
       try clear hfz22_0
       try clear hfz22_1
       try clear hfz29_0
       try clear hfz29_1
       try clear hfz29_2
       try clear hfz29_3
       try clear hfz29_4
       try clear hfz30_0
       try clear hfz30_1
       try clear hfz32_0
       try clear hfz32_1
       try clear hfz32_2
       try clear hfz32_3
       try clear hfz32_4
       try clear hfz33_0
       try clear hfz33_1
       try clear hfz35_0
       try clear hfz35_1
       try clear hfz35_2
       try clear hfz35_3
       try clear hfz35_4
       try clear hfz36_0
       try clear hfz36_1
       try clear hfz5_0
       try clear hfz5_1
       try clear hfz9_0
       try clear hfz9_1
       try clear hx104_0
       try clear hx104_1
       try clear hx104_2
       try clear hx104_3
       try clear hx104_4
       try clear p104
       try clear p2
       try clear q104
       obtain ⟨kq,x55_7,rfl,HA,HJ7,BK102,BK105,HB⟩:=hcut
       cases kq with
       | zero=>exact absurd HA.out (by simp [spec_GraphOk.j1])
       | succ kj7 =>
        have H:=HA.out
        clear HA
        simp only [spec_GraphOk.j1] at H
        by_cases c37 : x55_7 = true
        ·subst c37
         have H1 : (none) = some r:=by rw [if_pos rfl] at H;exact H
         exact absurd H1 (by simp)
        ·replace c37:=Bool.eq_false_iff.mpr c37
         subst c37
         have H1 : (if x3_1 > 0 then (if 0 ≤ (wrap64 (x3_1 - 1)) then (if (wrap64 (x3_1 - 1)) < (l0_1.length : Int) then (if ((rd_T36 l0_1 (wrap64 (x3_1 - 1))).f0) > ((rd_T36 l0_1 x3_1).f0) then (none) else (if ((rd_T36 l0_1 (wrap64 (x3_1 - 1))).f0) = ((rd_T36 l0_1 x3_1).f0) then (if ((rd_T36 l0_1 (wrap64 (x3_1 - 1))).f1) ≥ ((rd_T36 l0_1 x3_1).f1) then (none) else (spec_GraphOk.l0 kj7 (wrap64 (x3_1 + 1)) a0_0 l0_1)) else (spec_GraphOk.l0 kj7 (wrap64 (x3_1 + 1)) a0_0 l0_1))) else (none)) else (none)) else (spec_GraphOk.l0 kj7 (wrap64 (x3_1 + 1)) a0_0 l0_1)) = some r:=by rw [if_neg (show ¬ (false = true) by decide)] at H;exact H
         clear H
         have H:=H1
         clear H1
         by_cases c38 : x3_1 > 0
         ·rw [if_pos c38] at H
          have c38b0 : decide (0 < x3_1) = true:=decide_eq_true c38
          clear c38
          obtain ⟨ji39,hji39⟩ : ∃ j_ : Int,(wrap64 (x3_1 - 1)) = j_:=⟨_,rfl⟩
          replace H : (if 0 ≤ (ji39) then (if (ji39) < (l0_1.length : Int) then (if ((rd_T36 l0_1 (ji39)).f0) > ((rd_T36 l0_1 x3_1).f0) then (none) else (if ((rd_T36 l0_1 (ji39)).f0) = ((rd_T36 l0_1 x3_1).f0) then (if ((rd_T36 l0_1 (ji39)).f1) ≥ ((rd_T36 l0_1 x3_1).f1) then (none) else (spec_GraphOk.l0 kj7 (wrap64 (x3_1 + 1)) a0_0 l0_1)) else (spec_GraphOk.l0 kj7 (wrap64 (x3_1 + 1)) a0_0 l0_1))) else (none)) else (none)) = some r:=by first|(rw [hji39] at H;exact H)|(simp only [hji39] at H ⊢;exact H)
          have hji39w : (IntKind.i64.wrap (x3_1 - 1)) = ji39:=(i64_w _).trans hji39
          by_cases c40 : 0 ≤ (ji39)
          ·rw [if_pos c40] at H
           have c40b0 : decide (0 ≤ (ji39)) = true:=decide_eq_true c40
           clear c40
           by_cases c41 : (ji39) < (l0_1.length : Int)
           ·rw [if_pos c41] at H
            have c41b0 : decide ((ji39) < (l0_1.length : Int)) = true:=decide_eq_true c41
            clear c41
            by_cases c42 : ((rd_T36 l0_1 (ji39)).f0) > ((rd_T36 l0_1 x3_1).f0)
            ·rw [if_pos c42] at H
             exact absurd H (by simp)
            ·rw [if_neg c42] at H
             have c42b0 : decide (((rd_T36 l0_1 x3_1).f0) < ((rd_T36 l0_1 (ji39)).f0)) = false:=decide_eq_false c42
             clear c42
             by_cases c46 : ((rd_T36 l0_1 (ji39)).f0) = ((rd_T36 l0_1 x3_1).f0)
             ·rw [if_pos c46] at H
              have c46b0 : (((rd_T36 l0_1 (ji39)).f0) == ((rd_T36 l0_1 x3_1).f0)) = true:=beq_iff_eq.mpr c46
              have c46b1 : (((rd_T36 l0_1 (ji39)).f0) != ((rd_T36 l0_1 x3_1).f0)) = false:=bne_eq_false_iff_eq.mpr c46
              clear c46
              by_cases c47 : ((rd_T36 l0_1 (ji39)).f1) ≥ ((rd_T36 l0_1 x3_1).f1)
              ·rw [if_pos c47] at H
               exact absurd H (by simp)
              ·rw [if_neg c47] at H
               have c47b0 : decide (((rd_T36 l0_1 x3_1).f1) ≤ ((rd_T36 l0_1 (ji39)).f1)) = false:=decide_eq_false c47
               clear c47
               have H':=qn.mk H
               clear H
               have hnb51:=NB102_105.out
               have hnc51:=NB105_102.out
               have hcz52_0 : wc.cell? ⟨gb102,0,none⟩ = some (.int .i64 a0_0):=(qh BK102.out 0).trans rfl
               have hcz52_1 : wc.cell? ⟨gb102,1,none⟩ = some (.slice (some ad104) l0_1.length c0_1):=(qh BK102.out 1).trans rfl
               have hfz52_0:=qi BK102.out 0
               have hfz52_1:=qi BK102.out 1
               have p109 : 0 ≤ ((ji39) : Int):=of_decide_eq_true (by first|(with_reducible assumption)|assumption)
               have q109 : (ji39) < (l0_1.length : Int):=of_decide_eq_true (by first|(with_reducible assumption)|assumption)
               obtain ⟨ad109,e109,hx109_0,hx109_1,hx109_2,hx109_3,hx109_4⟩:=at_T36 HR0_1.out (ji39) p109 q109
               obtain rfl : ad104 = ad109:=(by injection e109)
               replace hx109_0:=cb_ HB hx109_0
               replace hx109_1:=cb_ HB hx109_1
               replace hx109_2:=cb_ HB hx109_2
               replace hx109_3:=cb_ HB hx109_3
               replace hx109_4:=cb_ HB hx109_4
               replace p109:=eq_true p109
               replace q109:=eq_true q109
               have hcz53_0 : wc.cell? ⟨gb105,0,none⟩ = some (.int .i64 ((rd_T36 l0_1 x3_1).f0)):=(qh BK105.out 0).trans rfl
               have hcz53_1 : wc.cell? ⟨gb105,1,none⟩ = some (.int .i64 ((rd_T36 l0_1 x3_1).f1)):=(qh BK105.out 1).trans rfl
               have hcz53_2 : wc.cell? ⟨gb105,2,none⟩ = some (.int .i64 ((rd_T36 l0_1 x3_1).f2)):=(qh BK105.out 2).trans rfl
               have hcz53_3 : wc.cell? ⟨gb105,3,none⟩ = some (.int .i64 ((rd_T36 l0_1 x3_1).f3)):=(qh BK105.out 3).trans rfl
               have hcz53_4 : wc.cell? ⟨gb105,4,none⟩ = some (.int .i64 ((rd_T36 l0_1 x3_1).f4)):=(qh BK105.out 4).trans rfl
               have hfz53_0:=qi BK105.out 0
               have hfz53_1:=qi BK105.out 1
               have hfz53_2:=qi BK105.out 2
               have hfz53_3:=qi BK105.out 3
               have hfz53_4:=qi BK105.out 4
               have p110 : 0 ≤ ((ji39) : Int):=of_decide_eq_true (by first|(with_reducible assumption)|assumption)
               have q110 : (ji39) < (l0_1.length : Int):=of_decide_eq_true (by first|(with_reducible assumption)|assumption)
               obtain ⟨ad110,e110,hx110_0,hx110_1,hx110_2,hx110_3,hx110_4⟩:=at_T36 HR0_1.out (ji39) p110 q110
               obtain rfl : ad104 = ad110:=(by injection e110)
               replace hx110_0:=cb_ HB hx110_0
               replace hx110_1:=cb_ HB hx110_1
               replace hx110_2:=cb_ HB hx110_2
               replace hx110_3:=cb_ HB hx110_3
               replace hx110_4:=cb_ HB hx110_4
               replace p110:=eq_true p110
               replace q110:=eq_true q110
               have p111 : 0 ≤ ((ji39) : Int):=of_decide_eq_true (by first|(with_reducible assumption)|assumption)
               have q111 : (ji39) < (l0_1.length : Int):=of_decide_eq_true (by first|(with_reducible assumption)|assumption)
               obtain ⟨ad111,e111,hx111_0,hx111_1,hx111_2,hx111_3,hx111_4⟩:=at_T36 HR0_1.out (ji39) p111 q111
               obtain rfl : ad104 = ad111:=(by injection e111)
               replace hx111_0:=cb_ HB hx111_0
               replace hx111_1:=cb_ HB hx111_1
               replace hx111_2:=cb_ HB hx111_2
               replace hx111_3:=cb_ HB hx111_3
               replace hx111_4:=cb_ HB hx111_4
               replace p111:=eq_true p111
               replace q111:=eq_true q111
               go_wp2
               repeat (go_quiet (fail);try go_wp2)
               go_roundg kj7
               case measure=>have:=HK1.out;have:=HJ7.out;omega
               case rel=>exact ⟨(wrap64 (x3_1 + 1)),(by first|rfl|(simp;done)|(simp [*];done)),H',⟨by have:=HK1.out;have:=HJ7.out;omega⟩,⟨by (with_reducible repeat (first|refine qb ?_ _|refine qe ?_|refine qc ?_ _));exact BK102.out⟩,⟨by repeat (first|(with_reducible first|exact HB.out|apply qf|apply qa|apply qd|refine qg ?_ GE102.out|refine qg ?_ GE105.out)|exact HB.out)⟩⟩
             ·rw [if_neg c46] at H
              have c46b0 : (((rd_T36 l0_1 (ji39)).f0) == ((rd_T36 l0_1 x3_1).f0)) = false:=beq_eq_false_iff_ne.mpr c46
              have c46b1 : (((rd_T36 l0_1 (ji39)).f0) != ((rd_T36 l0_1 x3_1).f0)) = true:=bne_iff_ne.mpr c46
              have H':=qn.mk H
              clear H
              have hnb54:=NB102_105.out
              have hnc54:=NB105_102.out
              have hcz55_0 : wc.cell? ⟨gb102,0,none⟩ = some (.int .i64 a0_0):=(qh BK102.out 0).trans rfl
              have hcz55_1 : wc.cell? ⟨gb102,1,none⟩ = some (.slice (some ad104) l0_1.length c0_1):=(qh BK102.out 1).trans rfl
              have hfz55_0:=qi BK102.out 0
              have hfz55_1:=qi BK102.out 1
              have p109 : 0 ≤ ((ji39) : Int):=of_decide_eq_true (by first|(with_reducible assumption)|assumption)
              have q109 : (ji39) < (l0_1.length : Int):=of_decide_eq_true (by first|(with_reducible assumption)|assumption)
              obtain ⟨ad109,e109,hx109_0,hx109_1,hx109_2,hx109_3,hx109_4⟩:=at_T36 HR0_1.out (ji39) p109 q109
              obtain rfl : ad104 = ad109:=(by injection e109)
              replace hx109_0:=cb_ HB hx109_0
              replace hx109_1:=cb_ HB hx109_1
              replace hx109_2:=cb_ HB hx109_2
              replace hx109_3:=cb_ HB hx109_3
              replace hx109_4:=cb_ HB hx109_4
              replace p109:=eq_true p109
              replace q109:=eq_true q109
              have hcz56_0 : wc.cell? ⟨gb105,0,none⟩ = some (.int .i64 ((rd_T36 l0_1 x3_1).f0)):=(qh BK105.out 0).trans rfl
              have hcz56_1 : wc.cell? ⟨gb105,1,none⟩ = some (.int .i64 ((rd_T36 l0_1 x3_1).f1)):=(qh BK105.out 1).trans rfl
              have hcz56_2 : wc.cell? ⟨gb105,2,none⟩ = some (.int .i64 ((rd_T36 l0_1 x3_1).f2)):=(qh BK105.out 2).trans rfl
              have hcz56_3 : wc.cell? ⟨gb105,3,none⟩ = some (.int .i64 ((rd_T36 l0_1 x3_1).f3)):=(qh BK105.out 3).trans rfl
              have hcz56_4 : wc.cell? ⟨gb105,4,none⟩ = some (.int .i64 ((rd_T36 l0_1 x3_1).f4)):=(qh BK105.out 4).trans rfl
              have hfz56_0:=qi BK105.out 0
              have hfz56_1:=qi BK105.out 1
              have hfz56_2:=qi BK105.out 2
              have hfz56_3:=qi BK105.out 3
              have hfz56_4:=qi BK105.out 4
              have p110 : 0 ≤ ((ji39) : Int):=of_decide_eq_true (by first|(with_reducible assumption)|assumption)
              have q110 : (ji39) < (l0_1.length : Int):=of_decide_eq_true (by first|(with_reducible assumption)|assumption)
              obtain ⟨ad110,e110,hx110_0,hx110_1,hx110_2,hx110_3,hx110_4⟩:=at_T36 HR0_1.out (ji39) p110 q110
              obtain rfl : ad104 = ad110:=(by injection e110)
              replace hx110_0:=cb_ HB hx110_0
              replace hx110_1:=cb_ HB hx110_1
              replace hx110_2:=cb_ HB hx110_2
              replace hx110_3:=cb_ HB hx110_3
              replace hx110_4:=cb_ HB hx110_4
              replace p110:=eq_true p110
              replace q110:=eq_true q110
              go_wp2
              repeat (go_quiet (fail);try go_wp2)
              go_roundg kj7
              case measure=>have:=HK1.out;have:=HJ7.out;omega
              case rel=>exact ⟨(wrap64 (x3_1 + 1)),(by first|rfl|(simp;done)|(simp [*];done)),H',⟨by have:=HK1.out;have:=HJ7.out;omega⟩,⟨by (with_reducible repeat (first|refine qb ?_ _|refine qe ?_|refine qc ?_ _));exact BK102.out⟩,⟨by repeat (first|(with_reducible first|exact HB.out|apply qf|apply qa|apply qd|refine qg ?_ GE102.out|refine qg ?_ GE105.out)|exact HB.out)⟩⟩
           ·rw [if_neg c41] at H
            exact absurd H (by simp)
          ·rw [if_neg c40] at H
           exact absurd H (by simp)
         ·rw [if_neg c38] at H
          have c38b0 : decide (0 < x3_1) = false:=decide_eq_false c38
          clear c38
          have H':=qn.mk H
          clear H
          go_wp2
          repeat (go_quiet (fail);try go_wp2)
          go_roundg kj7
          case measure=>have:=HK1.out;have:=HJ7.out;omega
          case rel=>exact ⟨(wrap64 (x3_1 + 1)),(by first|rfl|(simp;done)|(simp [*];done)),H',⟨by have:=HK1.out;have:=HJ7.out;omega⟩,⟨by (with_reducible repeat (first|refine qb ?_ _|refine qe ?_|refine qc ?_ _));exact BK102.out⟩,⟨by repeat (first|(with_reducible first|exact HB.out|apply qf|apply qa|apply qd|refine qg ?_ GE102.out|refine qg ?_ GE105.out)|exact HB.out)⟩⟩
     ·rw [if_neg c7] at H
      exact absurd H (by simp)
    ·rw [if_neg c6] at H
     have c6b0 : decide (x3_1 < (l0_1.length : Int)) = false:=decide_eq_false c6
     clear c6
     obtain rfl:=Option.some.inj H
     have hcz57_0 : wr.cell? ⟨gb102,0,none⟩ = some (.int .i64 a0_0):=(qh BK102.out 0).trans rfl
     have hcz57_1 : wr.cell? ⟨gb102,1,none⟩ = some (.slice A0_1 l0_1.length c0_1):=(qh BK102.out 1).trans rfl
     have hfz57_0:=qi BK102.out 0
     have hfz57_1:=qi BK102.out 1
     go_wp2
     repeat (go_quiet (fail);try go_wp2)
     go_ret
     exact ⟨by first|rfl|(simp [errW_none,errW_some] <;> rfl)|(simp [*,errW_none,errW_some] <;> rfl),by repeat (first|(with_reducible first|exact HB.out|apply qf|apply qa|apply qd|refine qg ?_ GE102.out)|exact HB.out)⟩
 ·replace c3:=Bool.eq_false_iff.mpr c3
  subst c3
  have H1 : (none) = some r:=by rw [if_neg (show ¬ (false = true) by decide)] at H;exact H
  exact absurd H1 (by simp)
end Go.Proofs.Ytfmemcffbfahhaa.QFnBest
