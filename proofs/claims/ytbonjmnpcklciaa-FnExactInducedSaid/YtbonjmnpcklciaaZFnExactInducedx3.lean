/- Lean functions for the Go functions that the law FnExactInduced reaches, and that each Go function comes to just its Lean function's answer; by a program of this session. -/
import Derived.Test.YtbonjmnpcklciaaZFnExactInducedx0
import Derived.Test.YtbonjmnpcklciaaZFnExactInducedx1
import Derived.Test.YtbonjmnpcklciaaZFnExactInducedx2
namespace Go.Proofs.Ytbonjmnpcklciaa.QFnExactInduced
open Go.RowKit Go.Proofs.YtbonjmnpcklciaaW.PrintWords Go.Proofs.YtbonjmnpcklciaaW.PrintLast Go.Proofs.YtbonjmnpcklciaaW.PrintMore
attribute [local go_sem] max2_int min2_int max_two min_two max_three min_three max_four min_four   -- for this text's walks alone
set_option linter.unusedVariables false
set_option linter.unusedSimpArgs false

/-! ### spec_Induced: function 41 -/
mutual
def spec_Induced.j1 : Nat → List Int → Bool → Int → List (S148) → Option (Int × (List (S148)) × Bool)
  | 0,_,_,_,_=>none
  | k + 1,x1,x6,x143000,x143001=>if x6 = true then (spec_Induced.l1 k x1 0 x143000 x143001 (x1.length : Int) ([] : List (S148))) else (some (0,([] : List (S148)),false))
def spec_Induced.l1 : Nat → List Int → Int → Int → List (S148) → Int → List (S148) → Option (Int × (List (S148)) × Bool)
  | 0,_,_,_,_,_,_=>none
  | k + 1,x1,x9,x143000,x143001,x150000,x150001=>if x9 < (x143001.length : Int) then (if 0 ≤ x9 then ((spec_l08Place.f k x1 ((rd_T148 x143001 x9).f0)).bind fun t152=>((spec_l08Place.f k x1 ((rd_T148 x143001 x9).f1)).bind fun t153=>(if t152 ≥ 0 then (if t153 ≥ 0 then (if x150001.length < 3518437208883 then (spec_Induced.l1 k x1 (wrap64 (x9 + 1)) x143000 x143001 x150000 (x150001 ++ [(⟨t152,t153,(rd_T148 x143001 x9).f2,(rd_T148 x143001 x9).f3,(rd_T148 x143001 x9).f4⟩ : S148)])) else (none)) else (spec_Induced.l1 k x1 (wrap64 (x9 + 1)) x143000 x143001 x150000 x150001)) else (spec_Induced.l1 k x1 (wrap64 (x9 + 1)) x143000 x143001 x150000 x150001)))) else (none)) else (some (x150000,x150001,true))
def spec_Induced.l0 : Nat → List Int → Bool → Int → Int → List (S148) → Option (Int × (List (S148)) × Bool)
  | 0,_,_,_,_,_=>none
  | k + 1,x1,x6,x7,x143000,x143001=>if x7 < (x1.length : Int) then (if x6 = true then (if 0 ≤ x7 then ((spec_l01In.f (rd x1 x7) 0 (wrap64 (x143000 - 1))).bind fun t146=>(if t146 = true then (if x7 = 0 then (spec_Induced.l0 k x1 true (wrap64 (x7 + 1)) x143000 x143001) else (if 0 ≤ (wrap64 (x7 - 1)) then (if (wrap64 (x7 - 1)) < (x1.length : Int) then (spec_Induced.l0 k x1 (decide ((rd x1 (wrap64 (x7 - 1))) < (rd x1 x7))) (wrap64 (x7 + 1)) x143000 x143001) else (none)) else (none))) else (spec_Induced.l0 k x1 false (wrap64 (x7 + 1)) x143000 x143001))) else (none)) else (spec_Induced.j1 k x1 x6 x143000 x143001)) else (spec_Induced.j1 k x1 x6 x143000 x143001)
end
def spec_Induced.f (k : Nat) (a0_0 : Int) (l0_1 : List (S148)) (l1 : List Int) : Option (Int × (List (S148)) × Bool):=(spec_GraphOk.f k a0_0 l0_1).bind fun t144=>(spec_Induced.l0 k l1 t144 0 a0_0 l0_1)
theorem spec_Induced.mono_l : ∀ k,(∀ y0 y1 y2 y3,LeO (spec_Induced.j1 k y0 y1 y2 y3) (spec_Induced.j1 (k + 1) y0 y1 y2 y3)) ∧ (∀ y0 y1 y2 y3 y4 y5,LeO (spec_Induced.l1 k y0 y1 y2 y3 y4 y5) (spec_Induced.l1 (k + 1) y0 y1 y2 y3 y4 y5)) ∧ (∀ y0 y1 y2 y3 y4,LeO (spec_Induced.l0 k y0 y1 y2 y3 y4) (spec_Induced.l0 (k + 1) y0 y1 y2 y3 y4))
  | 0=>⟨fun _ _ _ _ r h=>by simp [spec_Induced.j1] at h,fun _ _ _ _ _ _ r h=>by simp [spec_Induced.l1] at h,fun _ _ _ _ _ r h=>by simp [spec_Induced.l0] at h⟩
  | k + 1=>by
    obtain ⟨ih0,ih1,ih2⟩:=spec_Induced.mono_l k
    refine ⟨?_,?_,?_⟩
    · intro y0 y1 y2 y3
      unfold spec_Induced.j1
      repeat' first
      | (with_reducible exact ih0 _ _ _ _)
      | (with_reducible exact ih1 _ _ _ _ _ _)
      | (with_reducible exact ih2 _ _ _ _ _)
      | (with_reducible exact spec_GraphOk.mono _ _ _)
      | (with_reducible exact spec_l08Place.mono _ _ _)
      | (with_reducible exact LeO.refl _)
      | (with_reducible exact LeO.none _)
      | (with_reducible refine LeO.ite ?_ ?_)
      | (with_reducible refine LeO.bind ?_ (fun _=>?_))
      | exact ih0 _ _ _ _
      | exact ih1 _ _ _ _ _ _
      | exact ih2 _ _ _ _ _
      | exact spec_GraphOk.mono _ _ _
      | exact spec_l08Place.mono _ _ _
      | exact LeO.none _
      | refine LeO.ite ?_ ?_
      | refine LeO.bind ?_ (fun _=>?_)
    · intro y0 y1 y2 y3 y4 y5
      unfold spec_Induced.l1
      repeat' first
      | (with_reducible exact ih0 _ _ _ _)
      | (with_reducible exact ih1 _ _ _ _ _ _)
      | (with_reducible exact ih2 _ _ _ _ _)
      | (with_reducible exact spec_GraphOk.mono _ _ _)
      | (with_reducible exact spec_l08Place.mono _ _ _)
      | (with_reducible exact LeO.refl _)
      | (with_reducible exact LeO.none _)
      | (with_reducible refine LeO.ite ?_ ?_)
      | (with_reducible refine LeO.bind ?_ (fun _=>?_))
      | exact ih0 _ _ _ _
      | exact ih1 _ _ _ _ _ _
      | exact ih2 _ _ _ _ _
      | exact spec_GraphOk.mono _ _ _
      | exact spec_l08Place.mono _ _ _
      | exact LeO.none _
      | refine LeO.ite ?_ ?_
      | refine LeO.bind ?_ (fun _=>?_)
    · intro y0 y1 y2 y3 y4
      unfold spec_Induced.l0
      repeat' first
      | (with_reducible exact ih0 _ _ _ _)
      | (with_reducible exact ih1 _ _ _ _ _ _)
      | (with_reducible exact ih2 _ _ _ _ _)
      | (with_reducible exact spec_GraphOk.mono _ _ _)
      | (with_reducible exact spec_l08Place.mono _ _ _)
      | (with_reducible exact LeO.refl _)
      | (with_reducible exact LeO.none _)
      | (with_reducible refine LeO.ite ?_ ?_)
      | (with_reducible refine LeO.bind ?_ (fun _=>?_))
      | exact ih0 _ _ _ _
      | exact ih1 _ _ _ _ _ _
      | exact ih2 _ _ _ _ _
      | exact spec_GraphOk.mono _ _ _
      | exact spec_l08Place.mono _ _ _
      | exact LeO.none _
      | refine LeO.ite ?_ ?_
      | refine LeO.bind ?_ (fun _=>?_)
theorem spec_Induced.mono : ∀ a0 a1 a2 k,LeO (spec_Induced.f k a0 a1 a2) (spec_Induced.f (k + 1) a0 a1 a2):=by
  intro a0 a1 a2 k
  obtain ⟨ih0,ih1,ih2⟩:=spec_Induced.mono_l k
  unfold spec_Induced.f
  repeat' first
      | (with_reducible exact ih0 _ _ _ _)
      | (with_reducible exact ih1 _ _ _ _ _ _)
      | (with_reducible exact ih2 _ _ _ _ _)
      | (with_reducible exact spec_GraphOk.mono _ _ _)
      | (with_reducible exact spec_l08Place.mono _ _ _)
      | (with_reducible exact LeO.refl _)
      | (with_reducible exact LeO.none _)
      | (with_reducible refine LeO.ite ?_ ?_)
      | (with_reducible refine LeO.bind ?_ (fun _=>?_))
      | exact ih0 _ _ _ _
      | exact ih1 _ _ _ _ _ _
      | exact ih2 _ _ _ _ _
      | exact spec_GraphOk.mono _ _ _
      | exact spec_l08Place.mono _ _ _
      | exact LeO.none _
      | refine LeO.ite ?_ ?_
      | refine LeO.bind ?_ (fun _=>?_)
set_option maxHeartbeats 8000000 in
set_option maxRecDepth 100000 in
theorem spec_Induced.calls (k : Nat) (a0_0 : Int) (A0_1 : Option Addr) (c0_1 : Nat) (l0_1 : List (S148)) (A1 : Option Addr) (c1 : Nat) (l1 : List Int) (r1 : Int) (r2 : List (S148)) (r3 : Bool) (w : World) (hr0_1 : Kd.C k148 w A0_1 l0_1.length l0_1) (hc0_1 : l0_1.length ≤ c0_1) (hr1 : Kd.C (Kd.int .i64) w A1 l1.length l1) (hc1 : l1.length ≤ c1) (h : spec_Induced.f k a0_0 l0_1 l1 = some (r1,r2,r3)) :
    Calls Try.prog 41 #[.agg #[.int .i64 a0_0,.slice A0_1 l0_1.length c0_1],.slice A1 l1.length c1] w fun e w'=>∃ v1_ : Value,e = .returned (.tuple #[.agg #[.int .i64 r1,v1_],.bool r3]) ∧ Kd.R k148 148 w' w.heap.size (fun _=>True) v1_ r2 ∧ Below w.heap.size w w':=by
  have hu56:=Try.underlying56
  have hu148:=Try.underlying148
  have HR0_1:=qn.mk hr0_1
  have HC0_1:=qn.mk hc0_1
  clear hr0_1 hc0_1
  have HR1:=qn.mk hr1
  have HC1:=qn.mk hc1
  clear hr1 hc1
  have HB:=qn.mk (Below.refl w.heap.size w)
  have H : ((spec_GraphOk.f k a0_0 l0_1).bind fun t144=>(spec_Induced.l0 k l1 t144 0 a0_0 l0_1)) = some (r1,r2,r3):=h
  clear h
  replace H:=Option.bind_eq_some_iff.mp H
  obtain ⟨t144,A30,H⟩:=H
  replace H : (spec_Induced.l0 k l1 t144 0 a0_0 l0_1) = some (r1,r2,r3):=H
  have A3:=qn.mk A30
  clear A30
  have HC4:=qn.mk H
  clear H
  go_enter Try.func41,Try.ntmps41
  go_upto_block 0 with (first|((with_reducible refine gate_dst (N:=2) rfl ?_);refine box_event ?hg (N:=2) ?hd (cs:=#[.int .i64 a0_0,.slice A0_1 l0_1.length c0_1]) (t:=56) ?hr ?_;(case hd=>rfl);(case hg=>rfl);(case hr=>first|(go_simp;done)|(go_simp;rfl));intro gb142 hg w5 hbox hb;have n0_:=hs_ HB hb;have n1_:=qn.mk (hbox);have n2_:=qn.mk ((by rw [hg];exact (qj (by repeat (first|(with_reducible first|exact HB.out|apply qf|apply qa|apply qd)|exact HB.out))) : w.heap.size ≤ gb142));have n3_:=qn.mk ((by rw [hg];exact (qj (by repeat (first|(with_reducible first|exact HB.out|apply qf|apply qa|apply qd)|exact HB.out))) : w.heap.size ≤ gb142));clear HB;have HB:=n0_;have BK142:=n1_;have GW142:=n2_;have GE142:=n3_;clear n0_ n1_ n2_ n3_;clear hb hbox hg)|((with_reducible refine gate_dst (N:=4) rfl ?_);refine box_event ?hg (N:=4) ?hd (cs:=#[.int .i64 0,.slice none 0 0]) (t:=56) ?hr ?_;(case hd=>rfl);(case hg=>rfl);(case hr=>first|(go_simp;done)|(go_simp;rfl));intro gb143 hg w6 hbox hb;have n0_:=bb_ BK142 hb;have n1_:=hs_ HB hb;have n2_:=qn.mk (hbox);have n3_:=qn.mk ((by rw [hg];exact (qj (by repeat (first|(with_reducible first|exact HB.out|apply qf|apply qa|apply qd|refine qg ?_ GE142.out)|exact HB.out))) : w.heap.size ≤ gb143));have n4_:=qn.mk ((by rw [hg];exact (qj (by repeat (first|(with_reducible first|exact HB.out|apply qf|apply qa|apply qd|refine qg ?_ GE142.out)|exact HB.out))) : w.heap.size ≤ gb143));have n5_:=qn.mk ((by rw [hg];exact nl_ BK142 : gb142 ≠ gb143));have n6_:=qn.mk ((by rw [hg];exact ng_ BK142 : gb143 ≠ gb142));clear BK142;clear HB;have BK142:=n0_;have HB:=n1_;have BK143:=n2_;have GW143:=n3_;have GE143:=n4_;have NB142_143:=n5_;have NB143_142:=n6_;clear n0_ n1_ n2_ n3_ n4_ n5_ n6_;clear hb hbox hg;have hnb7:=NB142_143.out;have hnc7:=NB143_142.out;have hcz8_0 : w6.cell? ⟨gb142,0,none⟩ = some (.int .i64 a0_0):=(qh BK142.out 0).trans rfl;have hcz8_1 : w6.cell? ⟨gb142,1,none⟩ = some (.slice A0_1 l0_1.length c0_1):=(qh BK142.out 1).trans rfl;have hfz8_0:=qi BK142.out 0;have hfz8_1:=qi BK142.out 1)|(go_at_call 92;(with_reducible refine (spec_GraphOk.calls k a0_0 _ _ l0_1 t144 _ ?side1 ?side2 A3.out).mono ?_);(case side1=>repeat (first|exact (Kd.C_below HR0_1.out HB.out)|(with_reducible refine Kd.C_alloc ?_ _)|(with_reducible refine Kd.C_drewN ?_ _)|(with_reducible refine Kd.C_drew ?_)));(case side2=>exact HC0_1.out);rintro e w9 ⟨rfl,hb⟩;have n0_:=bb_ BK142 hb;have n1_:=bb_ BK143 hb;have n2_:=hs_ HB hb;clear BK142;clear BK143;clear HB;have BK142:=n0_;have BK143:=n1_;have HB:=n2_;clear n0_ n1_ n2_;(try clear hb);(try clear hb2);(try clear hk);(try clear hi)))
  repeat (go_quiet (first|((with_reducible refine gate_dst (N:=2) rfl ?_);refine box_event ?hg (N:=2) ?hd (cs:=#[.int .i64 a0_0,.slice A0_1 l0_1.length c0_1]) (t:=56) ?hr ?_;(case hd=>rfl);(case hg=>rfl);(case hr=>first|(go_simp;done)|(go_simp;rfl));intro gb142 hg w5 hbox hb;have n0_:=hs_ HB hb;have n1_:=qn.mk (hbox);have n2_:=qn.mk ((by rw [hg];exact (qj (by repeat (first|(with_reducible first|exact HB.out|apply qf|apply qa|apply qd)|exact HB.out))) : w.heap.size ≤ gb142));have n3_:=qn.mk ((by rw [hg];exact (qj (by repeat (first|(with_reducible first|exact HB.out|apply qf|apply qa|apply qd)|exact HB.out))) : w.heap.size ≤ gb142));clear HB;have HB:=n0_;have BK142:=n1_;have GW142:=n2_;have GE142:=n3_;clear n0_ n1_ n2_ n3_;clear hb hbox hg)|((with_reducible refine gate_dst (N:=4) rfl ?_);refine box_event ?hg (N:=4) ?hd (cs:=#[.int .i64 0,.slice none 0 0]) (t:=56) ?hr ?_;(case hd=>rfl);(case hg=>rfl);(case hr=>first|(go_simp;done)|(go_simp;rfl));intro gb143 hg w6 hbox hb;have n0_:=bb_ BK142 hb;have n1_:=hs_ HB hb;have n2_:=qn.mk (hbox);have n3_:=qn.mk ((by rw [hg];exact (qj (by repeat (first|(with_reducible first|exact HB.out|apply qf|apply qa|apply qd|refine qg ?_ GE142.out)|exact HB.out))) : w.heap.size ≤ gb143));have n4_:=qn.mk ((by rw [hg];exact (qj (by repeat (first|(with_reducible first|exact HB.out|apply qf|apply qa|apply qd|refine qg ?_ GE142.out)|exact HB.out))) : w.heap.size ≤ gb143));have n5_:=qn.mk ((by rw [hg];exact nl_ BK142 : gb142 ≠ gb143));have n6_:=qn.mk ((by rw [hg];exact ng_ BK142 : gb143 ≠ gb142));clear BK142;clear HB;have BK142:=n0_;have HB:=n1_;have BK143:=n2_;have GW143:=n3_;have GE143:=n4_;have NB142_143:=n5_;have NB143_142:=n6_;clear n0_ n1_ n2_ n3_ n4_ n5_ n6_;clear hb hbox hg;have hnb7:=NB142_143.out;have hnc7:=NB143_142.out;have hcz8_0 : w6.cell? ⟨gb142,0,none⟩ = some (.int .i64 a0_0):=(qh BK142.out 0).trans rfl;have hcz8_1 : w6.cell? ⟨gb142,1,none⟩ = some (.slice A0_1 l0_1.length c0_1):=(qh BK142.out 1).trans rfl;have hfz8_0:=qi BK142.out 0;have hfz8_1:=qi BK142.out 1)|(go_at_call 92;(with_reducible refine (spec_GraphOk.calls k a0_0 _ _ l0_1 t144 _ ?side1 ?side2 A3.out).mono ?_);(case side1=>repeat (first|exact (Kd.C_below HR0_1.out HB.out)|(with_reducible refine Kd.C_alloc ?_ _)|(with_reducible refine Kd.C_drewN ?_ _)|(with_reducible refine Kd.C_drew ?_)));(case side2=>exact HC0_1.out);rintro e w9 ⟨rfl,hb⟩;have n0_:=bb_ BK142 hb;have n1_:=bb_ BK143 hb;have n2_:=hs_ HB hb;clear BK142;clear BK143;clear HB;have BK142:=n0_;have BK143:=n1_;have HB:=n2_;clear n0_ n1_ n2_;(try clear hb);(try clear hb2);(try clear hk);(try clear hi)));go_upto_block 0 with (first|((with_reducible refine gate_dst (N:=2) rfl ?_);refine box_event ?hg (N:=2) ?hd (cs:=#[.int .i64 a0_0,.slice A0_1 l0_1.length c0_1]) (t:=56) ?hr ?_;(case hd=>rfl);(case hg=>rfl);(case hr=>first|(go_simp;done)|(go_simp;rfl));intro gb142 hg w5 hbox hb;have n0_:=hs_ HB hb;have n1_:=qn.mk (hbox);have n2_:=qn.mk ((by rw [hg];exact (qj (by repeat (first|(with_reducible first|exact HB.out|apply qf|apply qa|apply qd)|exact HB.out))) : w.heap.size ≤ gb142));have n3_:=qn.mk ((by rw [hg];exact (qj (by repeat (first|(with_reducible first|exact HB.out|apply qf|apply qa|apply qd)|exact HB.out))) : w.heap.size ≤ gb142));clear HB;have HB:=n0_;have BK142:=n1_;have GW142:=n2_;have GE142:=n3_;clear n0_ n1_ n2_ n3_;clear hb hbox hg)|((with_reducible refine gate_dst (N:=4) rfl ?_);refine box_event ?hg (N:=4) ?hd (cs:=#[.int .i64 0,.slice none 0 0]) (t:=56) ?hr ?_;(case hd=>rfl);(case hg=>rfl);(case hr=>first|(go_simp;done)|(go_simp;rfl));intro gb143 hg w6 hbox hb;have n0_:=bb_ BK142 hb;have n1_:=hs_ HB hb;have n2_:=qn.mk (hbox);have n3_:=qn.mk ((by rw [hg];exact (qj (by repeat (first|(with_reducible first|exact HB.out|apply qf|apply qa|apply qd|refine qg ?_ GE142.out)|exact HB.out))) : w.heap.size ≤ gb143));have n4_:=qn.mk ((by rw [hg];exact (qj (by repeat (first|(with_reducible first|exact HB.out|apply qf|apply qa|apply qd|refine qg ?_ GE142.out)|exact HB.out))) : w.heap.size ≤ gb143));have n5_:=qn.mk ((by rw [hg];exact nl_ BK142 : gb142 ≠ gb143));have n6_:=qn.mk ((by rw [hg];exact ng_ BK142 : gb143 ≠ gb142));clear BK142;clear HB;have BK142:=n0_;have HB:=n1_;have BK143:=n2_;have GW143:=n3_;have GE143:=n4_;have NB142_143:=n5_;have NB143_142:=n6_;clear n0_ n1_ n2_ n3_ n4_ n5_ n6_;clear hb hbox hg;have hnb7:=NB142_143.out;have hnc7:=NB143_142.out;have hcz8_0 : w6.cell? ⟨gb142,0,none⟩ = some (.int .i64 a0_0):=(qh BK142.out 0).trans rfl;have hcz8_1 : w6.cell? ⟨gb142,1,none⟩ = some (.slice A0_1 l0_1.length c0_1):=(qh BK142.out 1).trans rfl;have hfz8_0:=qi BK142.out 0;have hfz8_1:=qi BK142.out 1)|(go_at_call 92;(with_reducible refine (spec_GraphOk.calls k a0_0 _ _ l0_1 t144 _ ?side1 ?side2 A3.out).mono ?_);(case side1=>repeat (first|exact (Kd.C_below HR0_1.out HB.out)|(with_reducible refine Kd.C_alloc ?_ _)|(with_reducible refine Kd.C_drewN ?_ _)|(with_reducible refine Kd.C_drew ?_)));(case side2=>exact HC0_1.out);rintro e w9 ⟨rfl,hb⟩;have n0_:=bb_ BK142 hb;have n1_:=bb_ BK143 hb;have n2_:=hs_ HB hb;clear BK142;clear BK143;clear HB;have BK142:=n0_;have BK143:=n1_;have HB:=n2_;clear n0_ n1_ n2_;(try clear hb);(try clear hb2);(try clear hk);(try clear hi))))
  (try simp only [Act.put,List.setIfInBounds_toArray,List.set_cons_zero,List.set_cons_succ])
  go_cut [6] (fun v6 wc=>∃ (kq : Nat) (x6_3 : Bool),v6 = .bool x6_3 ∧ qn (spec_Induced.j1 kq l1 x6_3 a0_0 l0_1 = some (r1,r2,r3)) ∧ qn (kq ≤ k) ∧ qn (wc.heap[gb142]? = some (.cells #[.int .i64 a0_0,(.slice A0_1 l0_1.length c0_1)] 56 (0,0))) ∧ qn (wc.heap[gb143]? = some (.cells #[.int .i64 0,(.slice none 0 0)] 56 (0,0))) ∧ qn (Below w.heap.size w wc))
  case first =>
    have H:=HC4.out
    clear HC4
    have H':=qn.mk H
    clear H
    go_wp2
    repeat (go_quiet (fail);try go_wp2)
    go_loopg [6,7] k (fun kq v6 v7 w'=>∃ (x6_1 : Bool) (x7_1 : Int),v6 = .bool x6_1 ∧ v7 = .int .i64 x7_1 ∧ qn (spec_Induced.l0 kq l1 x6_1 x7_1 a0_0 l0_1 = some (r1,r2,r3)) ∧ qn (kq ≤ k) ∧ qn (w'.heap[gb142]? = some (.cells #[.int .i64 a0_0,(.slice A0_1 l0_1.length c0_1)] 56 (0,0))) ∧ qn (w'.heap[gb143]? = some (.cells #[.int .i64 0,(.slice none 0 0)] 56 (0,0))) ∧ qn (Below w.heap.size w w'))
    case atStart=>exact ⟨(t144),(0),(by first|rfl|(simp;done)|(simp [*];done)),(by first|rfl|(simp;done)|(simp [*];done)),H',⟨Nat.le_refl _⟩,⟨by (with_reducible repeat (first|refine qb ?_ _|refine qe ?_|refine qc ?_ _));exact BK142.out⟩,⟨by (with_reducible repeat (first|refine qb ?_ _|refine qe ?_|refine qc ?_ _));exact BK143.out⟩,⟨by repeat (first|(with_reducible first|exact HB.out|apply qf|apply qa|apply qd|refine qg ?_ GE142.out|refine qg ?_ GE143.out)|exact HB.out)⟩⟩
    case round =>
      clear H'
      try clear c1
      try clear p2
      try clear c4
      try clear c7
      try clear hcz8_0
      try clear hcz8_1
      try clear hfz8_0
      try clear hfz8_1
      obtain ⟨x6_1,x7_1,rfl,rfl,HA,HK1,BK142,BK143,HB⟩:=hrel
      cases gk with
      | zero=>exact absurd HA.out (by simp [spec_Induced.l0])
      | succ k1 =>
        have H:=HA.out
        clear HA
        simp only [spec_Induced.l0] at H
        by_cases c10 : x7_1 < (l1.length : Int)
        · rw [if_pos c10] at H
          have c10b0 : decide (x7_1 < (l1.length : Int)) = true:=decide_eq_true c10
          clear c10
          (first|rw [c10b0]|(simp only [i64_w,i32_w];rw [c10b0])|skip)
          by_cases c11 : x6_1 = true
          · subst c11
            have H1 : (if 0 ≤ x7_1 then ((spec_l01In.f (rd l1 x7_1) 0 (wrap64 (a0_0 - 1))).bind fun t146=>(if t146 = true then (if x7_1 = 0 then (spec_Induced.l0 k1 l1 true (wrap64 (x7_1 + 1)) a0_0 l0_1) else (if 0 ≤ (wrap64 (x7_1 - 1)) then (if (wrap64 (x7_1 - 1)) < (l1.length : Int) then (spec_Induced.l0 k1 l1 (decide ((rd l1 (wrap64 (x7_1 - 1))) < (rd l1 x7_1))) (wrap64 (x7_1 + 1)) a0_0 l0_1) else (none)) else (none))) else (spec_Induced.l0 k1 l1 false (wrap64 (x7_1 + 1)) a0_0 l0_1))) else (none)) = some (r1,r2,r3):=by rw [if_pos rfl] at H;exact H
            clear H
            have H:=H1
            clear H1
            by_cases c12 : 0 ≤ x7_1
            · rw [if_pos c12] at H
              have c12b0 : decide (0 ≤ x7_1) = true:=decide_eq_true c12
              clear c12
              replace H:=Option.bind_eq_some_iff.mp H
              obtain ⟨t146,A130,H⟩:=H
              replace H : (if t146 = true then (if x7_1 = 0 then (spec_Induced.l0 k1 l1 true (wrap64 (x7_1 + 1)) a0_0 l0_1) else (if 0 ≤ (wrap64 (x7_1 - 1)) then (if (wrap64 (x7_1 - 1)) < (l1.length : Int) then (spec_Induced.l0 k1 l1 (decide ((rd l1 (wrap64 (x7_1 - 1))) < (rd l1 x7_1))) (wrap64 (x7_1 + 1)) a0_0 l0_1) else (none)) else (none))) else (spec_Induced.l0 k1 l1 false (wrap64 (x7_1 + 1)) a0_0 l0_1)) = some (r1,r2,r3):=H
              have A13:=qn.mk A130
              clear A130
              by_cases c14 : t146 = true
              · subst c14
                have H1 : (if x7_1 = 0 then (spec_Induced.l0 k1 l1 true (wrap64 (x7_1 + 1)) a0_0 l0_1) else (if 0 ≤ (wrap64 (x7_1 - 1)) then (if (wrap64 (x7_1 - 1)) < (l1.length : Int) then (spec_Induced.l0 k1 l1 (decide ((rd l1 (wrap64 (x7_1 - 1))) < (rd l1 x7_1))) (wrap64 (x7_1 + 1)) a0_0 l0_1) else (none)) else (none))) = some (r1,r2,r3):=by rw [if_pos rfl] at H;exact H
                clear H
                have H:=H1
                clear H1
                by_cases c15 : x7_1 = 0
                · rw [if_pos c15] at H
                  have c15b0 : (x7_1 == 0) = true:=beq_iff_eq.mpr c15
                  have c15b1 : (x7_1 != 0) = false:=bne_eq_false_iff_eq.mpr c15
                  clear c15
                  have H':=qn.mk H
                  clear H
                  have p145 : 0 ≤ (x7_1 : Int):=of_decide_eq_true (by first|(with_reducible assumption)|assumption)
                  have q145 : x7_1 < (l1.length : Int):=of_decide_eq_true (by first|(with_reducible assumption)|assumption)
                  obtain ⟨ad145,e145,hx145_0⟩:=Kd.at_int HR1.out x7_1 p145 q145
                  cases e145
                  replace hx145_0:=cb_ HB hx145_0
                  replace p145:=eq_true p145
                  replace q145:=eq_true q145
                  have hnb16:=NB142_143.out
                  have hnc16:=NB143_142.out
                  have hcz17_0 : wr.cell? ⟨gb142,0,none⟩ = some (.int .i64 a0_0):=(qh BK142.out 0).trans rfl
                  have hcz17_1 : wr.cell? ⟨gb142,1,none⟩ = some (.slice A0_1 l0_1.length c0_1):=(qh BK142.out 1).trans rfl
                  have hfz17_0:=qi BK142.out 0
                  have hfz17_1:=qi BK142.out 1
                  go_wp2_with (first|(go_at_call 74;(with_reducible refine (spec_l01In.calls (rd l1 x7_1) 0 (wrap64 (a0_0 - 1)) true _ A13.out).mono ?_);rintro e w' ⟨rfl,⟨nd,rfl⟩⟩;(try first|exact ⟨rfl,_,World.drewN_drewN _ _ _⟩|exact ⟨rfl,_,Eq.trans (World.drewN_drewN _ _ _) (congrArg (World.drewN _) (Nat.add_assoc _ _ _))⟩)))
                  repeat (go_quiet (first|(go_at_call 74;(with_reducible refine (spec_l01In.calls (rd l1 x7_1) 0 (wrap64 (a0_0 - 1)) true _ A13.out).mono ?_);rintro e w' ⟨rfl,⟨nd,rfl⟩⟩;(try first|exact ⟨rfl,_,World.drewN_drewN _ _ _⟩|exact ⟨rfl,_,Eq.trans (World.drewN_drewN _ _ _) (congrArg (World.drewN _) (Nat.add_assoc _ _ _))⟩)));try go_wp2_with (first|(go_at_call 74;(with_reducible refine (spec_l01In.calls (rd l1 x7_1) 0 (wrap64 (a0_0 - 1)) true _ A13.out).mono ?_);rintro e w' ⟨rfl,⟨nd,rfl⟩⟩;(try first|exact ⟨rfl,_,World.drewN_drewN _ _ _⟩|exact ⟨rfl,_,Eq.trans (World.drewN_drewN _ _ _) (congrArg (World.drewN _) (Nat.add_assoc _ _ _))⟩))))
                  go_roundg k1
                  case measure=>have:=HK1.out;omega
                  case rel=>exact ⟨(true),(wrap64 (x7_1 + 1)),(by first|rfl|(simp;done)|(simp [*];done)),(by first|rfl|(simp;done)|(simp [*];done)),H',⟨by have:=HK1.out;omega⟩,⟨by (with_reducible repeat (first|refine qb ?_ _|refine qe ?_|refine qc ?_ _));exact BK142.out⟩,⟨by (with_reducible repeat (first|refine qb ?_ _|refine qe ?_|refine qc ?_ _));exact BK143.out⟩,⟨by repeat (first|(with_reducible first|exact HB.out|apply qf|apply qa|apply qd|refine qg ?_ GE142.out|refine qg ?_ GE143.out)|exact HB.out)⟩⟩
                · rw [if_neg c15] at H
                  have c15b0 : (x7_1 == 0) = false:=beq_eq_false_iff_ne.mpr c15
                  have c15b1 : (x7_1 != 0) = true:=bne_iff_ne.mpr c15
                  obtain ⟨ji18,hji18⟩ : ∃ j_ : Int,(wrap64 (x7_1 - 1)) = j_:=⟨_,rfl⟩
                  replace H : (if 0 ≤ (ji18) then (if (ji18) < (l1.length : Int) then (spec_Induced.l0 k1 l1 (decide ((rd l1 (ji18)) < (rd l1 x7_1))) (wrap64 (x7_1 + 1)) a0_0 l0_1) else (none)) else (none)) = some (r1,r2,r3):=by first|(rw [hji18] at H;exact H)|(simp only [hji18] at H ⊢;exact H)
                  (try rw [hji18] at A13)
                  have hji18w : (IntKind.i64.wrap (x7_1 - 1)) = ji18:=(i64_w _).trans hji18
                  by_cases c19 : 0 ≤ (ji18)
                  · rw [if_pos c19] at H
                    have c19b0 : decide (0 ≤ (ji18)) = true:=decide_eq_true c19
                    clear c19
                    by_cases c20 : (ji18) < (l1.length : Int)
                    · rw [if_pos c20] at H
                      have c20b0 : decide ((ji18) < (l1.length : Int)) = true:=decide_eq_true c20
                      clear c20
                      have H':=qn.mk H
                      clear H
                      have p145 : 0 ≤ (x7_1 : Int):=of_decide_eq_true (by first|(with_reducible assumption)|assumption)
                      have q145 : x7_1 < (l1.length : Int):=of_decide_eq_true (by first|(with_reducible assumption)|assumption)
                      obtain ⟨ad145,e145,hx145_0⟩:=Kd.at_int HR1.out x7_1 p145 q145
                      cases e145
                      replace hx145_0:=cb_ HB hx145_0
                      replace p145:=eq_true p145
                      replace q145:=eq_true q145
                      have hnb21:=NB142_143.out
                      have hnc21:=NB143_142.out
                      have hcz22_0 : wr.cell? ⟨gb142,0,none⟩ = some (.int .i64 a0_0):=(qh BK142.out 0).trans rfl
                      have hcz22_1 : wr.cell? ⟨gb142,1,none⟩ = some (.slice A0_1 l0_1.length c0_1):=(qh BK142.out 1).trans rfl
                      have hfz22_0:=qi BK142.out 0
                      have hfz22_1:=qi BK142.out 1
                      have p147 : 0 ≤ ((ji18) : Int):=of_decide_eq_true (by first|(with_reducible assumption)|assumption);have q147 : (ji18) < (l1.length : Int):=of_decide_eq_true (by first|(with_reducible assumption)|assumption);obtain ⟨ad147,e147,hx147_0⟩:=Kd.at_int HR1.out (ji18) p147 q147;obtain rfl : ad145 = ad147:=(by injection e147);replace hx147_0:=cb_ HB hx147_0;replace p147:=eq_true p147;replace q147:=eq_true q147;have p148 : 0 ≤ (x7_1 : Int):=of_decide_eq_true (by first|(with_reducible assumption)|assumption);have q148 : x7_1 < (l1.length : Int):=of_decide_eq_true (by first|(with_reducible assumption)|assumption);obtain ⟨ad148,e148,hx148_0⟩:=Kd.at_int HR1.out x7_1 p148 q148;obtain rfl : ad145 = ad148:=(by injection e148);replace hx148_0:=cb_ HB hx148_0;replace p148:=eq_true p148;replace q148:=eq_true q148
                      go_wp2_with (first|(go_at_call 74;(with_reducible refine (spec_l01In.calls (rd l1 x7_1) 0 (wrap64 (a0_0 - 1)) true _ A13.out).mono ?_);rintro e w' ⟨rfl,⟨nd,rfl⟩⟩;(try first|exact ⟨rfl,_,World.drewN_drewN _ _ _⟩|exact ⟨rfl,_,Eq.trans (World.drewN_drewN _ _ _) (congrArg (World.drewN _) (Nat.add_assoc _ _ _))⟩)))
                      repeat (go_quiet (first|(go_at_call 74;(with_reducible refine (spec_l01In.calls (rd l1 x7_1) 0 (wrap64 (a0_0 - 1)) true _ A13.out).mono ?_);rintro e w' ⟨rfl,⟨nd,rfl⟩⟩;(try first|exact ⟨rfl,_,World.drewN_drewN _ _ _⟩|exact ⟨rfl,_,Eq.trans (World.drewN_drewN _ _ _) (congrArg (World.drewN _) (Nat.add_assoc _ _ _))⟩)));try go_wp2_with (first|(go_at_call 74;(with_reducible refine (spec_l01In.calls (rd l1 x7_1) 0 (wrap64 (a0_0 - 1)) true _ A13.out).mono ?_);rintro e w' ⟨rfl,⟨nd,rfl⟩⟩;(try first|exact ⟨rfl,_,World.drewN_drewN _ _ _⟩|exact ⟨rfl,_,Eq.trans (World.drewN_drewN _ _ _) (congrArg (World.drewN _) (Nat.add_assoc _ _ _))⟩))))
                      go_roundg k1
                      case measure=>have:=HK1.out;omega
                      case rel=>exact ⟨(decide ((rd l1 (ji18)) < (rd l1 x7_1))),(wrap64 (x7_1 + 1)),(by first|rfl|(simp;done)|(simp only [← hji18] <;> (first|rfl|simp))|(simp [*];done)),(by first|rfl|(simp;done)|(simp [*];done)),H',⟨by have:=HK1.out;omega⟩,⟨by (with_reducible repeat (first|refine qb ?_ _|refine qe ?_|refine qc ?_ _));exact BK142.out⟩,⟨by (with_reducible repeat (first|refine qb ?_ _|refine qe ?_|refine qc ?_ _));exact BK143.out⟩,⟨by repeat (first|(with_reducible first|exact HB.out|apply qf|apply qa|apply qd|refine qg ?_ GE142.out|refine qg ?_ GE143.out)|exact HB.out)⟩⟩
                    · rw [if_neg c20] at H
                      exact absurd H (by simp)
                  · rw [if_neg c19] at H
                    exact absurd H (by simp)
              · replace c14:=Bool.eq_false_iff.mpr c14
                subst c14
                have H1 : (spec_Induced.l0 k1 l1 false (wrap64 (x7_1 + 1)) a0_0 l0_1) = some (r1,r2,r3):=by rw [if_neg (show ¬ (false = true) by decide)] at H;exact H
                clear H
                have H:=H1
                clear H1
                have H':=qn.mk H
                clear H
                have p145 : 0 ≤ (x7_1 : Int):=of_decide_eq_true (by first|(with_reducible assumption)|assumption)
                have q145 : x7_1 < (l1.length : Int):=of_decide_eq_true (by first|(with_reducible assumption)|assumption)
                obtain ⟨ad145,e145,hx145_0⟩:=Kd.at_int HR1.out x7_1 p145 q145
                cases e145
                replace hx145_0:=cb_ HB hx145_0
                replace p145:=eq_true p145
                replace q145:=eq_true q145
                have hnb23:=NB142_143.out
                have hnc23:=NB143_142.out
                have hcz24_0 : wr.cell? ⟨gb142,0,none⟩ = some (.int .i64 a0_0):=(qh BK142.out 0).trans rfl
                have hcz24_1 : wr.cell? ⟨gb142,1,none⟩ = some (.slice A0_1 l0_1.length c0_1):=(qh BK142.out 1).trans rfl
                have hfz24_0:=qi BK142.out 0
                have hfz24_1:=qi BK142.out 1
                go_wp2_with (first|(go_at_call 74;(with_reducible refine (spec_l01In.calls (rd l1 x7_1) 0 (wrap64 (a0_0 - 1)) false _ A13.out).mono ?_);rintro e w' ⟨rfl,⟨nd,rfl⟩⟩;(try first|exact ⟨rfl,_,World.drewN_drewN _ _ _⟩|exact ⟨rfl,_,Eq.trans (World.drewN_drewN _ _ _) (congrArg (World.drewN _) (Nat.add_assoc _ _ _))⟩)))
                repeat (go_quiet (first|(go_at_call 74;(with_reducible refine (spec_l01In.calls (rd l1 x7_1) 0 (wrap64 (a0_0 - 1)) false _ A13.out).mono ?_);rintro e w' ⟨rfl,⟨nd,rfl⟩⟩;(try first|exact ⟨rfl,_,World.drewN_drewN _ _ _⟩|exact ⟨rfl,_,Eq.trans (World.drewN_drewN _ _ _) (congrArg (World.drewN _) (Nat.add_assoc _ _ _))⟩)));try go_wp2_with (first|(go_at_call 74;(with_reducible refine (spec_l01In.calls (rd l1 x7_1) 0 (wrap64 (a0_0 - 1)) false _ A13.out).mono ?_);rintro e w' ⟨rfl,⟨nd,rfl⟩⟩;(try first|exact ⟨rfl,_,World.drewN_drewN _ _ _⟩|exact ⟨rfl,_,Eq.trans (World.drewN_drewN _ _ _) (congrArg (World.drewN _) (Nat.add_assoc _ _ _))⟩))))
                go_roundg k1
                case measure=>have:=HK1.out;omega
                case rel=>exact ⟨(false),(wrap64 (x7_1 + 1)),(by first|rfl|(simp;done)|(simp [*];done)),(by first|rfl|(simp;done)|(simp [*];done)),H',⟨by have:=HK1.out;omega⟩,⟨by (with_reducible repeat (first|refine qb ?_ _|refine qe ?_|refine qc ?_ _));exact BK142.out⟩,⟨by (with_reducible repeat (first|refine qb ?_ _|refine qe ?_|refine qc ?_ _));exact BK143.out⟩,⟨by repeat (first|(with_reducible first|exact HB.out|apply qf|apply qa|apply qd|refine qg ?_ GE142.out|refine qg ?_ GE143.out)|exact HB.out)⟩⟩
            · rw [if_neg c12] at H
              exact absurd H (by simp)
          · replace c11:=Bool.eq_false_iff.mpr c11
            subst c11
            have H1 : (spec_Induced.j1 k1 l1 false a0_0 l0_1) = some (r1,r2,r3):=by rw [if_neg (show ¬ (false = true) by decide)] at H;exact H
            clear H
            have H:=H1
            clear H1
            have H':=qn.mk H
            clear H
            go_wp2
            repeat (go_quiet (fail);try go_wp2)
            go_meet
            case rel=>exact ⟨_,(false),(by first|rfl|(simp;done)|(simp [*];done)),H',⟨by have:=HK1.out;first|omega|exact Nat.le_refl _⟩,⟨by (with_reducible repeat (first|refine qb ?_ _|refine qe ?_|refine qc ?_ _));exact BK142.out⟩,⟨by (with_reducible repeat (first|refine qb ?_ _|refine qe ?_|refine qc ?_ _));exact BK143.out⟩,⟨by repeat (first|(with_reducible first|exact HB.out|apply qf|apply qa|apply qd|refine qg ?_ GE142.out|refine qg ?_ GE143.out)|exact HB.out)⟩⟩
        · rw [if_neg c10] at H
          have c10b0 : decide (x7_1 < (l1.length : Int)) = false:=decide_eq_false c10
          clear c10
          (first|rw [c10b0]|(simp only [i64_w,i32_w];rw [c10b0])|skip)
          have H':=qn.mk H
          clear H
          go_wp2
          repeat (go_quiet (fail);try go_wp2)
          go_meet
          case rel=>exact ⟨_,(x6_1),(by first|rfl|(simp;done)|(simp [*];done)),H',⟨by have:=HK1.out;first|omega|exact Nat.le_refl _⟩,⟨by (with_reducible repeat (first|refine qb ?_ _|refine qe ?_|refine qc ?_ _));exact BK142.out⟩,⟨by (with_reducible repeat (first|refine qb ?_ _|refine qe ?_|refine qc ?_ _));exact BK143.out⟩,⟨by repeat (first|(with_reducible first|exact HB.out|apply qf|apply qa|apply qd|refine qg ?_ GE142.out|refine qg ?_ GE143.out)|exact HB.out)⟩⟩
  case rest =>
    clear HC4
    try clear c1
    try clear p1
    try clear q1
    try clear hx1
    try clear c2
    try clear p2
    try clear c4
    try clear p6
    try clear c7
    try clear c10
    try clear c10b0
    try clear c11
    try clear c12
    try clear c12b0
    try clear c14
    try clear p14
    try clear q14
    try clear hx14
    try clear c15
    try clear c15b0
    try clear c15b1
    try clear c16
    try clear c19
    try clear c19b0
    try clear c20
    try clear c20b0
    try clear c21
    try clear c23
    try clear hcz17_0
    try clear hcz17_1
    try clear hcz22_0
    try clear hcz22_1
    try clear hcz24_0
    try clear hcz24_1
    try clear hcz8_0
    try clear hcz8_1
    try clear hfz17_0
    try clear hfz17_1
    try clear hfz22_0
    try clear hfz22_1
    try clear hfz24_0
    try clear hfz24_1
    try clear hfz8_0
    try clear hfz8_1
    try clear hx145_0
    try clear hx147_0
    try clear hx148_0
    try clear p145
    try clear p147
    try clear p148
    try clear p2
    try clear q145
    try clear q147
    try clear q148
    obtain ⟨kq,x6_3,rfl,HA,HJ3,BK142,BK143,HB⟩:=hcut
    cases kq with
    | zero=>exact absurd HA.out (by simp [spec_Induced.j1])
    | succ kj3 =>
      have H:=HA.out
      clear HA
      simp only [spec_Induced.j1] at H
      by_cases c25 : x6_3 = true
      · subst c25
        have H1 : (spec_Induced.l1 kj3 l1 0 a0_0 l0_1 (l1.length : Int) ([] : List (S148))) = some (r1,r2,r3):=by rw [if_pos rfl] at H;exact H
        clear H
        have H:=H1
        clear H1
        have H':=qn.mk H
        clear H
        go_wp2_with (first|((with_reducible refine gate_dst (N:=8) rfl ?_);refine box_event ?hg (N:=8) ?hd (cs:=#[.int .i64 0,.slice none 0 0]) (t:=56) ?hr ?_;(case hd=>rfl);(case hg=>rfl);(case hr=>first|(go_simp;done)|(go_simp;rfl));intro gb149 hg w26 hbox hb;have n0_:=bb_ BK142 hb;have n1_:=bb_ BK143 hb;have n2_:=hs_ HB hb;have n3_:=qn.mk (hbox);have n4_:=qn.mk ((by rw [hg];exact (qj (by repeat (first|(with_reducible first|exact HB.out|apply qf|apply qa|apply qd|refine qg ?_ GE142.out|refine qg ?_ GE143.out)|exact HB.out))) : w.heap.size ≤ gb149));have n5_:=qn.mk ((by rw [hg];exact (qj (by repeat (first|(with_reducible first|exact HB.out|apply qf|apply qa|apply qd|refine qg ?_ GE142.out|refine qg ?_ GE143.out)|exact HB.out))) : w.heap.size ≤ gb149));have n6_:=qn.mk ((by rw [hg];exact nl_ BK142 : gb142 ≠ gb149));have n7_:=qn.mk ((by rw [hg];exact ng_ BK142 : gb149 ≠ gb142));have n8_:=qn.mk ((by rw [hg];exact nl_ BK143 : gb143 ≠ gb149));have n9_:=qn.mk ((by rw [hg];exact ng_ BK143 : gb149 ≠ gb143));clear BK142;clear BK143;clear HB;have BK142:=n0_;have BK143:=n1_;have HB:=n2_;have BK149:=n3_;have GW149:=n4_;have GE149:=n5_;have NB142_149:=n6_;have NB149_142:=n7_;have NB143_149:=n8_;have NB149_143:=n9_;clear n0_ n1_ n2_ n3_ n4_ n5_ n6_ n7_ n8_ n9_;clear hb hbox hg;have hnb27:=NB149_142.out;have hnc27:=NB142_149.out;have hnb28:=NB149_143.out;have hnc28:=NB143_149.out;have hcz29_0 : w26.cell? ⟨gb149,0,none⟩ = some (.int .i64 0):=(qh BK149.out 0).trans rfl;have hcz29_1 : w26.cell? ⟨gb149,1,none⟩ = some (.slice none 0 0):=(qh BK149.out 1).trans rfl;have hfz29_0:=qi BK149.out 0;have hfz29_1:=qi BK149.out 1))
        repeat (go_quiet (first|((with_reducible refine gate_dst (N:=8) rfl ?_);refine box_event ?hg (N:=8) ?hd (cs:=#[.int .i64 0,.slice none 0 0]) (t:=56) ?hr ?_;(case hd=>rfl);(case hg=>rfl);(case hr=>first|(go_simp;done)|(go_simp;rfl));intro gb149 hg w26 hbox hb;have n0_:=bb_ BK142 hb;have n1_:=bb_ BK143 hb;have n2_:=hs_ HB hb;have n3_:=qn.mk (hbox);have n4_:=qn.mk ((by rw [hg];exact (qj (by repeat (first|(with_reducible first|exact HB.out|apply qf|apply qa|apply qd|refine qg ?_ GE142.out|refine qg ?_ GE143.out)|exact HB.out))) : w.heap.size ≤ gb149));have n5_:=qn.mk ((by rw [hg];exact (qj (by repeat (first|(with_reducible first|exact HB.out|apply qf|apply qa|apply qd|refine qg ?_ GE142.out|refine qg ?_ GE143.out)|exact HB.out))) : w.heap.size ≤ gb149));have n6_:=qn.mk ((by rw [hg];exact nl_ BK142 : gb142 ≠ gb149));have n7_:=qn.mk ((by rw [hg];exact ng_ BK142 : gb149 ≠ gb142));have n8_:=qn.mk ((by rw [hg];exact nl_ BK143 : gb143 ≠ gb149));have n9_:=qn.mk ((by rw [hg];exact ng_ BK143 : gb149 ≠ gb143));clear BK142;clear BK143;clear HB;have BK142:=n0_;have BK143:=n1_;have HB:=n2_;have BK149:=n3_;have GW149:=n4_;have GE149:=n5_;have NB142_149:=n6_;have NB149_142:=n7_;have NB143_149:=n8_;have NB149_143:=n9_;clear n0_ n1_ n2_ n3_ n4_ n5_ n6_ n7_ n8_ n9_;clear hb hbox hg;have hnb27:=NB149_142.out;have hnc27:=NB142_149.out;have hnb28:=NB149_143.out;have hnc28:=NB143_149.out;have hcz29_0 : w26.cell? ⟨gb149,0,none⟩ = some (.int .i64 0):=(qh BK149.out 0).trans rfl;have hcz29_1 : w26.cell? ⟨gb149,1,none⟩ = some (.slice none 0 0):=(qh BK149.out 1).trans rfl;have hfz29_0:=qi BK149.out 0;have hfz29_1:=qi BK149.out 1));try go_wp2_with (first|((with_reducible refine gate_dst (N:=8) rfl ?_);refine box_event ?hg (N:=8) ?hd (cs:=#[.int .i64 0,.slice none 0 0]) (t:=56) ?hr ?_;(case hd=>rfl);(case hg=>rfl);(case hr=>first|(go_simp;done)|(go_simp;rfl));intro gb149 hg w26 hbox hb;have n0_:=bb_ BK142 hb;have n1_:=bb_ BK143 hb;have n2_:=hs_ HB hb;have n3_:=qn.mk (hbox);have n4_:=qn.mk ((by rw [hg];exact (qj (by repeat (first|(with_reducible first|exact HB.out|apply qf|apply qa|apply qd|refine qg ?_ GE142.out|refine qg ?_ GE143.out)|exact HB.out))) : w.heap.size ≤ gb149));have n5_:=qn.mk ((by rw [hg];exact (qj (by repeat (first|(with_reducible first|exact HB.out|apply qf|apply qa|apply qd|refine qg ?_ GE142.out|refine qg ?_ GE143.out)|exact HB.out))) : w.heap.size ≤ gb149));have n6_:=qn.mk ((by rw [hg];exact nl_ BK142 : gb142 ≠ gb149));have n7_:=qn.mk ((by rw [hg];exact ng_ BK142 : gb149 ≠ gb142));have n8_:=qn.mk ((by rw [hg];exact nl_ BK143 : gb143 ≠ gb149));have n9_:=qn.mk ((by rw [hg];exact ng_ BK143 : gb149 ≠ gb143));clear BK142;clear BK143;clear HB;have BK142:=n0_;have BK143:=n1_;have HB:=n2_;have BK149:=n3_;have GW149:=n4_;have GE149:=n5_;have NB142_149:=n6_;have NB149_142:=n7_;have NB143_149:=n8_;have NB149_143:=n9_;clear n0_ n1_ n2_ n3_ n4_ n5_ n6_ n7_ n8_ n9_;clear hb hbox hg;have hnb27:=NB149_142.out;have hnc27:=NB142_149.out;have hnb28:=NB149_143.out;have hnc28:=NB143_149.out;have hcz29_0 : w26.cell? ⟨gb149,0,none⟩ = some (.int .i64 0):=(qh BK149.out 0).trans rfl;have hcz29_1 : w26.cell? ⟨gb149,1,none⟩ = some (.slice none 0 0):=(qh BK149.out 1).trans rfl;have hfz29_0:=qi BK149.out 0;have hfz29_1:=qi BK149.out 1)))
        go_loopg [9] kj3 (fun kq v9 w'=>∃ (x9_2 : Int) (x150001_2 : List (S148)) (u150001 : Value),v9 = .int .i64 x9_2 ∧ qn (spec_Induced.l1 kq l1 x9_2 a0_0 l0_1 (l1.length : Int) x150001_2 = some (r1,r2,r3)) ∧ qn (kq ≤ kj3) ∧ qn (Kd.R k148 148 w' w.heap.size (fun _=>True) u150001 x150001_2) ∧ qn (w'.heap[gb142]? = some (.cells #[.int .i64 a0_0,(.slice A0_1 l0_1.length c0_1)] 56 (0,0))) ∧ qn (w'.heap[gb143]? = some (.cells #[.int .i64 0,(.slice none 0 0)] 56 (0,0))) ∧ qn (w'.heap[gb149]? = some (.cells #[.int .i64 (l1.length : Int),u150001] 56 (0,0))) ∧ qn (Below w.heap.size w w'))
        case atStart=>exact ⟨(0),(([] : List (S148))),(.slice none 0 0),(by first|rfl|(simp;done)|(simp [*];done)),H',⟨Nat.le_refl _⟩,⟨by first|exact Kd.R_nil _ _ _ _ _|exact Kd.N_nil _ _ _ _ _|exact Kd.V_nil _ _ _ _ _|exact Kd.Q_nil _ _ _ _ _|exact Kd.S_nil _ _ _ _ _⟩,⟨by (with_reducible repeat (first|refine qb ?_ _|refine qe ?_|refine qc ?_ _));refine blk_far ?_ NB142_149.out _;(with_reducible repeat (first|refine qb ?_ _|refine qe ?_|refine qc ?_ _));refine blk_far ?_ NB142_149.out _;(with_reducible repeat (first|refine qb ?_ _|refine qe ?_|refine qc ?_ _));exact BK142.out⟩,⟨by (with_reducible repeat (first|refine qb ?_ _|refine qe ?_|refine qc ?_ _));refine blk_far ?_ NB143_149.out _;(with_reducible repeat (first|refine qb ?_ _|refine qe ?_|refine qc ?_ _));refine blk_far ?_ NB143_149.out _;(with_reducible repeat (first|refine qb ?_ _|refine qe ?_|refine qc ?_ _));exact BK143.out⟩,⟨by (with_reducible repeat (first|refine qb ?_ _|refine qe ?_|refine qc ?_ _));refine blk_put (cs:=#[.int .i64 (l1.length : Int),.slice none 0 0]) ?_ 1 _ rfl;(with_reducible repeat (first|refine qb ?_ _|refine qe ?_|refine qc ?_ _));refine blk_put (cs:=#[.int .i64 0,.slice none 0 0]) ?_ 0 _ rfl;(with_reducible repeat (first|refine qb ?_ _|refine qe ?_|refine qc ?_ _));exact BK149.out⟩,⟨by repeat (first|(with_reducible first|exact HB.out|apply qf|apply qa|apply qd|refine qg ?_ GE142.out|refine qg ?_ GE143.out|refine qg ?_ GE149.out)|exact HB.out)⟩⟩
        case round =>
          clear H'
          try clear c1
          try clear p1
          try clear q1
          try clear hx1
          try clear c2
          try clear p2
          try clear c4
          try clear p6
          try clear c7
          try clear c10
          try clear c10b0
          try clear c11
          try clear c12
          try clear c12b0
          try clear c14
          try clear p14
          try clear q14
          try clear hx14
          try clear c15
          try clear c15b0
          try clear c15b1
          try clear c16
          try clear c19
          try clear c19b0
          try clear c20
          try clear c20b0
          try clear c21
          try clear c23
          try clear c25
          try clear c27
          try clear c28
          try clear hcz17_0
          try clear hcz17_1
          try clear hcz22_0
          try clear hcz22_1
          try clear hcz24_0
          try clear hcz24_1
          try clear hcz29_0
          try clear hcz29_1
          try clear hcz8_0
          try clear hcz8_1
          try clear hfz17_0
          try clear hfz17_1
          try clear hfz22_0
          try clear hfz22_1
          try clear hfz24_0
          try clear hfz24_1
          try clear hfz29_0
          try clear hfz29_1
          try clear hfz8_0
          try clear hfz8_1
          try clear hx145_0
          try clear hx147_0
          try clear hx148_0
          try clear p1
          try clear p14
          try clear p145
          try clear p147
          try clear p148
          try clear p2
          try clear p6
          try clear q1
          try clear q14
          try clear q145
          try clear q147
          try clear q148
          obtain ⟨x9_2,x150001_2,u150001,rfl,HA,HK2,HO_150001,BK142,BK143,BK149,HB⟩:=hrel
          cases gk with
          | zero=>exact absurd HA.out (by simp [spec_Induced.l1])
          | succ k2 =>
            have H:=HA.out
            clear HA
            simp only [spec_Induced.l1] at H
            by_cases c30 : x9_2 < (l0_1.length : Int)
            · rw [if_pos c30] at H
              have c30b0 : decide (x9_2 < (l0_1.length : Int)) = true:=decide_eq_true c30
              clear c30
              by_cases c31 : 0 ≤ x9_2
              · rw [if_pos c31] at H
                have c31b0 : decide (0 ≤ x9_2) = true:=decide_eq_true c31
                clear c31
                replace H:=Option.bind_eq_some_iff.mp H
                obtain ⟨t152,A320,H⟩:=H
                replace H : ((spec_l08Place.f k2 l1 ((rd_T148 l0_1 x9_2).f1)).bind fun t153=>(if t152 ≥ 0 then (if t153 ≥ 0 then (if x150001_2.length < 3518437208883 then (spec_Induced.l1 k2 l1 (wrap64 (x9_2 + 1)) a0_0 l0_1 (l1.length : Int) (x150001_2 ++ [(⟨t152,t153,(rd_T148 l0_1 x9_2).f2,(rd_T148 l0_1 x9_2).f3,(rd_T148 l0_1 x9_2).f4⟩ : S148)])) else (none)) else (spec_Induced.l1 k2 l1 (wrap64 (x9_2 + 1)) a0_0 l0_1 (l1.length : Int) x150001_2)) else (spec_Induced.l1 k2 l1 (wrap64 (x9_2 + 1)) a0_0 l0_1 (l1.length : Int) x150001_2))) = some (r1,r2,r3):=H
                have A32:=qn.mk A320
                clear A320
                replace H:=Option.bind_eq_some_iff.mp H
                obtain ⟨t153,A330,H⟩:=H
                replace H : (if t152 ≥ 0 then (if t153 ≥ 0 then (if x150001_2.length < 3518437208883 then (spec_Induced.l1 k2 l1 (wrap64 (x9_2 + 1)) a0_0 l0_1 (l1.length : Int) (x150001_2 ++ [(⟨t152,t153,(rd_T148 l0_1 x9_2).f2,(rd_T148 l0_1 x9_2).f3,(rd_T148 l0_1 x9_2).f4⟩ : S148)])) else (none)) else (spec_Induced.l1 k2 l1 (wrap64 (x9_2 + 1)) a0_0 l0_1 (l1.length : Int) x150001_2)) else (spec_Induced.l1 k2 l1 (wrap64 (x9_2 + 1)) a0_0 l0_1 (l1.length : Int) x150001_2)) = some (r1,r2,r3):=H
                have A33:=qn.mk A330
                clear A330
                by_cases c34 : t152 ≥ 0
                · rw [if_pos c34] at H
                  have c34b0 : decide (0 ≤ t152) = true:=decide_eq_true c34
                  clear c34
                  by_cases c35 : t153 ≥ 0
                  · rw [if_pos c35] at H
                    have c35b0 : decide (0 ≤ t153) = true:=decide_eq_true c35
                    clear c35
                    by_cases c36 : x150001_2.length < 3518437208883
                    · rw [if_pos c36] at H
                      have LMc36:=qn.mk c36
                      clear c36
                      obtain ⟨y154,hy154⟩ : ∃ y_ : List (S148),y_ = (x150001_2 ++ [(⟨t152,t153,(rd_T148 l0_1 x9_2).f2,(rd_T148 l0_1 x9_2).f3,(rd_T148 l0_1 x9_2).f4⟩ : S148)]):=⟨_,rfl⟩
                      replace H : (spec_Induced.l1 k2 l1 (wrap64 (x9_2 + 1)) a0_0 l0_1 (l1.length : Int) y154) = some (r1,r2,r3):=by first|(rw [hy154];with_reducible exact H)|(have H2_:=(Option.bind_some _ _).symm.trans H;rw [hy154];with_reducible exact H2_)|(have H2_:=(Option.bind_some _ _).symm.trans H;with_reducible exact H2_)|with_reducible exact H|(rw [hy154];exact H)|exact H
                      have Ny154:=qn.mk hy154
                      clear hy154
                      have H':=qn.mk H
                      clear H
                      have hnb37:=NB142_143.out
                      have hnc37:=NB143_142.out
                      have hnb38:=NB142_149.out
                      have hnc38:=NB149_142.out
                      have hcz39_0 : wr.cell? ⟨gb142,0,none⟩ = some (.int .i64 a0_0):=(qh BK142.out 0).trans rfl
                      have hcz39_1 : wr.cell? ⟨gb142,1,none⟩ = some (.slice A0_1 l0_1.length c0_1):=(qh BK142.out 1).trans rfl
                      have hfz39_0:=qi BK142.out 0
                      have hfz39_1:=qi BK142.out 1
                      have p150 : 0 ≤ (x9_2 : Int):=of_decide_eq_true (by first|(with_reducible assumption)|assumption)
                      have q150 : x9_2 < (l0_1.length : Int):=of_decide_eq_true (by first|(with_reducible assumption)|assumption)
                      obtain ⟨ad150,e150,hx150_0,hx150_1,hx150_2,hx150_3,hx150_4⟩:=at_T148 HR0_1.out x9_2 p150 q150
                      cases e150
                      replace hx150_0:=cb_ HB hx150_0
                      replace hx150_1:=cb_ HB hx150_1
                      replace hx150_2:=cb_ HB hx150_2
                      replace hx150_3:=cb_ HB hx150_3
                      replace hx150_4:=cb_ HB hx150_4
                      replace p150:=eq_true p150
                      replace q150:=eq_true q150
                      go_upto_region 17 with (first|((with_reducible refine gate_dst (N:=10) rfl ?_);refine box_event ?hg (N:=10) ?hd (cs:=#[.int .i64 0,.int .i64 0,.int .i64 0,.int .i64 0,.int .i64 0]) (t:=148) ?hr ?_;(case hd=>rfl);(case hg=>rfl);(case hr=>first|(go_simp;done)|(go_simp;rfl));intro gb151 hg w40 hbox hb;have n0_:=qn.mk (Kd.R_below (Kd.R_elderB (by (with_reducible repeat (first|apply Kd.R_alloc|apply Kd.R_drewN|apply Kd.R_drew));exact HO_150001.out) gb151 (Nat.le_of_eq hg.symm)) hb);have n1_:=bb_ BK142 hb;have n2_:=bb_ BK143 hb;have n3_:=bb_ BK149 hb;have n4_:=hs_ HB hb;have n5_:=qn.mk (hbox);have n6_:=qn.mk ((by rw [hg];exact (qj (by repeat (first|(with_reducible first|exact HB.out|apply qf|apply qa|apply qd|refine qg ?_ GE142.out|refine qg ?_ GE143.out|refine qg ?_ GE149.out)|exact HB.out))) : w.heap.size ≤ gb151));have n7_:=qn.mk ((by rw [hg];exact (qj (by repeat (first|(with_reducible first|exact HB.out|apply qf|apply qa|apply qd|refine qg ?_ GE142.out|refine qg ?_ GE143.out|refine qg ?_ GE149.out)|exact HB.out))) : w.heap.size ≤ gb151));have n8_:=qn.mk ((by rw [hg];exact nl_ BK142 : gb142 ≠ gb151));have n9_:=qn.mk ((by rw [hg];exact ng_ BK142 : gb151 ≠ gb142));have n10_:=qn.mk ((by rw [hg];exact nl_ BK143 : gb143 ≠ gb151));have n11_:=qn.mk ((by rw [hg];exact ng_ BK143 : gb151 ≠ gb143));have n12_:=qn.mk ((by rw [hg];exact nl_ BK149 : gb149 ≠ gb151));have n13_:=qn.mk ((by rw [hg];exact ng_ BK149 : gb151 ≠ gb149));clear HO_150001;clear BK142;clear BK143;clear BK149;clear HB;have HO_150001:=n0_;have BK142:=n1_;have BK143:=n2_;have BK149:=n3_;have HB:=n4_;have BK151:=n5_;have GW151:=n6_;have GE151:=n7_;have NB142_151:=n8_;have NB151_142:=n9_;have NB143_151:=n10_;have NB151_143:=n11_;have NB149_151:=n12_;have NB151_149:=n13_;clear n0_ n1_ n2_ n3_ n4_ n5_ n6_ n7_ n8_ n9_ n10_ n11_ n12_ n13_;clear hb hbox hg;have hnb41:=NB151_142.out;have hnc41:=NB142_151.out;have hnb42:=NB151_143.out;have hnc42:=NB143_151.out;have hnb43:=NB151_149.out;have hnc43:=NB149_151.out;have hcz44_0 : w40.cell? ⟨gb151,0,none⟩ = some (.int .i64 0):=(qh BK151.out 0).trans rfl;have hcz44_1 : w40.cell? ⟨gb151,1,none⟩ = some (.int .i64 0):=(qh BK151.out 1).trans rfl;have hcz44_2 : w40.cell? ⟨gb151,2,none⟩ = some (.int .i64 0):=(qh BK151.out 2).trans rfl;have hcz44_3 : w40.cell? ⟨gb151,3,none⟩ = some (.int .i64 0):=(qh BK151.out 3).trans rfl;have hcz44_4 : w40.cell? ⟨gb151,4,none⟩ = some (.int .i64 0):=(qh BK151.out 4).trans rfl;have hfz44_0:=qi BK151.out 0;have hfz44_1:=qi BK151.out 1;have hfz44_2:=qi BK151.out 2;have hfz44_3:=qi BK151.out 3;have hfz44_4:=qi BK151.out 4)|(go_at_call 109;(with_reducible refine (spec_l08Place.calls k2 _ _ l1 ((rd_T148 l0_1 x9_2).f0) t152 _ ?side1 ?side2 A32.out).mono ?_);(case side1=>exact Kd.C_below HR1.out (by repeat (first|(with_reducible first|exact HB.out|apply qf|apply qa|apply qd|refine qg ?_ GE142.out|refine qg ?_ GE143.out|refine qg ?_ GE149.out|refine qg ?_ GE151.out)|exact HB.out)));(case side2=>exact HC1.out);rintro e w' ⟨rfl,⟨nd,rfl⟩⟩;(try first|exact ⟨rfl,_,World.drewN_drewN _ _ _⟩|exact ⟨rfl,_,Eq.trans (World.drewN_drewN _ _ _) (congrArg (World.drewN _) (Nat.add_assoc _ _ _))⟩))|(go_at_call 109;(with_reducible refine (spec_l08Place.calls k2 _ _ l1 ((rd_T148 l0_1 x9_2).f1) t153 _ ?side1 ?side2 A33.out).mono ?_);(case side1=>exact Kd.C_below HR1.out (by repeat (first|(with_reducible first|exact HB.out|apply qf|apply qa|apply qd|refine qg ?_ GE142.out|refine qg ?_ GE143.out|refine qg ?_ GE149.out|refine qg ?_ GE151.out)|exact HB.out)));(case side2=>exact HC1.out);rintro e w' ⟨rfl,⟨nd,rfl⟩⟩;(try first|exact ⟨rfl,_,World.drewN_drewN _ _ _⟩|exact ⟨rfl,_,Eq.trans (World.drewN_drewN _ _ _) (congrArg (World.drewN _) (Nat.add_assoc _ _ _))⟩);have hnb45:=NB149_143.out;have hnc45:=NB143_149.out;have hcz46_0 : w40.cell? ⟨gb149,0,none⟩ = some (.int .i64 (l1.length : Int)):=(qh BK149.out 0).trans rfl;have hcz46_1 : w40.cell? ⟨gb149,1,none⟩ = some (u150001):=(qh BK149.out 1).trans rfl;have hfz46_0:=qi BK149.out 0;have hfz46_1:=qi BK149.out 1))
                      (try simp only [Act.put,List.setIfInBounds_toArray,List.set_cons_zero,List.set_cons_succ])
                      go_cut [] (fun wc=>qn (wc.heap[gb142]? = some (.cells #[.int .i64 a0_0,.slice (some ad150) l0_1.length c0_1] 56 (0,0))) ∧ qn (wc.heap[gb143]? = some (.cells #[.int .i64 0,.slice none 0 0] 56 (0,0))) ∧ qn (wc.heap[gb149]? = some (.cells #[.int .i64 (l1.length : Int),u150001] 56 (0,0))) ∧ qn (wc.heap[gb151]? = some (.cells #[.int .i64 t152,.int .i64 t153,.int .i64 ((rd_T148 l0_1 x9_2).f2),.int .i64 ((rd_T148 l0_1 x9_2).f3),.int .i64 ((rd_T148 l0_1 x9_2).f4)] 148 (0,0))) ∧ qn (Below w.heap.size w wc) ∧ qn (Kd.R k148 148 wc w.heap.size (fun k_=>k_ ≠ gb151) u150001 x150001_2))
                      case first =>
                        go_wp2
                        go_meet
                        case rel=>exact ⟨⟨(by (with_reducible repeat (first|refine qb ?_ _|refine qe ?_|refine qc ?_ _));refine blk_far ?_ NB142_151.out _;(with_reducible repeat (first|refine qb ?_ _|refine qe ?_|refine qc ?_ _));refine blk_far ?_ NB142_151.out _;(with_reducible repeat (first|refine qb ?_ _|refine qe ?_|refine qc ?_ _));refine blk_far ?_ NB142_151.out _;(with_reducible repeat (first|refine qb ?_ _|refine qe ?_|refine qc ?_ _));refine blk_far ?_ NB142_151.out _;(with_reducible repeat (first|refine qb ?_ _|refine qe ?_|refine qc ?_ _));refine blk_far ?_ NB142_151.out _;(with_reducible repeat (first|refine qb ?_ _|refine qe ?_|refine qc ?_ _));refine blk_far ?_ NB142_151.out _;(with_reducible repeat (first|refine qb ?_ _|refine qe ?_|refine qc ?_ _));refine blk_far ?_ NB142_151.out _;(with_reducible repeat (first|refine qb ?_ _|refine qe ?_|refine qc ?_ _));exact BK142.out)⟩,⟨(by (with_reducible repeat (first|refine qb ?_ _|refine qe ?_|refine qc ?_ _));refine blk_far ?_ NB143_151.out _;(with_reducible repeat (first|refine qb ?_ _|refine qe ?_|refine qc ?_ _));refine blk_far ?_ NB143_151.out _;(with_reducible repeat (first|refine qb ?_ _|refine qe ?_|refine qc ?_ _));refine blk_far ?_ NB143_151.out _;(with_reducible repeat (first|refine qb ?_ _|refine qe ?_|refine qc ?_ _));refine blk_far ?_ NB143_151.out _;(with_reducible repeat (first|refine qb ?_ _|refine qe ?_|refine qc ?_ _));refine blk_far ?_ NB143_151.out _;(with_reducible repeat (first|refine qb ?_ _|refine qe ?_|refine qc ?_ _));refine blk_far ?_ NB143_151.out _;(with_reducible repeat (first|refine qb ?_ _|refine qe ?_|refine qc ?_ _));refine blk_far ?_ NB143_151.out _;(with_reducible repeat (first|refine qb ?_ _|refine qe ?_|refine qc ?_ _));exact BK143.out)⟩,⟨(by (with_reducible repeat (first|refine qb ?_ _|refine qe ?_|refine qc ?_ _));refine blk_far ?_ NB149_151.out _;(with_reducible repeat (first|refine qb ?_ _|refine qe ?_|refine qc ?_ _));refine blk_far ?_ NB149_151.out _;(with_reducible repeat (first|refine qb ?_ _|refine qe ?_|refine qc ?_ _));refine blk_far ?_ NB149_151.out _;(with_reducible repeat (first|refine qb ?_ _|refine qe ?_|refine qc ?_ _));refine blk_far ?_ NB149_151.out _;(with_reducible repeat (first|refine qb ?_ _|refine qe ?_|refine qc ?_ _));refine blk_far ?_ NB149_151.out _;(with_reducible repeat (first|refine qb ?_ _|refine qe ?_|refine qc ?_ _));refine blk_far ?_ NB149_151.out _;(with_reducible repeat (first|refine qb ?_ _|refine qe ?_|refine qc ?_ _));refine blk_far ?_ NB149_151.out _;(with_reducible repeat (first|refine qb ?_ _|refine qe ?_|refine qc ?_ _));exact BK149.out)⟩,⟨(by (with_reducible repeat (first|refine qb ?_ _|refine qe ?_|refine qc ?_ _));refine blk_put (cs:=#[.int .i64 t152,.int .i64 ((rd_T148 l0_1 x9_2).f1),.int .i64 ((rd_T148 l0_1 x9_2).f2),.int .i64 ((rd_T148 l0_1 x9_2).f3),.int .i64 ((rd_T148 l0_1 x9_2).f4)]) ?_ 1 _ rfl;(with_reducible repeat (first|refine qb ?_ _|refine qe ?_|refine qc ?_ _));refine blk_put (cs:=#[.int .i64 ((rd_T148 l0_1 x9_2).f0),.int .i64 ((rd_T148 l0_1 x9_2).f1),.int .i64 ((rd_T148 l0_1 x9_2).f2),.int .i64 ((rd_T148 l0_1 x9_2).f3),.int .i64 ((rd_T148 l0_1 x9_2).f4)]) ?_ 0 _ rfl;(with_reducible repeat (first|refine qb ?_ _|refine qe ?_|refine qc ?_ _));refine blk_put (cs:=#[.int .i64 ((rd_T148 l0_1 x9_2).f0),.int .i64 ((rd_T148 l0_1 x9_2).f1),.int .i64 ((rd_T148 l0_1 x9_2).f2),.int .i64 ((rd_T148 l0_1 x9_2).f3),.int .i64 0]) ?_ 4 _ rfl;(with_reducible repeat (first|refine qb ?_ _|refine qe ?_|refine qc ?_ _));refine blk_put (cs:=#[.int .i64 ((rd_T148 l0_1 x9_2).f0),.int .i64 ((rd_T148 l0_1 x9_2).f1),.int .i64 ((rd_T148 l0_1 x9_2).f2),.int .i64 0,.int .i64 0]) ?_ 3 _ rfl;(with_reducible repeat (first|refine qb ?_ _|refine qe ?_|refine qc ?_ _));refine blk_put (cs:=#[.int .i64 ((rd_T148 l0_1 x9_2).f0),.int .i64 ((rd_T148 l0_1 x9_2).f1),.int .i64 0,.int .i64 0,.int .i64 0]) ?_ 2 _ rfl;(with_reducible repeat (first|refine qb ?_ _|refine qe ?_|refine qc ?_ _));refine blk_put (cs:=#[.int .i64 ((rd_T148 l0_1 x9_2).f0),.int .i64 0,.int .i64 0,.int .i64 0,.int .i64 0]) ?_ 1 _ rfl;(with_reducible repeat (first|refine qb ?_ _|refine qe ?_|refine qc ?_ _));refine blk_put (cs:=#[.int .i64 0,.int .i64 0,.int .i64 0,.int .i64 0,.int .i64 0]) ?_ 0 _ rfl;(with_reducible repeat (first|refine qb ?_ _|refine qe ?_|refine qc ?_ _));exact BK151.out)⟩,⟨(by repeat (first|(with_reducible first|exact HB.out|apply qf|apply qa|apply qd|refine qg ?_ GE142.out|refine qg ?_ GE143.out|refine qg ?_ GE149.out|refine qg ?_ GE151.out)|exact HB.out))⟩,⟨(by (with_reducible repeat (first|apply Kd.R_alloc|apply Kd.R_drewN|apply Kd.R_drew));exact Kd.R_mono (Kd.R_far (p:=⟨gb151,1,none⟩) (Kd.R_far (p:=⟨gb151,0,none⟩) (Kd.R_far (p:=⟨gb151,4,none⟩) (Kd.R_far (p:=⟨gb151,3,none⟩) (Kd.R_far (p:=⟨gb151,2,none⟩) (Kd.R_far (p:=⟨gb151,1,none⟩) (Kd.R_far (p:=⟨gb151,0,none⟩) (Kd.R_mono HO_150001.out (fun k_ hk=>(⟨hk,hk.2⟩ : _ ∧ k_ ≠ gb151))) (fun _ hk=>hk.2) (.int .i64 ((rd_T148 l0_1 x9_2).f0))) (fun _ hk=>hk.2) (.int .i64 ((rd_T148 l0_1 x9_2).f1))) (fun _ hk=>hk.2) (.int .i64 ((rd_T148 l0_1 x9_2).f2))) (fun _ hk=>hk.2) (.int .i64 ((rd_T148 l0_1 x9_2).f3))) (fun _ hk=>hk.2) (.int .i64 ((rd_T148 l0_1 x9_2).f4))) (fun _ hk=>hk.2) (.int .i64 t152)) (fun _ hk=>hk.2) (.int .i64 t153)) (fun _ hk=>hk.1.2))⟩⟩
                      case rest =>
                        obtain ⟨N0_,N1_,N2_,N3_,NB_,NO_⟩:=hcut
                        clear BK142;clear BK143;clear BK149;clear BK151;clear HB;clear HO_150001
                        have BK142:=N0_
                        have BK143:=N1_
                        have BK149:=N2_
                        have BK151:=N3_
                        have HB:=NB_
                        have HO_150001:=NO_
                        clear N0_ N1_ N2_ N3_ NB_ NO_
                        have hcygb149_0 : wc.cell? ⟨gb149,0,none⟩ = some (.int .i64 (l1.length : Int)):=(qh BK149.out 0).trans rfl
                        have hcygb149_1 : wc.cell? ⟨gb149,1,none⟩ = some (u150001):=(qh BK149.out 1).trans rfl
                        have hfygb149_0:=qi BK149.out 0
                        have hfygb149_1:=qi BK149.out 1
                        have hcygb151_0 : wc.cell? ⟨gb151,0,none⟩ = some (.int .i64 t152):=(qh BK151.out 0).trans rfl
                        have hcygb151_1 : wc.cell? ⟨gb151,1,none⟩ = some (.int .i64 t153):=(qh BK151.out 1).trans rfl
                        have hcygb151_2 : wc.cell? ⟨gb151,2,none⟩ = some (.int .i64 ((rd_T148 l0_1 x9_2).f2)):=(qh BK151.out 2).trans rfl
                        have hcygb151_3 : wc.cell? ⟨gb151,3,none⟩ = some (.int .i64 ((rd_T148 l0_1 x9_2).f3)):=(qh BK151.out 3).trans rfl
                        have hcygb151_4 : wc.cell? ⟨gb151,4,none⟩ = some (.int .i64 ((rd_T148 l0_1 x9_2).f4)):=(qh BK151.out 4).trans rfl
                        have hfygb151_0:=qi BK151.out 0
                        have hfygb151_1:=qi BK151.out 1
                        have hfygb151_2:=qi BK151.out 2
                        have hfygb151_3:=qi BK151.out 3
                        have hfygb151_4:=qi BK151.out 4
                        go_wp2_with (first|((with_reducible refine gate_builtin (b:=.append) (xs:=#[.tmp 85,.tmp 87]) rfl ?_);at_builtin;refine Kd.R_append k148 (w0:=w) w.heap.size rfl (.tmp 85) (.tmp 87) 54 148 (.agg #[(.int .i64 0),(.int .i64 0),(.int .i64 0),(.int .i64 0),(.int .i64 0)]) 40 rfl Try.underlying54 info148 rfl (by decide) (by omega) u150001 x150001_2 (⟨t152,t153,(rd_T148 l0_1 x9_2).f2,(rd_T148 l0_1 x9_2).f3,(rd_T148 l0_1 x9_2).f4⟩ : S148) [.int .i64 t152,.int .i64 t153,.int .i64 ((rd_T148 l0_1 x9_2).f2),.int .i64 ((rd_T148 l0_1 x9_2).f3),.int .i64 ((rd_T148 l0_1 x9_2).f4)] (fun k_=>k_ ≠ gb151) (fun _=>False) rfl (by first|(go_simp;done)|(go_simp;rfl)) ?aP (fun _ hk=>hk.elim) ?aF ?aO ?aB ?aS ?aL ?_;(case aP=>exact k148_mkM _ _ _ (⟨t152,t153,(rd_T148 l0_1 x9_2).f2,(rd_T148 l0_1 x9_2).f3,(rd_T148 l0_1 x9_2).f4⟩ : S148));(case aB=>exact (by repeat (first|(with_reducible first|exact HB.out|apply qf|apply qa|apply qd)|exact HB.out)));(case aF=>exact (fun k_ hk=>Kd.freshB (g:=gb151) (o:=.cells #[.int .i64 t152,.int .i64 t153,.int .i64 ((rd_T148 l0_1 x9_2).f2),.int .i64 ((rd_T148 l0_1 x9_2).f3),.int .i64 ((rd_T148 l0_1 x9_2).f4)] 148 (0,0)) (by (with_reducible repeat (first|refine qb ?_ _|refine qe ?_|refine qc ?_ _));exact BK151.out) k_ hk));(case aO=>exact (by (with_reducible repeat (first|apply Kd.R_alloc|apply Kd.R_drewN|apply Kd.R_drew));exact HO_150001.out));(case aS=>exact (qj (by repeat (first|(with_reducible first|exact HB.out|apply qf|apply qa|apply qd)|exact HB.out))));(case aL=>have:=LMc36.out;omega);intro v155 w47 ho hb hg hat;rw [← Ny154.out] at ho;have n0_:=qn.mk (blk_grown (g:=gb142) (o:=.cells #[.int .i64 a0_0,.slice (some ad150) l0_1.length c0_1] 56 (0,0)) (by (with_reducible repeat (first|refine qb ?_ _|refine qe ?_|refine qc ?_ _));exact BK142.out) hg (Kd.R_ne HO_150001.out BK142.out (by decide)));have n1_:=qn.mk (blk_grown (g:=gb143) (o:=.cells #[.int .i64 0,.slice none 0 0] 56 (0,0)) (by (with_reducible repeat (first|refine qb ?_ _|refine qe ?_|refine qc ?_ _));exact BK143.out) hg (Kd.R_ne HO_150001.out BK143.out (by decide)));have n2_:=qn.mk (blk_grown (g:=gb149) (o:=.cells #[.int .i64 (l1.length : Int),u150001] 56 (0,0)) (by (with_reducible repeat (first|refine qb ?_ _|refine qe ?_|refine qc ?_ _));exact BK149.out) hg (Kd.R_ne HO_150001.out BK149.out (by decide)));have n3_:=qn.mk (blk_grown (g:=gb151) (o:=.cells #[.int .i64 t152,.int .i64 t153,.int .i64 ((rd_T148 l0_1 x9_2).f2),.int .i64 ((rd_T148 l0_1 x9_2).f3),.int .i64 ((rd_T148 l0_1 x9_2).f4)] 148 (0,0)) (by (with_reducible repeat (first|refine qb ?_ _|refine qe ?_|refine qc ?_ _));exact BK151.out) hg (Kd.R_away HO_150001.out (fun _ hk=>hk)));have n4_:=qn.mk (hb);have n5_:=qn.mk (ho);clear BK142;clear BK143;clear BK149;clear BK151;clear HB;clear HO_150001;have BK142:=n0_;have BK143:=n1_;have BK149:=n2_;have BK151:=n3_;have HB:=n4_;have HO156:=n5_;clear n0_ n1_ n2_ n3_ n4_ n5_;clear ho hb hg hat;obtain ⟨Ao48,co48,eo48⟩:=Kd.R_slice HO156.out;subst eo48;have hcz49_0 : w47.cell? ⟨gb149,0,none⟩ = some (.int .i64 (l1.length : Int)):=(qh BK149.out 0).trans rfl;have hcz49_1 : w47.cell? ⟨gb149,1,none⟩ = some (u150001):=(qh BK149.out 1).trans rfl;have hfz49_0:=qi BK149.out 0;have hfz49_1:=qi BK149.out 1))
                        go_roundg k2
                        case measure=>have:=HJ3.out;have:=HK2.out;omega
                        case rel=>exact ⟨(wrap64 (x9_2 + 1)),(y154),(.slice Ao48 y154.length co48),(by first|rfl|(simp;done)|(simp [*];done)),H',⟨by have:=HJ3.out;have:=HK2.out;omega⟩,⟨by (with_reducible repeat (first|apply Kd.R_alloc|apply Kd.R_drewN|apply Kd.R_drew));exact Kd.R_mono (Kd.R_far (p:=⟨gb149,1,none⟩) (Kd.R_types HO156.out BK149.out (by decide)) (fun _ hk=>hk.2) (.slice Ao48 y154.length co48)) (fun _ hk=>trivial)⟩,⟨by (with_reducible repeat (first|refine qb ?_ _|refine qe ?_|refine qc ?_ _));refine blk_far ?_ NB142_149.out _;(with_reducible repeat (first|refine qb ?_ _|refine qe ?_|refine qc ?_ _));exact BK142.out⟩,⟨by (with_reducible repeat (first|refine qb ?_ _|refine qe ?_|refine qc ?_ _));refine blk_far ?_ NB143_149.out _;(with_reducible repeat (first|refine qb ?_ _|refine qe ?_|refine qc ?_ _));exact BK143.out⟩,⟨by (with_reducible repeat (first|refine qb ?_ _|refine qe ?_|refine qc ?_ _));refine blk_put (cs:=#[.int .i64 (l1.length : Int),u150001]) ?_ 1 _ rfl;(with_reducible repeat (first|refine qb ?_ _|refine qe ?_|refine qc ?_ _));exact BK149.out⟩,⟨by repeat (first|(with_reducible first|exact HB.out|apply qf|apply qa|apply qd|refine qg ?_ GE142.out|refine qg ?_ GE143.out|refine qg ?_ GE149.out|refine qg ?_ GE151.out)|exact HB.out)⟩⟩
                    · rw [if_neg c36] at H
                      exact absurd H (by simp)
                  · rw [if_neg c35] at H
                    have c35b0 : decide (0 ≤ t153) = false:=decide_eq_false c35
                    clear c35
                    have H':=qn.mk H
                    clear H
                    have hnb50:=NB142_143.out
                    have hnc50:=NB143_142.out
                    have hnb51:=NB142_149.out
                    have hnc51:=NB149_142.out
                    have hcz52_0 : wr.cell? ⟨gb142,0,none⟩ = some (.int .i64 a0_0):=(qh BK142.out 0).trans rfl
                    have hcz52_1 : wr.cell? ⟨gb142,1,none⟩ = some (.slice A0_1 l0_1.length c0_1):=(qh BK142.out 1).trans rfl
                    have hfz52_0:=qi BK142.out 0
                    have hfz52_1:=qi BK142.out 1
                    have p150 : 0 ≤ (x9_2 : Int):=of_decide_eq_true (by first|(with_reducible assumption)|assumption)
                    have q150 : x9_2 < (l0_1.length : Int):=of_decide_eq_true (by first|(with_reducible assumption)|assumption)
                    obtain ⟨ad150,e150,hx150_0,hx150_1,hx150_2,hx150_3,hx150_4⟩:=at_T148 HR0_1.out x9_2 p150 q150
                    cases e150
                    replace hx150_0:=cb_ HB hx150_0
                    replace hx150_1:=cb_ HB hx150_1
                    replace hx150_2:=cb_ HB hx150_2
                    replace hx150_3:=cb_ HB hx150_3
                    replace hx150_4:=cb_ HB hx150_4
                    replace p150:=eq_true p150
                    replace q150:=eq_true q150
                    go_wp2_with (first|((with_reducible refine gate_dst (N:=10) rfl ?_);refine box_event ?hg (N:=10) ?hd (cs:=#[.int .i64 0,.int .i64 0,.int .i64 0,.int .i64 0,.int .i64 0]) (t:=148) ?hr ?_;(case hd=>rfl);(case hg=>rfl);(case hr=>first|(go_simp;done)|(go_simp;rfl));intro gb151 hg w53 hbox hb;have n0_:=qn.mk (Kd.R_below (Kd.R_elderB (by (with_reducible repeat (first|apply Kd.R_alloc|apply Kd.R_drewN|apply Kd.R_drew));exact HO_150001.out) gb151 (Nat.le_of_eq hg.symm)) hb);have n1_:=bb_ BK142 hb;have n2_:=bb_ BK143 hb;have n3_:=bb_ BK149 hb;have n4_:=hs_ HB hb;have n5_:=qn.mk (hbox);have n6_:=qn.mk ((by rw [hg];exact (qj (by repeat (first|(with_reducible first|exact HB.out|apply qf|apply qa|apply qd|refine qg ?_ GE142.out|refine qg ?_ GE143.out|refine qg ?_ GE149.out)|exact HB.out))) : w.heap.size ≤ gb151));have n7_:=qn.mk ((by rw [hg];exact (qj (by repeat (first|(with_reducible first|exact HB.out|apply qf|apply qa|apply qd|refine qg ?_ GE142.out|refine qg ?_ GE143.out|refine qg ?_ GE149.out)|exact HB.out))) : w.heap.size ≤ gb151));have n8_:=qn.mk ((by rw [hg];exact nl_ BK142 : gb142 ≠ gb151));have n9_:=qn.mk ((by rw [hg];exact ng_ BK142 : gb151 ≠ gb142));have n10_:=qn.mk ((by rw [hg];exact nl_ BK143 : gb143 ≠ gb151));have n11_:=qn.mk ((by rw [hg];exact ng_ BK143 : gb151 ≠ gb143));have n12_:=qn.mk ((by rw [hg];exact nl_ BK149 : gb149 ≠ gb151));have n13_:=qn.mk ((by rw [hg];exact ng_ BK149 : gb151 ≠ gb149));clear HO_150001;clear BK142;clear BK143;clear BK149;clear HB;have HO_150001:=n0_;have BK142:=n1_;have BK143:=n2_;have BK149:=n3_;have HB:=n4_;have BK151:=n5_;have GW151:=n6_;have GE151:=n7_;have NB142_151:=n8_;have NB151_142:=n9_;have NB143_151:=n10_;have NB151_143:=n11_;have NB149_151:=n12_;have NB151_149:=n13_;clear n0_ n1_ n2_ n3_ n4_ n5_ n6_ n7_ n8_ n9_ n10_ n11_ n12_ n13_;clear hb hbox hg;have hnb54:=NB151_142.out;have hnc54:=NB142_151.out;have hnb55:=NB151_143.out;have hnc55:=NB143_151.out;have hnb56:=NB151_149.out;have hnc56:=NB149_151.out;have hcz57_0 : w53.cell? ⟨gb151,0,none⟩ = some (.int .i64 0):=(qh BK151.out 0).trans rfl;have hcz57_1 : w53.cell? ⟨gb151,1,none⟩ = some (.int .i64 0):=(qh BK151.out 1).trans rfl;have hcz57_2 : w53.cell? ⟨gb151,2,none⟩ = some (.int .i64 0):=(qh BK151.out 2).trans rfl;have hcz57_3 : w53.cell? ⟨gb151,3,none⟩ = some (.int .i64 0):=(qh BK151.out 3).trans rfl;have hcz57_4 : w53.cell? ⟨gb151,4,none⟩ = some (.int .i64 0):=(qh BK151.out 4).trans rfl;have hfz57_0:=qi BK151.out 0;have hfz57_1:=qi BK151.out 1;have hfz57_2:=qi BK151.out 2;have hfz57_3:=qi BK151.out 3;have hfz57_4:=qi BK151.out 4)|(go_at_call 109;(with_reducible refine (spec_l08Place.calls k2 _ _ l1 ((rd_T148 l0_1 x9_2).f0) t152 _ ?side1 ?side2 A32.out).mono ?_);(case side1=>exact Kd.C_below HR1.out (by repeat (first|(with_reducible first|exact HB.out|apply qf|apply qa|apply qd|refine qg ?_ GE142.out|refine qg ?_ GE143.out|refine qg ?_ GE149.out|refine qg ?_ GE151.out)|exact HB.out)));(case side2=>exact HC1.out);rintro e w' ⟨rfl,⟨nd,rfl⟩⟩;(try first|exact ⟨rfl,_,World.drewN_drewN _ _ _⟩|exact ⟨rfl,_,Eq.trans (World.drewN_drewN _ _ _) (congrArg (World.drewN _) (Nat.add_assoc _ _ _))⟩))|(go_at_call 109;(with_reducible refine (spec_l08Place.calls k2 _ _ l1 ((rd_T148 l0_1 x9_2).f1) t153 _ ?side1 ?side2 A33.out).mono ?_);(case side1=>exact Kd.C_below HR1.out (by repeat (first|(with_reducible first|exact HB.out|apply qf|apply qa|apply qd|refine qg ?_ GE142.out|refine qg ?_ GE143.out|refine qg ?_ GE149.out|refine qg ?_ GE151.out)|exact HB.out)));(case side2=>exact HC1.out);rintro e w' ⟨rfl,⟨nd,rfl⟩⟩;(try first|exact ⟨rfl,_,World.drewN_drewN _ _ _⟩|exact ⟨rfl,_,Eq.trans (World.drewN_drewN _ _ _) (congrArg (World.drewN _) (Nat.add_assoc _ _ _))⟩)))
                    repeat (go_quiet (first|((with_reducible refine gate_dst (N:=10) rfl ?_);refine box_event ?hg (N:=10) ?hd (cs:=#[.int .i64 0,.int .i64 0,.int .i64 0,.int .i64 0,.int .i64 0]) (t:=148) ?hr ?_;(case hd=>rfl);(case hg=>rfl);(case hr=>first|(go_simp;done)|(go_simp;rfl));intro gb151 hg w53 hbox hb;have n0_:=qn.mk (Kd.R_below (Kd.R_elderB (by (with_reducible repeat (first|apply Kd.R_alloc|apply Kd.R_drewN|apply Kd.R_drew));exact HO_150001.out) gb151 (Nat.le_of_eq hg.symm)) hb);have n1_:=bb_ BK142 hb;have n2_:=bb_ BK143 hb;have n3_:=bb_ BK149 hb;have n4_:=hs_ HB hb;have n5_:=qn.mk (hbox);have n6_:=qn.mk ((by rw [hg];exact (qj (by repeat (first|(with_reducible first|exact HB.out|apply qf|apply qa|apply qd|refine qg ?_ GE142.out|refine qg ?_ GE143.out|refine qg ?_ GE149.out)|exact HB.out))) : w.heap.size ≤ gb151));have n7_:=qn.mk ((by rw [hg];exact (qj (by repeat (first|(with_reducible first|exact HB.out|apply qf|apply qa|apply qd|refine qg ?_ GE142.out|refine qg ?_ GE143.out|refine qg ?_ GE149.out)|exact HB.out))) : w.heap.size ≤ gb151));have n8_:=qn.mk ((by rw [hg];exact nl_ BK142 : gb142 ≠ gb151));have n9_:=qn.mk ((by rw [hg];exact ng_ BK142 : gb151 ≠ gb142));have n10_:=qn.mk ((by rw [hg];exact nl_ BK143 : gb143 ≠ gb151));have n11_:=qn.mk ((by rw [hg];exact ng_ BK143 : gb151 ≠ gb143));have n12_:=qn.mk ((by rw [hg];exact nl_ BK149 : gb149 ≠ gb151));have n13_:=qn.mk ((by rw [hg];exact ng_ BK149 : gb151 ≠ gb149));clear HO_150001;clear BK142;clear BK143;clear BK149;clear HB;have HO_150001:=n0_;have BK142:=n1_;have BK143:=n2_;have BK149:=n3_;have HB:=n4_;have BK151:=n5_;have GW151:=n6_;have GE151:=n7_;have NB142_151:=n8_;have NB151_142:=n9_;have NB143_151:=n10_;have NB151_143:=n11_;have NB149_151:=n12_;have NB151_149:=n13_;clear n0_ n1_ n2_ n3_ n4_ n5_ n6_ n7_ n8_ n9_ n10_ n11_ n12_ n13_;clear hb hbox hg;have hnb54:=NB151_142.out;have hnc54:=NB142_151.out;have hnb55:=NB151_143.out;have hnc55:=NB143_151.out;have hnb56:=NB151_149.out;have hnc56:=NB149_151.out;have hcz57_0 : w53.cell? ⟨gb151,0,none⟩ = some (.int .i64 0):=(qh BK151.out 0).trans rfl;have hcz57_1 : w53.cell? ⟨gb151,1,none⟩ = some (.int .i64 0):=(qh BK151.out 1).trans rfl;have hcz57_2 : w53.cell? ⟨gb151,2,none⟩ = some (.int .i64 0):=(qh BK151.out 2).trans rfl;have hcz57_3 : w53.cell? ⟨gb151,3,none⟩ = some (.int .i64 0):=(qh BK151.out 3).trans rfl;have hcz57_4 : w53.cell? ⟨gb151,4,none⟩ = some (.int .i64 0):=(qh BK151.out 4).trans rfl;have hfz57_0:=qi BK151.out 0;have hfz57_1:=qi BK151.out 1;have hfz57_2:=qi BK151.out 2;have hfz57_3:=qi BK151.out 3;have hfz57_4:=qi BK151.out 4)|(go_at_call 109;(with_reducible refine (spec_l08Place.calls k2 _ _ l1 ((rd_T148 l0_1 x9_2).f0) t152 _ ?side1 ?side2 A32.out).mono ?_);(case side1=>exact Kd.C_below HR1.out (by repeat (first|(with_reducible first|exact HB.out|apply qf|apply qa|apply qd|refine qg ?_ GE142.out|refine qg ?_ GE143.out|refine qg ?_ GE149.out|refine qg ?_ GE151.out)|exact HB.out)));(case side2=>exact HC1.out);rintro e w' ⟨rfl,⟨nd,rfl⟩⟩;(try first|exact ⟨rfl,_,World.drewN_drewN _ _ _⟩|exact ⟨rfl,_,Eq.trans (World.drewN_drewN _ _ _) (congrArg (World.drewN _) (Nat.add_assoc _ _ _))⟩))|(go_at_call 109;(with_reducible refine (spec_l08Place.calls k2 _ _ l1 ((rd_T148 l0_1 x9_2).f1) t153 _ ?side1 ?side2 A33.out).mono ?_);(case side1=>exact Kd.C_below HR1.out (by repeat (first|(with_reducible first|exact HB.out|apply qf|apply qa|apply qd|refine qg ?_ GE142.out|refine qg ?_ GE143.out|refine qg ?_ GE149.out|refine qg ?_ GE151.out)|exact HB.out)));(case side2=>exact HC1.out);rintro e w' ⟨rfl,⟨nd,rfl⟩⟩;(try first|exact ⟨rfl,_,World.drewN_drewN _ _ _⟩|exact ⟨rfl,_,Eq.trans (World.drewN_drewN _ _ _) (congrArg (World.drewN _) (Nat.add_assoc _ _ _))⟩)));try go_wp2_with (first|((with_reducible refine gate_dst (N:=10) rfl ?_);refine box_event ?hg (N:=10) ?hd (cs:=#[.int .i64 0,.int .i64 0,.int .i64 0,.int .i64 0,.int .i64 0]) (t:=148) ?hr ?_;(case hd=>rfl);(case hg=>rfl);(case hr=>first|(go_simp;done)|(go_simp;rfl));intro gb151 hg w53 hbox hb;have n0_:=qn.mk (Kd.R_below (Kd.R_elderB (by (with_reducible repeat (first|apply Kd.R_alloc|apply Kd.R_drewN|apply Kd.R_drew));exact HO_150001.out) gb151 (Nat.le_of_eq hg.symm)) hb);have n1_:=bb_ BK142 hb;have n2_:=bb_ BK143 hb;have n3_:=bb_ BK149 hb;have n4_:=hs_ HB hb;have n5_:=qn.mk (hbox);have n6_:=qn.mk ((by rw [hg];exact (qj (by repeat (first|(with_reducible first|exact HB.out|apply qf|apply qa|apply qd|refine qg ?_ GE142.out|refine qg ?_ GE143.out|refine qg ?_ GE149.out)|exact HB.out))) : w.heap.size ≤ gb151));have n7_:=qn.mk ((by rw [hg];exact (qj (by repeat (first|(with_reducible first|exact HB.out|apply qf|apply qa|apply qd|refine qg ?_ GE142.out|refine qg ?_ GE143.out|refine qg ?_ GE149.out)|exact HB.out))) : w.heap.size ≤ gb151));have n8_:=qn.mk ((by rw [hg];exact nl_ BK142 : gb142 ≠ gb151));have n9_:=qn.mk ((by rw [hg];exact ng_ BK142 : gb151 ≠ gb142));have n10_:=qn.mk ((by rw [hg];exact nl_ BK143 : gb143 ≠ gb151));have n11_:=qn.mk ((by rw [hg];exact ng_ BK143 : gb151 ≠ gb143));have n12_:=qn.mk ((by rw [hg];exact nl_ BK149 : gb149 ≠ gb151));have n13_:=qn.mk ((by rw [hg];exact ng_ BK149 : gb151 ≠ gb149));clear HO_150001;clear BK142;clear BK143;clear BK149;clear HB;have HO_150001:=n0_;have BK142:=n1_;have BK143:=n2_;have BK149:=n3_;have HB:=n4_;have BK151:=n5_;have GW151:=n6_;have GE151:=n7_;have NB142_151:=n8_;have NB151_142:=n9_;have NB143_151:=n10_;have NB151_143:=n11_;have NB149_151:=n12_;have NB151_149:=n13_;clear n0_ n1_ n2_ n3_ n4_ n5_ n6_ n7_ n8_ n9_ n10_ n11_ n12_ n13_;clear hb hbox hg;have hnb54:=NB151_142.out;have hnc54:=NB142_151.out;have hnb55:=NB151_143.out;have hnc55:=NB143_151.out;have hnb56:=NB151_149.out;have hnc56:=NB149_151.out;have hcz57_0 : w53.cell? ⟨gb151,0,none⟩ = some (.int .i64 0):=(qh BK151.out 0).trans rfl;have hcz57_1 : w53.cell? ⟨gb151,1,none⟩ = some (.int .i64 0):=(qh BK151.out 1).trans rfl;have hcz57_2 : w53.cell? ⟨gb151,2,none⟩ = some (.int .i64 0):=(qh BK151.out 2).trans rfl;have hcz57_3 : w53.cell? ⟨gb151,3,none⟩ = some (.int .i64 0):=(qh BK151.out 3).trans rfl;have hcz57_4 : w53.cell? ⟨gb151,4,none⟩ = some (.int .i64 0):=(qh BK151.out 4).trans rfl;have hfz57_0:=qi BK151.out 0;have hfz57_1:=qi BK151.out 1;have hfz57_2:=qi BK151.out 2;have hfz57_3:=qi BK151.out 3;have hfz57_4:=qi BK151.out 4)|(go_at_call 109;(with_reducible refine (spec_l08Place.calls k2 _ _ l1 ((rd_T148 l0_1 x9_2).f0) t152 _ ?side1 ?side2 A32.out).mono ?_);(case side1=>exact Kd.C_below HR1.out (by repeat (first|(with_reducible first|exact HB.out|apply qf|apply qa|apply qd|refine qg ?_ GE142.out|refine qg ?_ GE143.out|refine qg ?_ GE149.out|refine qg ?_ GE151.out)|exact HB.out)));(case side2=>exact HC1.out);rintro e w' ⟨rfl,⟨nd,rfl⟩⟩;(try first|exact ⟨rfl,_,World.drewN_drewN _ _ _⟩|exact ⟨rfl,_,Eq.trans (World.drewN_drewN _ _ _) (congrArg (World.drewN _) (Nat.add_assoc _ _ _))⟩))|(go_at_call 109;(with_reducible refine (spec_l08Place.calls k2 _ _ l1 ((rd_T148 l0_1 x9_2).f1) t153 _ ?side1 ?side2 A33.out).mono ?_);(case side1=>exact Kd.C_below HR1.out (by repeat (first|(with_reducible first|exact HB.out|apply qf|apply qa|apply qd|refine qg ?_ GE142.out|refine qg ?_ GE143.out|refine qg ?_ GE149.out|refine qg ?_ GE151.out)|exact HB.out)));(case side2=>exact HC1.out);rintro e w' ⟨rfl,⟨nd,rfl⟩⟩;(try first|exact ⟨rfl,_,World.drewN_drewN _ _ _⟩|exact ⟨rfl,_,Eq.trans (World.drewN_drewN _ _ _) (congrArg (World.drewN _) (Nat.add_assoc _ _ _))⟩))))
                    go_roundg k2
                    case measure=>have:=HJ3.out;have:=HK2.out;omega
                    case rel=>exact ⟨(wrap64 (x9_2 + 1)),(x150001_2),(u150001),(by first|rfl|(simp;done)|(simp [*];done)),H',⟨by have:=HJ3.out;have:=HK2.out;omega⟩,⟨by (with_reducible repeat (first|apply Kd.R_alloc|apply Kd.R_drewN|apply Kd.R_drew));exact Kd.R_mono (Kd.R_far (p:=⟨gb151,4,none⟩) (Kd.R_far (p:=⟨gb151,3,none⟩) (Kd.R_far (p:=⟨gb151,2,none⟩) (Kd.R_far (p:=⟨gb151,1,none⟩) (Kd.R_far (p:=⟨gb151,0,none⟩) (Kd.R_mono HO_150001.out (fun k_ hk=>(⟨hk,hk.2⟩ : _ ∧ k_ ≠ gb151))) (fun _ hk=>hk.2) (.int .i64 ((rd_T148 l0_1 x9_2).f0))) (fun _ hk=>hk.2) (.int .i64 ((rd_T148 l0_1 x9_2).f1))) (fun _ hk=>hk.2) (.int .i64 ((rd_T148 l0_1 x9_2).f2))) (fun _ hk=>hk.2) (.int .i64 ((rd_T148 l0_1 x9_2).f3))) (fun _ hk=>hk.2) (.int .i64 ((rd_T148 l0_1 x9_2).f4))) (fun _ hk=>trivial)⟩,⟨by (with_reducible repeat (first|refine qb ?_ _|refine qe ?_|refine qc ?_ _));refine blk_far ?_ NB142_151.out _;(with_reducible repeat (first|refine qb ?_ _|refine qe ?_|refine qc ?_ _));refine blk_far ?_ NB142_151.out _;(with_reducible repeat (first|refine qb ?_ _|refine qe ?_|refine qc ?_ _));refine blk_far ?_ NB142_151.out _;(with_reducible repeat (first|refine qb ?_ _|refine qe ?_|refine qc ?_ _));refine blk_far ?_ NB142_151.out _;(with_reducible repeat (first|refine qb ?_ _|refine qe ?_|refine qc ?_ _));refine blk_far ?_ NB142_151.out _;(with_reducible repeat (first|refine qb ?_ _|refine qe ?_|refine qc ?_ _));exact BK142.out⟩,⟨by (with_reducible repeat (first|refine qb ?_ _|refine qe ?_|refine qc ?_ _));refine blk_far ?_ NB143_151.out _;(with_reducible repeat (first|refine qb ?_ _|refine qe ?_|refine qc ?_ _));refine blk_far ?_ NB143_151.out _;(with_reducible repeat (first|refine qb ?_ _|refine qe ?_|refine qc ?_ _));refine blk_far ?_ NB143_151.out _;(with_reducible repeat (first|refine qb ?_ _|refine qe ?_|refine qc ?_ _));refine blk_far ?_ NB143_151.out _;(with_reducible repeat (first|refine qb ?_ _|refine qe ?_|refine qc ?_ _));refine blk_far ?_ NB143_151.out _;(with_reducible repeat (first|refine qb ?_ _|refine qe ?_|refine qc ?_ _));exact BK143.out⟩,⟨by (with_reducible repeat (first|refine qb ?_ _|refine qe ?_|refine qc ?_ _));refine blk_far ?_ NB149_151.out _;(with_reducible repeat (first|refine qb ?_ _|refine qe ?_|refine qc ?_ _));refine blk_far ?_ NB149_151.out _;(with_reducible repeat (first|refine qb ?_ _|refine qe ?_|refine qc ?_ _));refine blk_far ?_ NB149_151.out _;(with_reducible repeat (first|refine qb ?_ _|refine qe ?_|refine qc ?_ _));refine blk_far ?_ NB149_151.out _;(with_reducible repeat (first|refine qb ?_ _|refine qe ?_|refine qc ?_ _));refine blk_far ?_ NB149_151.out _;(with_reducible repeat (first|refine qb ?_ _|refine qe ?_|refine qc ?_ _));exact BK149.out⟩,⟨by repeat (first|(with_reducible first|exact HB.out|apply qf|apply qa|apply qd|refine qg ?_ GE142.out|refine qg ?_ GE143.out|refine qg ?_ GE149.out|refine qg ?_ GE151.out)|exact HB.out)⟩⟩
                · rw [if_neg c34] at H
                  have c34b0 : decide (0 ≤ t152) = false:=decide_eq_false c34
                  clear c34
                  have H':=qn.mk H
                  clear H
                  have hnb58:=NB142_143.out
                  have hnc58:=NB143_142.out
                  have hnb59:=NB142_149.out
                  have hnc59:=NB149_142.out
                  have hcz60_0 : wr.cell? ⟨gb142,0,none⟩ = some (.int .i64 a0_0):=(qh BK142.out 0).trans rfl
                  have hcz60_1 : wr.cell? ⟨gb142,1,none⟩ = some (.slice A0_1 l0_1.length c0_1):=(qh BK142.out 1).trans rfl
                  have hfz60_0:=qi BK142.out 0
                  have hfz60_1:=qi BK142.out 1
                  have p150 : 0 ≤ (x9_2 : Int):=of_decide_eq_true (by first|(with_reducible assumption)|assumption)
                  have q150 : x9_2 < (l0_1.length : Int):=of_decide_eq_true (by first|(with_reducible assumption)|assumption)
                  obtain ⟨ad150,e150,hx150_0,hx150_1,hx150_2,hx150_3,hx150_4⟩:=at_T148 HR0_1.out x9_2 p150 q150
                  cases e150
                  replace hx150_0:=cb_ HB hx150_0
                  replace hx150_1:=cb_ HB hx150_1
                  replace hx150_2:=cb_ HB hx150_2
                  replace hx150_3:=cb_ HB hx150_3
                  replace hx150_4:=cb_ HB hx150_4
                  replace p150:=eq_true p150
                  replace q150:=eq_true q150
                  go_wp2_with (first|((with_reducible refine gate_dst (N:=10) rfl ?_);refine box_event ?hg (N:=10) ?hd (cs:=#[.int .i64 0,.int .i64 0,.int .i64 0,.int .i64 0,.int .i64 0]) (t:=148) ?hr ?_;(case hd=>rfl);(case hg=>rfl);(case hr=>first|(go_simp;done)|(go_simp;rfl));intro gb151 hg w61 hbox hb;have n0_:=qn.mk (Kd.R_below (Kd.R_elderB (by (with_reducible repeat (first|apply Kd.R_alloc|apply Kd.R_drewN|apply Kd.R_drew));exact HO_150001.out) gb151 (Nat.le_of_eq hg.symm)) hb);have n1_:=bb_ BK142 hb;have n2_:=bb_ BK143 hb;have n3_:=bb_ BK149 hb;have n4_:=hs_ HB hb;have n5_:=qn.mk (hbox);have n6_:=qn.mk ((by rw [hg];exact (qj (by repeat (first|(with_reducible first|exact HB.out|apply qf|apply qa|apply qd|refine qg ?_ GE142.out|refine qg ?_ GE143.out|refine qg ?_ GE149.out)|exact HB.out))) : w.heap.size ≤ gb151));have n7_:=qn.mk ((by rw [hg];exact (qj (by repeat (first|(with_reducible first|exact HB.out|apply qf|apply qa|apply qd|refine qg ?_ GE142.out|refine qg ?_ GE143.out|refine qg ?_ GE149.out)|exact HB.out))) : w.heap.size ≤ gb151));have n8_:=qn.mk ((by rw [hg];exact nl_ BK142 : gb142 ≠ gb151));have n9_:=qn.mk ((by rw [hg];exact ng_ BK142 : gb151 ≠ gb142));have n10_:=qn.mk ((by rw [hg];exact nl_ BK143 : gb143 ≠ gb151));have n11_:=qn.mk ((by rw [hg];exact ng_ BK143 : gb151 ≠ gb143));have n12_:=qn.mk ((by rw [hg];exact nl_ BK149 : gb149 ≠ gb151));have n13_:=qn.mk ((by rw [hg];exact ng_ BK149 : gb151 ≠ gb149));clear HO_150001;clear BK142;clear BK143;clear BK149;clear HB;have HO_150001:=n0_;have BK142:=n1_;have BK143:=n2_;have BK149:=n3_;have HB:=n4_;have BK151:=n5_;have GW151:=n6_;have GE151:=n7_;have NB142_151:=n8_;have NB151_142:=n9_;have NB143_151:=n10_;have NB151_143:=n11_;have NB149_151:=n12_;have NB151_149:=n13_;clear n0_ n1_ n2_ n3_ n4_ n5_ n6_ n7_ n8_ n9_ n10_ n11_ n12_ n13_;clear hb hbox hg;have hnb62:=NB151_142.out;have hnc62:=NB142_151.out;have hnb63:=NB151_143.out;have hnc63:=NB143_151.out;have hnb64:=NB151_149.out;have hnc64:=NB149_151.out;have hcz65_0 : w61.cell? ⟨gb151,0,none⟩ = some (.int .i64 0):=(qh BK151.out 0).trans rfl;have hcz65_1 : w61.cell? ⟨gb151,1,none⟩ = some (.int .i64 0):=(qh BK151.out 1).trans rfl;have hcz65_2 : w61.cell? ⟨gb151,2,none⟩ = some (.int .i64 0):=(qh BK151.out 2).trans rfl;have hcz65_3 : w61.cell? ⟨gb151,3,none⟩ = some (.int .i64 0):=(qh BK151.out 3).trans rfl;have hcz65_4 : w61.cell? ⟨gb151,4,none⟩ = some (.int .i64 0):=(qh BK151.out 4).trans rfl;have hfz65_0:=qi BK151.out 0;have hfz65_1:=qi BK151.out 1;have hfz65_2:=qi BK151.out 2;have hfz65_3:=qi BK151.out 3;have hfz65_4:=qi BK151.out 4)|(go_at_call 109;(with_reducible refine (spec_l08Place.calls k2 _ _ l1 ((rd_T148 l0_1 x9_2).f0) t152 _ ?side1 ?side2 A32.out).mono ?_);(case side1=>exact Kd.C_below HR1.out (by repeat (first|(with_reducible first|exact HB.out|apply qf|apply qa|apply qd|refine qg ?_ GE142.out|refine qg ?_ GE143.out|refine qg ?_ GE149.out|refine qg ?_ GE151.out)|exact HB.out)));(case side2=>exact HC1.out);rintro e w' ⟨rfl,⟨nd,rfl⟩⟩;(try first|exact ⟨rfl,_,World.drewN_drewN _ _ _⟩|exact ⟨rfl,_,Eq.trans (World.drewN_drewN _ _ _) (congrArg (World.drewN _) (Nat.add_assoc _ _ _))⟩))|(go_at_call 109;(with_reducible refine (spec_l08Place.calls k2 _ _ l1 ((rd_T148 l0_1 x9_2).f1) t153 _ ?side1 ?side2 A33.out).mono ?_);(case side1=>exact Kd.C_below HR1.out (by repeat (first|(with_reducible first|exact HB.out|apply qf|apply qa|apply qd|refine qg ?_ GE142.out|refine qg ?_ GE143.out|refine qg ?_ GE149.out|refine qg ?_ GE151.out)|exact HB.out)));(case side2=>exact HC1.out);rintro e w' ⟨rfl,⟨nd,rfl⟩⟩;(try first|exact ⟨rfl,_,World.drewN_drewN _ _ _⟩|exact ⟨rfl,_,Eq.trans (World.drewN_drewN _ _ _) (congrArg (World.drewN _) (Nat.add_assoc _ _ _))⟩)))
                  repeat (go_quiet (first|((with_reducible refine gate_dst (N:=10) rfl ?_);refine box_event ?hg (N:=10) ?hd (cs:=#[.int .i64 0,.int .i64 0,.int .i64 0,.int .i64 0,.int .i64 0]) (t:=148) ?hr ?_;(case hd=>rfl);(case hg=>rfl);(case hr=>first|(go_simp;done)|(go_simp;rfl));intro gb151 hg w61 hbox hb;have n0_:=qn.mk (Kd.R_below (Kd.R_elderB (by (with_reducible repeat (first|apply Kd.R_alloc|apply Kd.R_drewN|apply Kd.R_drew));exact HO_150001.out) gb151 (Nat.le_of_eq hg.symm)) hb);have n1_:=bb_ BK142 hb;have n2_:=bb_ BK143 hb;have n3_:=bb_ BK149 hb;have n4_:=hs_ HB hb;have n5_:=qn.mk (hbox);have n6_:=qn.mk ((by rw [hg];exact (qj (by repeat (first|(with_reducible first|exact HB.out|apply qf|apply qa|apply qd|refine qg ?_ GE142.out|refine qg ?_ GE143.out|refine qg ?_ GE149.out)|exact HB.out))) : w.heap.size ≤ gb151));have n7_:=qn.mk ((by rw [hg];exact (qj (by repeat (first|(with_reducible first|exact HB.out|apply qf|apply qa|apply qd|refine qg ?_ GE142.out|refine qg ?_ GE143.out|refine qg ?_ GE149.out)|exact HB.out))) : w.heap.size ≤ gb151));have n8_:=qn.mk ((by rw [hg];exact nl_ BK142 : gb142 ≠ gb151));have n9_:=qn.mk ((by rw [hg];exact ng_ BK142 : gb151 ≠ gb142));have n10_:=qn.mk ((by rw [hg];exact nl_ BK143 : gb143 ≠ gb151));have n11_:=qn.mk ((by rw [hg];exact ng_ BK143 : gb151 ≠ gb143));have n12_:=qn.mk ((by rw [hg];exact nl_ BK149 : gb149 ≠ gb151));have n13_:=qn.mk ((by rw [hg];exact ng_ BK149 : gb151 ≠ gb149));clear HO_150001;clear BK142;clear BK143;clear BK149;clear HB;have HO_150001:=n0_;have BK142:=n1_;have BK143:=n2_;have BK149:=n3_;have HB:=n4_;have BK151:=n5_;have GW151:=n6_;have GE151:=n7_;have NB142_151:=n8_;have NB151_142:=n9_;have NB143_151:=n10_;have NB151_143:=n11_;have NB149_151:=n12_;have NB151_149:=n13_;clear n0_ n1_ n2_ n3_ n4_ n5_ n6_ n7_ n8_ n9_ n10_ n11_ n12_ n13_;clear hb hbox hg;have hnb62:=NB151_142.out;have hnc62:=NB142_151.out;have hnb63:=NB151_143.out;have hnc63:=NB143_151.out;have hnb64:=NB151_149.out;have hnc64:=NB149_151.out;have hcz65_0 : w61.cell? ⟨gb151,0,none⟩ = some (.int .i64 0):=(qh BK151.out 0).trans rfl;have hcz65_1 : w61.cell? ⟨gb151,1,none⟩ = some (.int .i64 0):=(qh BK151.out 1).trans rfl;have hcz65_2 : w61.cell? ⟨gb151,2,none⟩ = some (.int .i64 0):=(qh BK151.out 2).trans rfl;have hcz65_3 : w61.cell? ⟨gb151,3,none⟩ = some (.int .i64 0):=(qh BK151.out 3).trans rfl;have hcz65_4 : w61.cell? ⟨gb151,4,none⟩ = some (.int .i64 0):=(qh BK151.out 4).trans rfl;have hfz65_0:=qi BK151.out 0;have hfz65_1:=qi BK151.out 1;have hfz65_2:=qi BK151.out 2;have hfz65_3:=qi BK151.out 3;have hfz65_4:=qi BK151.out 4)|(go_at_call 109;(with_reducible refine (spec_l08Place.calls k2 _ _ l1 ((rd_T148 l0_1 x9_2).f0) t152 _ ?side1 ?side2 A32.out).mono ?_);(case side1=>exact Kd.C_below HR1.out (by repeat (first|(with_reducible first|exact HB.out|apply qf|apply qa|apply qd|refine qg ?_ GE142.out|refine qg ?_ GE143.out|refine qg ?_ GE149.out|refine qg ?_ GE151.out)|exact HB.out)));(case side2=>exact HC1.out);rintro e w' ⟨rfl,⟨nd,rfl⟩⟩;(try first|exact ⟨rfl,_,World.drewN_drewN _ _ _⟩|exact ⟨rfl,_,Eq.trans (World.drewN_drewN _ _ _) (congrArg (World.drewN _) (Nat.add_assoc _ _ _))⟩))|(go_at_call 109;(with_reducible refine (spec_l08Place.calls k2 _ _ l1 ((rd_T148 l0_1 x9_2).f1) t153 _ ?side1 ?side2 A33.out).mono ?_);(case side1=>exact Kd.C_below HR1.out (by repeat (first|(with_reducible first|exact HB.out|apply qf|apply qa|apply qd|refine qg ?_ GE142.out|refine qg ?_ GE143.out|refine qg ?_ GE149.out|refine qg ?_ GE151.out)|exact HB.out)));(case side2=>exact HC1.out);rintro e w' ⟨rfl,⟨nd,rfl⟩⟩;(try first|exact ⟨rfl,_,World.drewN_drewN _ _ _⟩|exact ⟨rfl,_,Eq.trans (World.drewN_drewN _ _ _) (congrArg (World.drewN _) (Nat.add_assoc _ _ _))⟩)));try go_wp2_with (first|((with_reducible refine gate_dst (N:=10) rfl ?_);refine box_event ?hg (N:=10) ?hd (cs:=#[.int .i64 0,.int .i64 0,.int .i64 0,.int .i64 0,.int .i64 0]) (t:=148) ?hr ?_;(case hd=>rfl);(case hg=>rfl);(case hr=>first|(go_simp;done)|(go_simp;rfl));intro gb151 hg w61 hbox hb;have n0_:=qn.mk (Kd.R_below (Kd.R_elderB (by (with_reducible repeat (first|apply Kd.R_alloc|apply Kd.R_drewN|apply Kd.R_drew));exact HO_150001.out) gb151 (Nat.le_of_eq hg.symm)) hb);have n1_:=bb_ BK142 hb;have n2_:=bb_ BK143 hb;have n3_:=bb_ BK149 hb;have n4_:=hs_ HB hb;have n5_:=qn.mk (hbox);have n6_:=qn.mk ((by rw [hg];exact (qj (by repeat (first|(with_reducible first|exact HB.out|apply qf|apply qa|apply qd|refine qg ?_ GE142.out|refine qg ?_ GE143.out|refine qg ?_ GE149.out)|exact HB.out))) : w.heap.size ≤ gb151));have n7_:=qn.mk ((by rw [hg];exact (qj (by repeat (first|(with_reducible first|exact HB.out|apply qf|apply qa|apply qd|refine qg ?_ GE142.out|refine qg ?_ GE143.out|refine qg ?_ GE149.out)|exact HB.out))) : w.heap.size ≤ gb151));have n8_:=qn.mk ((by rw [hg];exact nl_ BK142 : gb142 ≠ gb151));have n9_:=qn.mk ((by rw [hg];exact ng_ BK142 : gb151 ≠ gb142));have n10_:=qn.mk ((by rw [hg];exact nl_ BK143 : gb143 ≠ gb151));have n11_:=qn.mk ((by rw [hg];exact ng_ BK143 : gb151 ≠ gb143));have n12_:=qn.mk ((by rw [hg];exact nl_ BK149 : gb149 ≠ gb151));have n13_:=qn.mk ((by rw [hg];exact ng_ BK149 : gb151 ≠ gb149));clear HO_150001;clear BK142;clear BK143;clear BK149;clear HB;have HO_150001:=n0_;have BK142:=n1_;have BK143:=n2_;have BK149:=n3_;have HB:=n4_;have BK151:=n5_;have GW151:=n6_;have GE151:=n7_;have NB142_151:=n8_;have NB151_142:=n9_;have NB143_151:=n10_;have NB151_143:=n11_;have NB149_151:=n12_;have NB151_149:=n13_;clear n0_ n1_ n2_ n3_ n4_ n5_ n6_ n7_ n8_ n9_ n10_ n11_ n12_ n13_;clear hb hbox hg;have hnb62:=NB151_142.out;have hnc62:=NB142_151.out;have hnb63:=NB151_143.out;have hnc63:=NB143_151.out;have hnb64:=NB151_149.out;have hnc64:=NB149_151.out;have hcz65_0 : w61.cell? ⟨gb151,0,none⟩ = some (.int .i64 0):=(qh BK151.out 0).trans rfl;have hcz65_1 : w61.cell? ⟨gb151,1,none⟩ = some (.int .i64 0):=(qh BK151.out 1).trans rfl;have hcz65_2 : w61.cell? ⟨gb151,2,none⟩ = some (.int .i64 0):=(qh BK151.out 2).trans rfl;have hcz65_3 : w61.cell? ⟨gb151,3,none⟩ = some (.int .i64 0):=(qh BK151.out 3).trans rfl;have hcz65_4 : w61.cell? ⟨gb151,4,none⟩ = some (.int .i64 0):=(qh BK151.out 4).trans rfl;have hfz65_0:=qi BK151.out 0;have hfz65_1:=qi BK151.out 1;have hfz65_2:=qi BK151.out 2;have hfz65_3:=qi BK151.out 3;have hfz65_4:=qi BK151.out 4)|(go_at_call 109;(with_reducible refine (spec_l08Place.calls k2 _ _ l1 ((rd_T148 l0_1 x9_2).f0) t152 _ ?side1 ?side2 A32.out).mono ?_);(case side1=>exact Kd.C_below HR1.out (by repeat (first|(with_reducible first|exact HB.out|apply qf|apply qa|apply qd|refine qg ?_ GE142.out|refine qg ?_ GE143.out|refine qg ?_ GE149.out|refine qg ?_ GE151.out)|exact HB.out)));(case side2=>exact HC1.out);rintro e w' ⟨rfl,⟨nd,rfl⟩⟩;(try first|exact ⟨rfl,_,World.drewN_drewN _ _ _⟩|exact ⟨rfl,_,Eq.trans (World.drewN_drewN _ _ _) (congrArg (World.drewN _) (Nat.add_assoc _ _ _))⟩))|(go_at_call 109;(with_reducible refine (spec_l08Place.calls k2 _ _ l1 ((rd_T148 l0_1 x9_2).f1) t153 _ ?side1 ?side2 A33.out).mono ?_);(case side1=>exact Kd.C_below HR1.out (by repeat (first|(with_reducible first|exact HB.out|apply qf|apply qa|apply qd|refine qg ?_ GE142.out|refine qg ?_ GE143.out|refine qg ?_ GE149.out|refine qg ?_ GE151.out)|exact HB.out)));(case side2=>exact HC1.out);rintro e w' ⟨rfl,⟨nd,rfl⟩⟩;(try first|exact ⟨rfl,_,World.drewN_drewN _ _ _⟩|exact ⟨rfl,_,Eq.trans (World.drewN_drewN _ _ _) (congrArg (World.drewN _) (Nat.add_assoc _ _ _))⟩))))
                  go_roundg k2
                  case measure=>have:=HJ3.out;have:=HK2.out;omega
                  case rel=>exact ⟨(wrap64 (x9_2 + 1)),(x150001_2),(u150001),(by first|rfl|(simp;done)|(simp [*];done)),H',⟨by have:=HJ3.out;have:=HK2.out;omega⟩,⟨by (with_reducible repeat (first|apply Kd.R_alloc|apply Kd.R_drewN|apply Kd.R_drew));exact Kd.R_mono (Kd.R_far (p:=⟨gb151,4,none⟩) (Kd.R_far (p:=⟨gb151,3,none⟩) (Kd.R_far (p:=⟨gb151,2,none⟩) (Kd.R_far (p:=⟨gb151,1,none⟩) (Kd.R_far (p:=⟨gb151,0,none⟩) (Kd.R_mono HO_150001.out (fun k_ hk=>(⟨hk,hk.2⟩ : _ ∧ k_ ≠ gb151))) (fun _ hk=>hk.2) (.int .i64 ((rd_T148 l0_1 x9_2).f0))) (fun _ hk=>hk.2) (.int .i64 ((rd_T148 l0_1 x9_2).f1))) (fun _ hk=>hk.2) (.int .i64 ((rd_T148 l0_1 x9_2).f2))) (fun _ hk=>hk.2) (.int .i64 ((rd_T148 l0_1 x9_2).f3))) (fun _ hk=>hk.2) (.int .i64 ((rd_T148 l0_1 x9_2).f4))) (fun _ hk=>trivial)⟩,⟨by (with_reducible repeat (first|refine qb ?_ _|refine qe ?_|refine qc ?_ _));refine blk_far ?_ NB142_151.out _;(with_reducible repeat (first|refine qb ?_ _|refine qe ?_|refine qc ?_ _));refine blk_far ?_ NB142_151.out _;(with_reducible repeat (first|refine qb ?_ _|refine qe ?_|refine qc ?_ _));refine blk_far ?_ NB142_151.out _;(with_reducible repeat (first|refine qb ?_ _|refine qe ?_|refine qc ?_ _));refine blk_far ?_ NB142_151.out _;(with_reducible repeat (first|refine qb ?_ _|refine qe ?_|refine qc ?_ _));refine blk_far ?_ NB142_151.out _;(with_reducible repeat (first|refine qb ?_ _|refine qe ?_|refine qc ?_ _));exact BK142.out⟩,⟨by (with_reducible repeat (first|refine qb ?_ _|refine qe ?_|refine qc ?_ _));refine blk_far ?_ NB143_151.out _;(with_reducible repeat (first|refine qb ?_ _|refine qe ?_|refine qc ?_ _));refine blk_far ?_ NB143_151.out _;(with_reducible repeat (first|refine qb ?_ _|refine qe ?_|refine qc ?_ _));refine blk_far ?_ NB143_151.out _;(with_reducible repeat (first|refine qb ?_ _|refine qe ?_|refine qc ?_ _));refine blk_far ?_ NB143_151.out _;(with_reducible repeat (first|refine qb ?_ _|refine qe ?_|refine qc ?_ _));refine blk_far ?_ NB143_151.out _;(with_reducible repeat (first|refine qb ?_ _|refine qe ?_|refine qc ?_ _));exact BK143.out⟩,⟨by (with_reducible repeat (first|refine qb ?_ _|refine qe ?_|refine qc ?_ _));refine blk_far ?_ NB149_151.out _;(with_reducible repeat (first|refine qb ?_ _|refine qe ?_|refine qc ?_ _));refine blk_far ?_ NB149_151.out _;(with_reducible repeat (first|refine qb ?_ _|refine qe ?_|refine qc ?_ _));refine blk_far ?_ NB149_151.out _;(with_reducible repeat (first|refine qb ?_ _|refine qe ?_|refine qc ?_ _));refine blk_far ?_ NB149_151.out _;(with_reducible repeat (first|refine qb ?_ _|refine qe ?_|refine qc ?_ _));refine blk_far ?_ NB149_151.out _;(with_reducible repeat (first|refine qb ?_ _|refine qe ?_|refine qc ?_ _));exact BK149.out⟩,⟨by repeat (first|(with_reducible first|exact HB.out|apply qf|apply qa|apply qd|refine qg ?_ GE142.out|refine qg ?_ GE143.out|refine qg ?_ GE149.out|refine qg ?_ GE151.out)|exact HB.out)⟩⟩
              · rw [if_neg c31] at H
                exact absurd H (by simp)
            · rw [if_neg c30] at H
              have c30b0 : decide (x9_2 < (l0_1.length : Int)) = false:=decide_eq_false c30
              clear c30
              simp only [Option.some.injEq,Prod.mk.injEq] at H
              obtain ⟨rfl,rfl,rfl⟩:=H
              have hnb66:=NB142_143.out
              have hnc66:=NB143_142.out
              have hnb67:=NB142_149.out
              have hnc67:=NB149_142.out
              have hcz68_0 : wr.cell? ⟨gb142,0,none⟩ = some (.int .i64 a0_0):=(qh BK142.out 0).trans rfl
              have hcz68_1 : wr.cell? ⟨gb142,1,none⟩ = some (.slice A0_1 l0_1.length c0_1):=(qh BK142.out 1).trans rfl
              have hfz68_0:=qi BK142.out 0
              have hfz68_1:=qi BK142.out 1
              have hnb69:=NB149_143.out
              have hnc69:=NB143_149.out
              have hcz70_0 : wr.cell? ⟨gb149,0,none⟩ = some (.int .i64 (l1.length : Int)):=(qh BK149.out 0).trans rfl
              have hcz70_1 : wr.cell? ⟨gb149,1,none⟩ = some (u150001):=(qh BK149.out 1).trans rfl
              have hfz70_0:=qi BK149.out 0
              have hfz70_1:=qi BK149.out 1
              have hcz71_0 : wr.cell? ⟨gb143,0,none⟩ = some (.int .i64 0):=(qh BK143.out 0).trans rfl
              have hcz71_1 : wr.cell? ⟨gb143,1,none⟩ = some (.slice none 0 0):=(qh BK143.out 1).trans rfl
              have hfz71_0:=qi BK143.out 0
              have hfz71_1:=qi BK143.out 1
              obtain ⟨Ao72,co72,eo72⟩:=Kd.R_slice HO_150001.out
              subst eo72
              go_wp2
              repeat (go_quiet (fail);try go_wp2)
              refine bodyPost_ret (results_ct rfl _ _ gb143 56 #[.int .i64 (l1.length : Int),.slice Ao72 x150001_2.length co72] (0,0) _ rfl (by (with_reducible repeat (first|refine qb ?_ _|refine qe ?_|refine qc ?_ _));refine blk_put (cs:=#[.int .i64 (l1.length : Int),.slice none 0 0]) ?_ 1 _ rfl;(with_reducible repeat (first|refine qb ?_ _|refine qe ?_|refine qc ?_ _));refine blk_put (cs:=#[.int .i64 0,.slice none 0 0]) ?_ 0 _ rfl;(with_reducible repeat (first|refine qb ?_ _|refine qe ?_|refine qc ?_ _));exact BK143.out) Try.underlying56 rfl (by kernel_rfl)) rfl ?_
              exact ⟨_,by first|rfl|(simp [errW_none,errW_some] <;> rfl)|(simp [*,errW_none,errW_some] <;> rfl),by (with_reducible repeat (first|apply Kd.R_alloc|apply Kd.R_drewN|apply Kd.R_drew));exact Kd.R_mono (Kd.R_far (p:=⟨gb143,1,none⟩) (Kd.R_far (p:=⟨gb143,0,none⟩) (Kd.R_types HO_150001.out BK143.out (by decide)) (fun _ hk=>hk.2) (.int .i64 (l1.length : Int))) (fun _ hk=>hk.2) (.slice Ao72 x150001_2.length co72)) (fun _ hk=>trivial),by repeat (first|(with_reducible first|exact HB.out|apply qf|apply qa|apply qd|refine qg ?_ GE142.out|refine qg ?_ GE143.out|refine qg ?_ GE149.out)|exact HB.out)⟩
      · replace c25:=Bool.eq_false_iff.mpr c25
        subst c25
        have H1 : (some (0,([] : List (S148)),false)) = some (r1,r2,r3):=by rw [if_neg (show ¬ (false = true) by decide)] at H;exact H
        clear H
        have H:=H1
        clear H1
        simp only [Option.some.injEq,Prod.mk.injEq] at H
        obtain ⟨rfl,rfl,rfl⟩:=H
        have hnb73:=NB143_142.out
        have hnc73:=NB142_143.out
        have hcz74_0 : wc.cell? ⟨gb143,0,none⟩ = some (.int .i64 0):=(qh BK143.out 0).trans rfl
        have hcz74_1 : wc.cell? ⟨gb143,1,none⟩ = some (.slice none 0 0):=(qh BK143.out 1).trans rfl
        have hfz74_0:=qi BK143.out 0
        have hfz74_1:=qi BK143.out 1
        go_wp2
        repeat (go_quiet (fail);try go_wp2)
        refine bodyPost_ret (results_ct rfl _ _ gb143 56 #[.int .i64 0,.slice none 0 0] (0,0) _ rfl (by (with_reducible repeat (first|refine qb ?_ _|refine qe ?_|refine qc ?_ _));refine blk_put (cs:=#[.int .i64 0,.slice none 0 0]) ?_ 1 _ rfl;(with_reducible repeat (first|refine qb ?_ _|refine qe ?_|refine qc ?_ _));refine blk_put (cs:=#[.int .i64 0,.slice none 0 0]) ?_ 0 _ rfl;(with_reducible repeat (first|refine qb ?_ _|refine qe ?_|refine qc ?_ _));exact BK143.out) Try.underlying56 rfl (by kernel_rfl)) rfl ?_
        exact ⟨_,by first|rfl|(simp [errW_none,errW_some] <;> rfl)|(simp [*,errW_none,errW_some] <;> rfl),by first|exact Kd.R_nil _ _ _ _ _|exact Kd.N_nil _ _ _ _ _|exact Kd.V_nil _ _ _ _ _|exact Kd.Q_nil _ _ _ _ _|exact Kd.S_nil _ _ _ _ _,by repeat (first|(with_reducible first|exact HB.out|apply qf|apply qa|apply qd|refine qg ?_ GE142.out|refine qg ?_ GE143.out)|exact HB.out)⟩

/-! ### laws_toIntS: function 42 -/
def laws_toIntS.l0 : Nat → List Int → List Int → Int → Option (List Int)
  | 0,_,_,_=>none
  | k + 1,x0,x3,x4=>if x4 < (x0.length : Int) then (if 0 ≤ x4 then (if x4 < (x3.length : Int) then (laws_toIntS.l0 k x0 (x3.set (x4 : Int).toNat (rd x0 x4)) (wrap64 (x4 + 1))) else (none)) else (none)) else (some x3)
def laws_toIntS.f (k : Nat) (l0 : List Int) : Option (List Int):=if 0 ≤ (l0.length : Int) then (if ((l0.length : Int) : Int).toNat ≤ 35184372088832 then (laws_toIntS.l0 k l0 (List.replicate ((l0.length : Int) : Int).toNat 0) 0) else (none)) else (none)
theorem laws_toIntS.mono_l : ∀ k,(∀ y0 y1 y2,LeO (laws_toIntS.l0 k y0 y1 y2) (laws_toIntS.l0 (k + 1) y0 y1 y2))
  | 0=>fun _ _ _ r h=>by simp [laws_toIntS.l0] at h
  | k + 1=>by
    have ih0:=laws_toIntS.mono_l k
    · intro y0 y1 y2
      unfold laws_toIntS.l0
      repeat' first
      | (with_reducible exact ih0 _ _ _)
      | (with_reducible exact LeO.refl _)
      | (with_reducible exact LeO.none _)
      | (with_reducible refine LeO.ite ?_ ?_)
      | (with_reducible refine LeO.bind ?_ (fun _=>?_))
      | exact ih0 _ _ _
      | exact LeO.none _
      | refine LeO.ite ?_ ?_
      | refine LeO.bind ?_ (fun _=>?_)
theorem laws_toIntS.mono : ∀ a0 k,LeO (laws_toIntS.f k a0) (laws_toIntS.f (k + 1) a0):=by
  intro a0 k
  have ih0:=laws_toIntS.mono_l k
  unfold laws_toIntS.f
  repeat' first
      | (with_reducible exact ih0 _ _ _)
      | (with_reducible exact LeO.refl _)
      | (with_reducible exact LeO.none _)
      | (with_reducible refine LeO.ite ?_ ?_)
      | (with_reducible refine LeO.bind ?_ (fun _=>?_))
      | exact ih0 _ _ _
      | exact LeO.none _
      | refine LeO.ite ?_ ?_
      | refine LeO.bind ?_ (fun _=>?_)
set_option maxHeartbeats 8000000 in
set_option maxRecDepth 100000 in
theorem laws_toIntS.calls (k : Nat) (A0 : Option Addr) (c0 : Nat) (l0 : List Int) (r : List Int) (w : World) (hr0 : Kd.C (Kd.int .i64) w A0 l0.length l0) (hc0 : l0.length ≤ c0) (h : laws_toIntS.f k l0 = some r) :
    Calls Try.prog 42 #[.slice A0 l0.length c0] w fun e w'=>∃ v0_ : Value,e = .returned (v0_) ∧ Kd.R (Kd.int .i64) 3 w' w.heap.size (fun _=>True) v0_ r ∧ Below w.heap.size w w':=by
  have HR0:=qn.mk hr0
  have HC0:=qn.mk hc0
  clear hr0 hc0
  have HB:=qn.mk (Below.refl w.heap.size w)
  have H : (if 0 ≤ (l0.length : Int) then (if ((l0.length : Int) : Int).toNat ≤ 35184372088832 then (laws_toIntS.l0 k l0 (List.replicate ((l0.length : Int) : Int).toNat 0) 0) else (none)) else (none)) = some r:=h
  clear h
  by_cases c2 : 0 ≤ (l0.length : Int)
  · rw [if_pos c2] at H
    have c2b0:=eq_true c2
    have c2b1 : decide (0 ≤ (l0.length : Int)) = true:=decide_eq_true c2
    clear c2
    by_cases c3 : ((l0.length : Int) : Int).toNat ≤ 35184372088832
    · rw [if_pos c3] at H
      have c3b0:=eq_true c3
      have c3b1 : decide (((l0.length : Int) : Int).toNat ≤ 35184372088832) = true:=decide_eq_true c3
      clear c3
      obtain ⟨y157,hy157⟩ : ∃ y_ : List Int,y_ = (List.replicate ((l0.length : Int) : Int).toNat 0):=⟨_,rfl⟩
      replace H : (laws_toIntS.l0 k l0 y157 0) = some r:=by first|(rw [hy157];with_reducible exact H)|(have H2_:=(Option.bind_some _ _).symm.trans H;rw [hy157];with_reducible exact H2_)|(have H2_:=(Option.bind_some _ _).symm.trans H;with_reducible exact H2_)|with_reducible exact H|(rw [hy157];exact H)|exact H
      have Ny157:=qn.mk hy157
      clear hy157
      have H':=qn.mk H
      clear H
      go_enter Try.func42,Try.ntmps42
      go_wp2_with (first|((with_reducible refine gate_dst (N:=7) rfl ?_);refine Kd.R_make (Kd.int .i64) _ 3 rfl (N:=7) rfl 43 _ _ rfl (l0.length : Int) rfl rfl Try.underlying43 (.int .i64 0) 8 info3 rfl (by decide) (by omega) 0 (ok:=fun _=>True) (okp:=fun _=>True) rfl (fun _ hk=>hk) trivial (of_decide_eq_true (by first|(with_reducible assumption)|assumption)) (Nat.le_trans (Nat.mul_le_mul_right _ (of_decide_eq_true (by first|(with_reducible assumption)|assumption) : (l0.length : Int).toNat ≤ 35184372088832)) (by omega)) (Below.refl _ _) (Nat.le_refl _) ?_;intro v158 w4 ho5 hb hg_ hnew_;clear hg_ hnew_;(first|rw [← Ny157.out] at ho5|(simp only [Int.reduceToNat] at ho5;rw [← Ny157.out] at ho5));have n0_:=qn.mk (Kd.R_lower ho5 (qj (by repeat (first|(with_reducible first|exact HB.out|apply qf|apply qa|apply qd)|exact HB.out))));have n1_:=hs_ HB hb;clear HB;have HO159:=n0_;have HB:=n1_;clear n0_ n1_;clear hb ho5))
      go_loopg [4] k (fun kq v4 w'=>∃ (x3_1 : List Int) (x4_1 : Int),v4 = .int .i64 x4_1 ∧ qn (laws_toIntS.l0 kq l0 x3_1 x4_1 = some r) ∧ qn (kq ≤ k) ∧ qn (Kd.R (Kd.int .i64) 3 w' w.heap.size (fun _=>True) v158 x3_1) ∧ qn (Below w.heap.size w w'))
      case atStart=>exact ⟨(y157),(0),(by first|rfl|(simp;done)|(simp [*];done)),H',⟨Nat.le_refl _⟩,⟨by (with_reducible repeat (first|apply Kd.R_alloc|apply Kd.R_drewN|apply Kd.R_drew));exact HO159.out⟩,⟨by repeat (first|(with_reducible first|exact HB.out|apply qf|apply qa|apply qd)|exact HB.out)⟩⟩
      case round =>
        clear H'
        try clear c2
        try clear c2b0
        try clear c2b1
        try clear p2
        try clear c3
        try clear c3b0
        try clear c3b1
        try clear c4
        obtain ⟨x3_1,x4_1,rfl,HA,HK1,HO_3,HB⟩:=hrel
        cases gk with
        | zero=>exact absurd HA.out (by simp [laws_toIntS.l0])
        | succ k1 =>
          have H:=HA.out
          clear HA
          simp only [laws_toIntS.l0] at H
          by_cases c6 : x4_1 < (l0.length : Int)
          · rw [if_pos c6] at H
            have c6b0 : decide (x4_1 < (l0.length : Int)) = true:=decide_eq_true c6
            clear c6
            by_cases c7 : 0 ≤ x4_1
            · rw [if_pos c7] at H
              have c7b0 : decide (0 ≤ x4_1) = true:=decide_eq_true c7
              clear c7
              by_cases c8 : x4_1 < (x3_1.length : Int)
              · rw [if_pos c8] at H
                have c8b0 : decide (x4_1 < (x3_1.length : Int)) = true:=decide_eq_true c8
                clear c8
                obtain ⟨y161,hy161⟩ : ∃ y_ : List Int,y_ = (x3_1.set (x4_1 : Int).toNat (rd l0 x4_1)):=⟨_,rfl⟩
                replace H : (laws_toIntS.l0 k1 l0 y161 (wrap64 (x4_1 + 1))) = some r:=by first|(rw [hy161];with_reducible exact H)|(have H2_:=(Option.bind_some _ _).symm.trans H;rw [hy161];with_reducible exact H2_)|(have H2_:=(Option.bind_some _ _).symm.trans H;with_reducible exact H2_)|with_reducible exact H|(rw [hy161];exact H)|exact H
                have Ny161:=qn.mk hy161
                clear hy161
                have H':=qn.mk H
                clear H
                have p160 : 0 ≤ (x4_1 : Int):=of_decide_eq_true (by first|(with_reducible assumption)|assumption)
                have q160 : x4_1 < (l0.length : Int):=of_decide_eq_true (by first|(with_reducible assumption)|assumption)
                obtain ⟨ad160,e160,hx160_0⟩:=Kd.at_int HR0.out x4_1 p160 q160
                cases e160
                replace hx160_0:=cb_ HB hx160_0
                replace p160:=eq_true p160
                replace q160:=eq_true q160
                have p9 : 0 ≤ (x4_1 : Int):=of_decide_eq_true (by first|(with_reducible assumption)|assumption)
                have q9 : (x4_1 : Int) < ((x3_1.length : Int) : Int):=of_decide_eq_true (by first|(with_reducible assumption)|assumption)
                obtain ⟨go9,co9,eo9,gb9,gl9,cl9,HG9⟩:=Kd.R_form HO_3.out (by omega)
                (first|cases eo9|(injection eo9 with ea_ en_ ec_;(first|subst ea_|(injection ea_ with ea_;subst ea_));subst ec_;clear en_))
                have GB9:=qn.mk gb9
                have GG9:=qn.mk HG9
                clear gb9 gl9 HG9
                obtain ⟨hx9_0,hf9_0⟩:=Kd.R_celln 0 HO_3.out (x4_1 : Int) p9 q9
                replace p9:=eq_true p9
                replace q9:=eq_true q9
                have HP10:=Kd.R_putg HO_3.out (x4_1 : Int) (rd l0 x4_1)
                go_wp2_with (first|((with_reducible refine gate_store (t:=3) (p:=20) rfl ?_);refine store_event (t:=3) (p:=20) (v:=?vo_w11) (w1:=(wr.setCell ⟨go9,(x4_1 : Int).toNat,none⟩ (.int .i64 (rd l0 x4_1)))) ?hg ?ho ?hn ?hr ?_;(case ho=>rfl);(case hg=>rfl);(case hn=>rfl);(case hr=>first|(go_simp;done)|(go_simp;rfl));intro w11 hw;have hg : wr.grownBy w11 (some go9):=(by rw [hw];exact HP10.2);have hp_ : Kd.R (Kd.int .i64) 3 w11 w.heap.size (fun _=>True) (.slice (some ⟨go9,0,none⟩) x3_1.length co9) y161:=(by rw [hw,Ny161.out];exact HP10.1);clear HP10;have n0_:=qn.mk (hp_);have n1_:=qn.mk ((by rw [hw];exact qg (HB.out) GB9.out : Below w.heap.size w w11));clear HO_3;clear HB;have HO_3:=n0_;have HB:=n1_;clear n0_ n1_;clear hg hw hp_))
                go_roundg k1
                case measure=>have:=HK1.out;omega
                case rel=>exact ⟨(y161),(wrap64 (x4_1 + 1)),(by first|rfl|(simp;done)|(simp [*];done)),H',⟨by have:=HK1.out;omega⟩,⟨by (with_reducible repeat (first|apply Kd.R_alloc|apply Kd.R_drewN|apply Kd.R_drew));exact HO_3.out⟩,⟨by repeat (first|(with_reducible first|exact HB.out|apply qf|apply qa|apply qd)|exact HB.out)⟩⟩
              · rw [if_neg c8] at H
                exact absurd H (by simp)
            · rw [if_neg c7] at H
              exact absurd H (by simp)
          · rw [if_neg c6] at H
            have c6b0 : decide (x4_1 < (l0.length : Int)) = false:=decide_eq_false c6
            clear c6
            obtain rfl:=Option.some.inj H
            go_wp2
            go_ret
            exact ⟨_,by first|rfl|(simp [errW_none,errW_some] <;> rfl)|(simp [*,errW_none,errW_some] <;> rfl),by (with_reducible repeat (first|apply Kd.R_alloc|apply Kd.R_drewN|apply Kd.R_drew));exact HO_3.out,by repeat (first|(with_reducible first|exact HB.out|apply qf|apply qa|apply qd)|exact HB.out)⟩
    · rw [if_neg c3] at H
      exact absurd H (by simp)
  · rw [if_neg c2] at H
    exact absurd H (by simp)

/-! ### impl_in: function 79 -/
def impl_in.f (a0 : Int) (a1 : Int) (a2 : Int) : Option (Bool):=if a0 ≥ a1 then (some (decide (a0 ≤ a2))) else (some false)
set_option maxHeartbeats 8000000 in
set_option maxRecDepth 100000 in
theorem impl_in.calls (a0 : Int) (a1 : Int) (a2 : Int) (r : Bool) (w : World) (h : impl_in.f a0 a1 a2 = some r) :
    Calls Try.prog 79 #[.int .i64 a0,.int .i64 a1,.int .i64 a2] w fun e w'=>e = .returned (.bool r) ∧ Drawn0 w w':=by
  have H : (if a0 ≥ a1 then (some (decide (a0 ≤ a2))) else (some false)) = some r:=h
  clear h
  by_cases c4 : a0 ≥ a1
  · rw [if_pos c4] at H
    have c4b0 : decide (a1 ≤ a0) = true:=decide_eq_true c4
    clear c4
    obtain rfl:=Option.some.inj H
    go_enter Try.func79,Try.ntmps79
    go_wp2
    go_ret
    exact ⟨by first|rfl|(simp;done)|(simp [*];done),by repeat (first|exact Drawn0.refl _|apply Drawn0.step)⟩
  · rw [if_neg c4] at H
    have c4b0 : decide (a1 ≤ a0) = false:=decide_eq_false c4
    clear c4
    obtain rfl:=Option.some.inj H
    go_enter Try.func79,Try.ntmps79
    go_wp2
    go_ret
    exact ⟨by first|rfl|(simp;done)|(simp [*];done),by repeat (first|exact Drawn0.refl _|apply Drawn0.step)⟩

end Go.Proofs.Ytbonjmnpcklciaa.QFnExactInduced
