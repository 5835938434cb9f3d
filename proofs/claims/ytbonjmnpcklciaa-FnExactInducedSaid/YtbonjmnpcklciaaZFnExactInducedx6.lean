/- Lean functions for the Go functions that the law FnExactInduced reaches, and that each Go function comes to just its Lean function's answer; by a program of this session. -/
import Derived.Test.YtbonjmnpcklciaaZFnExactInducedx0
import Derived.Test.YtbonjmnpcklciaaZFnExactInducedx3
import Derived.Test.YtbonjmnpcklciaaZFnExactInducedx4
import Derived.Test.YtbonjmnpcklciaaZFnExactInducedx5
namespace Go.Proofs.Ytbonjmnpcklciaa.QFnExactInduced
open Go.RowKit Go.Proofs.YtbonjmnpcklciaaW.PrintWords Go.Proofs.YtbonjmnpcklciaaW.PrintLast Go.Proofs.YtbonjmnpcklciaaW.PrintMore
attribute [local go_sem] max2_int min2_int max_two min_two max_three min_three max_four min_four   -- for this text's walks alone
set_option linter.unusedVariables false
set_option linter.unusedSimpArgs false

/-! ### impl_Induced: function 43 -/
mutual
def impl_Induced.l0 : Nat → List Int → List Int → Int → Int → Int → List (S148) → Option (Int × (List (S148)) × Bool)
  | 0,_,_,_,_,_,_=>none
  | k + 1,x1,x18,x19,x20,x178000,x178001=>if x20 < x19 then (if 0 ≤ x20 then (if x20 < (x18.length : Int) then ((impl_in.f (rd x18 x20) 0 (wrap64 (x178000 - 1))).bind fun t181=>(if t181 = true then (if x20 > 0 then (if 0 ≤ (wrap64 (x20 - 1)) then (if (wrap64 (x20 - 1)) < (x1.length : Int) then (if (rd x1 (wrap64 (x20 - 1))) ≥ (rd x18 x20) then (some (0,([] : List (S148)),false)) else (impl_Induced.l0 k x1 x18 x19 (wrap64 (x20 + 1)) x178000 x178001)) else (none)) else (none)) else (impl_Induced.l0 k x1 x18 x19 (wrap64 (x20 + 1)) x178000 x178001)) else (some (0,([] : List (S148)),false)))) else (none)) else (none)) else (impl_Induced.l1 k x1 x1 (x1.length : Int) 0 x178000 x178001 (x1.length : Int) ([] : List (S148)))
def impl_Induced.l1 : Nat → List Int → List Int → Int → Int → Int → List (S148) → Int → List (S148) → Option (Int × (List (S148)) × Bool)
  | 0,_,_,_,_,_,_,_,_=>none
  | k + 1,x1,x49,x50,x51,x178000,x178001,x184000,x184001=>if x51 < x50 then (if 0 ≤ x51 then (if x51 < (x49.length : Int) then (impl_Induced.l2 k x1 x51 (rd x49 x51) (wrap64 (x51 + 1)) x49 x50 x51 x178000 x178001 x184000 x184001) else (none)) else (none)) else (some (x184000,x184001,true))
def impl_Induced.l2 : Nat → List Int → Int → Int → Int → List Int → Int → Int → Int → List (S148) → Int → List (S148) → Option (Int × (List (S148)) × Bool)
  | 0,_,_,_,_,_,_,_,_,_,_,_=>none
  | k + 1,x1,x9,x10,x11,x49,x50,x51,x178000,x178001,x184000,x184001=>if x11 < (x1.length : Int) then (if 0 ≤ x11 then ((impl_edgeAt.f k x178000 x178001 x10 (rd x1 x11)).bind fun t186=>(if t186 ≥ 0 then (if 0 ≤ t186 then (if t186 < (x178001.length : Int) then (if x184001.length < 3518437208883 then (impl_Induced.l2 k x1 x9 x10 (wrap64 (x11 + 1)) x49 x50 x51 x178000 x178001 x184000 (x184001 ++ [(⟨x9,x11,(rd_T148 x178001 t186).f2,(rd_T148 x178001 t186).f3,(rd_T148 x178001 t186).f4⟩ : S148)])) else (none)) else (none)) else (none)) else (impl_Induced.l2 k x1 x9 x10 (wrap64 (x11 + 1)) x49 x50 x51 x178000 x178001 x184000 x184001))) else (none)) else (impl_Induced.l1 k x1 x49 x50 (wrap64 (x51 + 1)) x178000 x178001 x184000 x184001)
end
def impl_Induced.f (k : Nat) (a0_0 : Int) (l0_1 : List (S148)) (l1 : List Int) : Option (Int × (List (S148)) × Bool):=(impl_GraphOk.f k a0_0 l0_1).bind fun t179=>(if t179 = true then (impl_Induced.l0 k l1 l1 (l1.length : Int) 0 a0_0 l0_1) else (some (0,([] : List (S148)),false)))
theorem impl_Induced.mono_l : ∀ k,(∀ y0 y1 y2 y3 y4 y5,LeO (impl_Induced.l0 k y0 y1 y2 y3 y4 y5) (impl_Induced.l0 (k + 1) y0 y1 y2 y3 y4 y5)) ∧ (∀ y0 y1 y2 y3 y4 y5 y6 y7,LeO (impl_Induced.l1 k y0 y1 y2 y3 y4 y5 y6 y7) (impl_Induced.l1 (k + 1) y0 y1 y2 y3 y4 y5 y6 y7)) ∧ (∀ y0 y1 y2 y3 y4 y5 y6 y7 y8 y9 y10,LeO (impl_Induced.l2 k y0 y1 y2 y3 y4 y5 y6 y7 y8 y9 y10) (impl_Induced.l2 (k + 1) y0 y1 y2 y3 y4 y5 y6 y7 y8 y9 y10))
  | 0=>⟨fun _ _ _ _ _ _ r h=>by simp [impl_Induced.l0] at h,fun _ _ _ _ _ _ _ _ r h=>by simp [impl_Induced.l1] at h,fun _ _ _ _ _ _ _ _ _ _ _ r h=>by simp [impl_Induced.l2] at h⟩
  | k + 1=>by
    obtain ⟨ih0,ih1,ih2⟩:=impl_Induced.mono_l k
    refine ⟨?_,?_,?_⟩
    · intro y0 y1 y2 y3 y4 y5
      unfold impl_Induced.l0
      repeat' first
      | (with_reducible exact ih0 _ _ _ _ _ _)
      | (with_reducible exact ih1 _ _ _ _ _ _ _ _)
      | (with_reducible exact ih2 _ _ _ _ _ _ _ _ _ _ _)
      | (with_reducible exact impl_GraphOk.mono _ _ _)
      | (with_reducible exact impl_edgeAt.mono _ _ _ _ _)
      | (with_reducible exact LeO.refl _)
      | (with_reducible exact LeO.none _)
      | (with_reducible refine LeO.ite ?_ ?_)
      | (with_reducible refine LeO.bind ?_ (fun _=>?_))
      | exact ih0 _ _ _ _ _ _
      | exact ih1 _ _ _ _ _ _ _ _
      | exact ih2 _ _ _ _ _ _ _ _ _ _ _
      | exact impl_GraphOk.mono _ _ _
      | exact impl_edgeAt.mono _ _ _ _ _
      | exact LeO.none _
      | refine LeO.ite ?_ ?_
      | refine LeO.bind ?_ (fun _=>?_)
    · intro y0 y1 y2 y3 y4 y5 y6 y7
      unfold impl_Induced.l1
      repeat' first
      | (with_reducible exact ih0 _ _ _ _ _ _)
      | (with_reducible exact ih1 _ _ _ _ _ _ _ _)
      | (with_reducible exact ih2 _ _ _ _ _ _ _ _ _ _ _)
      | (with_reducible exact impl_GraphOk.mono _ _ _)
      | (with_reducible exact impl_edgeAt.mono _ _ _ _ _)
      | (with_reducible exact LeO.refl _)
      | (with_reducible exact LeO.none _)
      | (with_reducible refine LeO.ite ?_ ?_)
      | (with_reducible refine LeO.bind ?_ (fun _=>?_))
      | exact ih0 _ _ _ _ _ _
      | exact ih1 _ _ _ _ _ _ _ _
      | exact ih2 _ _ _ _ _ _ _ _ _ _ _
      | exact impl_GraphOk.mono _ _ _
      | exact impl_edgeAt.mono _ _ _ _ _
      | exact LeO.none _
      | refine LeO.ite ?_ ?_
      | refine LeO.bind ?_ (fun _=>?_)
    · intro y0 y1 y2 y3 y4 y5 y6 y7 y8 y9 y10
      unfold impl_Induced.l2
      repeat' first
      | (with_reducible exact ih0 _ _ _ _ _ _)
      | (with_reducible exact ih1 _ _ _ _ _ _ _ _)
      | (with_reducible exact ih2 _ _ _ _ _ _ _ _ _ _ _)
      | (with_reducible exact impl_GraphOk.mono _ _ _)
      | (with_reducible exact impl_edgeAt.mono _ _ _ _ _)
      | (with_reducible exact LeO.refl _)
      | (with_reducible exact LeO.none _)
      | (with_reducible refine LeO.ite ?_ ?_)
      | (with_reducible refine LeO.bind ?_ (fun _=>?_))
      | exact ih0 _ _ _ _ _ _
      | exact ih1 _ _ _ _ _ _ _ _
      | exact ih2 _ _ _ _ _ _ _ _ _ _ _
      | exact impl_GraphOk.mono _ _ _
      | exact impl_edgeAt.mono _ _ _ _ _
      | exact LeO.none _
      | refine LeO.ite ?_ ?_
      | refine LeO.bind ?_ (fun _=>?_)
theorem impl_Induced.mono : ∀ a0 a1 a2 k,LeO (impl_Induced.f k a0 a1 a2) (impl_Induced.f (k + 1) a0 a1 a2):=by
  intro a0 a1 a2 k
  obtain ⟨ih0,ih1,ih2⟩:=impl_Induced.mono_l k
  unfold impl_Induced.f
  repeat' first
      | (with_reducible exact ih0 _ _ _ _ _ _)
      | (with_reducible exact ih1 _ _ _ _ _ _ _ _)
      | (with_reducible exact ih2 _ _ _ _ _ _ _ _ _ _ _)
      | (with_reducible exact impl_GraphOk.mono _ _ _)
      | (with_reducible exact impl_edgeAt.mono _ _ _ _ _)
      | (with_reducible exact LeO.refl _)
      | (with_reducible exact LeO.none _)
      | (with_reducible refine LeO.ite ?_ ?_)
      | (with_reducible refine LeO.bind ?_ (fun _=>?_))
      | exact ih0 _ _ _ _ _ _
      | exact ih1 _ _ _ _ _ _ _ _
      | exact ih2 _ _ _ _ _ _ _ _ _ _ _
      | exact impl_GraphOk.mono _ _ _
      | exact impl_edgeAt.mono _ _ _ _ _
      | exact LeO.none _
      | refine LeO.ite ?_ ?_
      | refine LeO.bind ?_ (fun _=>?_)
def impl_Induced.T16 : Bool × List (List Nat × List Nat):=(true,[([],[]),([],[]),([],[]),([],[]),([2,3],[2,3]),([4],[4]),([0,1,5],[0,1,5]),([6,6,0,1,2,3,4,5,6],[6])])
def impl_Induced.B16 : List Nat:=[0,0,0,0,12,28,63,127]
theorem impl_Induced.tab16 : rtab .any (opsOf Try.f43 16) = impl_Induced.T16:=by kernel_rfl
theorem impl_Induced.bits16 : waitsOk impl_Induced.T16.2 impl_Induced.B16 = true:=by kernel_rfl
set_option maxHeartbeats 8000000 in
set_option maxRecDepth 100000 in
theorem impl_Induced.calls (k : Nat) (a0_0 : Int) (A0_1 : Option Addr) (c0_1 : Nat) (l0_1 : List (S148)) (A1 : Option Addr) (c1 : Nat) (l1 : List Int) (r1 : Int) (r2 : List (S148)) (r3 : Bool) (w : World) (hr0_1 : Kd.C k148 w A0_1 l0_1.length l0_1) (hc0_1 : l0_1.length ≤ c0_1) (hr1 : Kd.C (Kd.int .i64) w A1 l1.length l1) (hc1 : l1.length ≤ c1) (h : impl_Induced.f k a0_0 l0_1 l1 = some (r1,r2,r3)) :
    Calls Try.prog 43 #[.agg #[.int .i64 a0_0,.slice A0_1 l0_1.length c0_1],.slice A1 l1.length c1] w fun e w'=>∃ v1_ : Value,e = .returned (.tuple #[.agg #[.int .i64 r1,v1_],.bool r3]) ∧ Kd.R k148 148 w' w.heap.size (fun _=>True) v1_ r2 ∧ Below w.heap.size w w':=by
  have hu56:=Try.underlying56
  have hu148:=Try.underlying148
  have HR0_1:=qn.mk hr0_1
  have HC0_1:=qn.mk hc0_1
  clear hr0_1 hc0_1
  have HR1:=qn.mk hr1
  have HC1:=qn.mk hc1
  clear hr1 hc1
  have HB:=qn.mk (Below.refl w.heap.size w)
  have H : ((impl_GraphOk.f k a0_0 l0_1).bind fun t179=>(if t179 = true then (impl_Induced.l0 k l1 l1 (l1.length : Int) 0 a0_0 l0_1) else (some (0,([] : List (S148)),false)))) = some (r1,r2,r3):=h
  clear h
  replace H:=Option.bind_eq_some_iff.mp H
  obtain ⟨t179,A30,H⟩:=H
  replace H : (if t179 = true then (impl_Induced.l0 k l1 l1 (l1.length : Int) 0 a0_0 l0_1) else (some (0,([] : List (S148)),false))) = some (r1,r2,r3):=H
  have A3:=qn.mk A30
  clear A30
  by_cases c4 : t179 = true
  · subst c4
    have H1 : (impl_Induced.l0 k l1 l1 (l1.length : Int) 0 a0_0 l0_1) = some (r1,r2,r3):=by rw [if_pos rfl] at H;exact H
    clear H
    have H:=H1
    clear H1
    have H':=qn.mk H
    clear H
    go_enter Try.func43,Try.ntmps43
    go_wp2_with (first|((with_reducible refine gate_dst (N:=2) rfl ?_);refine box_event ?hg (N:=2) ?hd (cs:=#[.int .i64 a0_0,.slice A0_1 l0_1.length c0_1]) (t:=56) ?hr ?_;(case hd=>rfl);(case hg=>rfl);(case hr=>first|(go_simp;done)|(go_simp;rfl));intro gb177 hg w5 hbox hb;have n0_:=hs_ HB hb;have n1_:=qn.mk (hbox);have n2_:=qn.mk ((by rw [hg];exact (qj (by repeat (first|(with_reducible first|exact HB.out|apply qf|apply qa|apply qd)|exact HB.out))) : w.heap.size ≤ gb177));have n3_:=qn.mk ((by rw [hg];exact (qj (by repeat (first|(with_reducible first|exact HB.out|apply qf|apply qa|apply qd)|exact HB.out))) : w.heap.size ≤ gb177));clear HB;have HB:=n0_;have BK177:=n1_;have GW177:=n2_;have GE177:=n3_;clear n0_ n1_ n2_ n3_;clear hb hbox hg)|((with_reducible refine gate_dst (N:=4) rfl ?_);refine box_event ?hg (N:=4) ?hd (cs:=#[.int .i64 0,.slice none 0 0]) (t:=56) ?hr ?_;(case hd=>rfl);(case hg=>rfl);(case hr=>first|(go_simp;done)|(go_simp;rfl));intro gb178 hg w6 hbox hb;have n0_:=bb_ BK177 hb;have n1_:=hs_ HB hb;have n2_:=qn.mk (hbox);have n3_:=qn.mk ((by rw [hg];exact (qj (by repeat (first|(with_reducible first|exact HB.out|apply qf|apply qa|apply qd|refine qg ?_ GE177.out)|exact HB.out))) : w.heap.size ≤ gb178));have n4_:=qn.mk ((by rw [hg];exact (qj (by repeat (first|(with_reducible first|exact HB.out|apply qf|apply qa|apply qd|refine qg ?_ GE177.out)|exact HB.out))) : w.heap.size ≤ gb178));have n5_:=qn.mk ((by rw [hg];exact nl_ BK177 : gb177 ≠ gb178));have n6_:=qn.mk ((by rw [hg];exact ng_ BK177 : gb178 ≠ gb177));clear BK177;clear HB;have BK177:=n0_;have HB:=n1_;have BK178:=n2_;have GW178:=n3_;have GE178:=n4_;have NB177_178:=n5_;have NB178_177:=n6_;clear n0_ n1_ n2_ n3_ n4_ n5_ n6_;clear hb hbox hg;have hnb7:=NB177_178.out;have hnc7:=NB178_177.out;have hcz8_0 : w6.cell? ⟨gb177,0,none⟩ = some (.int .i64 a0_0):=(qh BK177.out 0).trans rfl;have hcz8_1 : w6.cell? ⟨gb177,1,none⟩ = some (.slice A0_1 l0_1.length c0_1):=(qh BK177.out 1).trans rfl;have hfz8_0:=qi BK177.out 0;have hfz8_1:=qi BK177.out 1)|((with_reducible refine gate_callee (f:=97) rfl ?_);refine goesL_ (some 15) rfl rfl Try.func97 (by kernel_rfl) rfl #[.agg #[.int .i64 a0_0,.slice A0_1 l0_1.length c0_1]] rfl (by (try simp only [List.map_toArray,List.map_cons,List.map_nil]);first|done|rfl|(simp only [List.length_drop,List.length_take];rfl)) ?_;(with_reducible refine (impl_GraphOk.calls k a0_0 _ _ l0_1 true _ ?side1 ?side2 A3.out).mono ?_);(case side1=>repeat (first|exact (Kd.C_below HR0_1.out HB.out)|(with_reducible refine Kd.C_alloc ?_ _)|(with_reducible refine Kd.C_drewN ?_ _)|(with_reducible refine Kd.C_drew ?_)));(case side2=>exact HC0_1.out);rintro e w9 ⟨rfl,hb⟩;refine ⟨_,rfl,?_⟩;have n0_:=bb_ BK177 hb;have n1_:=bb_ BK178 hb;have n2_:=hs_ HB hb;clear BK177;clear BK178;clear HB;have BK177:=n0_;have BK178:=n1_;have HB:=n2_;clear n0_ n1_ n2_;(try clear hb);(try clear hb2);(try clear hk);(try clear hi)))
    go_loopg [20] k (fun kq v20 w'=>∃ (x20_1 : Int) (x179000_1 : Int),v20 = .int .i64 x20_1 ∧ qn (impl_Induced.l0 kq l1 l1 (l1.length : Int) x20_1 a0_0 l0_1 = some (r1,r2,r3)) ∧ qn (kq ≤ k) ∧ qn (w'.heap[gb177]? = some (.cells #[.int .i64 a0_0,(.slice A0_1 l0_1.length c0_1)] 56 (0,0))) ∧ qn (w'.heap[gb178]? = some (.cells #[.int .i64 x179000_1,(.slice none 0 0)] 56 (0,0))) ∧ qn (Below w.heap.size w w'))
    case atStart=>exact ⟨(0),(0),(by first|rfl|(simp;done)|(simp [*];done)),H',⟨Nat.le_refl _⟩,⟨by (with_reducible repeat (first|refine qb ?_ _|refine qe ?_|refine qc ?_ _));exact BK177.out⟩,⟨by (with_reducible repeat (first|refine qb ?_ _|refine qe ?_|refine qc ?_ _));exact BK178.out⟩,⟨by repeat (first|(with_reducible first|exact HB.out|apply qf|apply qa|apply qd|refine qg ?_ GE177.out|refine qg ?_ GE178.out)|exact HB.out)⟩⟩
    case round =>
      clear H'
      try clear c1
      try clear p2
      try clear c4
      try clear c7
      try clear c9
      try clear hcz8_0
      try clear hcz8_1
      try clear hfz8_0
      try clear hfz8_1
      obtain ⟨x20_1,x179000_1,rfl,HA,HK1,BK177,BK178,HB⟩:=hrel
      cases gk with
      | zero=>exact absurd HA.out (by simp [impl_Induced.l0])
      | succ k1 =>
        have H:=HA.out
        clear HA
        simp only [impl_Induced.l0] at H
        by_cases c10 : x20_1 < (l1.length : Int)
        · rw [if_pos c10] at H
          have c10b0 : decide (x20_1 < (l1.length : Int)) = true:=decide_eq_true c10
          clear c10
          by_cases c11 : 0 ≤ x20_1
          · rw [if_pos c11] at H
            have c11b0 : decide (0 ≤ x20_1) = true:=decide_eq_true c11
            clear c11
            by_cases c12 : x20_1 < (l1.length : Int)
            · rw [if_pos c12] at H
              have c12b0 : decide (x20_1 < (l1.length : Int)) = true:=decide_eq_true c12
              clear c12
              replace H:=Option.bind_eq_some_iff.mp H
              obtain ⟨t181,A130,H⟩:=H
              replace H : (if t181 = true then (if x20_1 > 0 then (if 0 ≤ (wrap64 (x20_1 - 1)) then (if (wrap64 (x20_1 - 1)) < (l1.length : Int) then (if (rd l1 (wrap64 (x20_1 - 1))) ≥ (rd l1 x20_1) then (some (0,([] : List (S148)),false)) else (impl_Induced.l0 k1 l1 l1 (l1.length : Int) (wrap64 (x20_1 + 1)) a0_0 l0_1)) else (none)) else (none)) else (impl_Induced.l0 k1 l1 l1 (l1.length : Int) (wrap64 (x20_1 + 1)) a0_0 l0_1)) else (some (0,([] : List (S148)),false))) = some (r1,r2,r3):=H
              have A13:=qn.mk A130
              clear A130
              by_cases c14 : t181 = true
              · subst c14
                have H1 : (if x20_1 > 0 then (if 0 ≤ (wrap64 (x20_1 - 1)) then (if (wrap64 (x20_1 - 1)) < (l1.length : Int) then (if (rd l1 (wrap64 (x20_1 - 1))) ≥ (rd l1 x20_1) then (some (0,([] : List (S148)),false)) else (impl_Induced.l0 k1 l1 l1 (l1.length : Int) (wrap64 (x20_1 + 1)) a0_0 l0_1)) else (none)) else (none)) else (impl_Induced.l0 k1 l1 l1 (l1.length : Int) (wrap64 (x20_1 + 1)) a0_0 l0_1)) = some (r1,r2,r3):=by rw [if_pos rfl] at H;exact H
                clear H
                have H:=H1
                clear H1
                by_cases c15 : x20_1 > 0
                · rw [if_pos c15] at H
                  have c15b0 : decide (0 < x20_1) = true:=decide_eq_true c15
                  clear c15
                  obtain ⟨ji16,hji16⟩ : ∃ j_ : Int,(wrap64 (x20_1 - 1)) = j_:=⟨_,rfl⟩
                  replace H : (if 0 ≤ (ji16) then (if (ji16) < (l1.length : Int) then (if (rd l1 (ji16)) ≥ (rd l1 x20_1) then (some (0,([] : List (S148)),false)) else (impl_Induced.l0 k1 l1 l1 (l1.length : Int) (wrap64 (x20_1 + 1)) a0_0 l0_1)) else (none)) else (none)) = some (r1,r2,r3):=by first|(rw [hji16] at H;exact H)|(simp only [hji16] at H ⊢;exact H)
                  (try rw [hji16] at A13)
                  have hji16w : (IntKind.i64.wrap (x20_1 - 1)) = ji16:=(i64_w _).trans hji16
                  by_cases c17 : 0 ≤ (ji16)
                  · rw [if_pos c17] at H
                    have c17b0 : decide (0 ≤ (ji16)) = true:=decide_eq_true c17
                    clear c17
                    by_cases c18 : (ji16) < (l1.length : Int)
                    · rw [if_pos c18] at H
                      have c18b0 : decide ((ji16) < (l1.length : Int)) = true:=decide_eq_true c18
                      clear c18
                      by_cases c19 : (rd l1 (ji16)) ≥ (rd l1 x20_1)
                      · rw [if_pos c19] at H
                        have c19b0 : decide ((rd l1 x20_1) ≤ (rd l1 (ji16))) = true:=decide_eq_true c19
                        clear c19
                        simp only [Option.some.injEq,Prod.mk.injEq] at H
                        obtain ⟨rfl,rfl,rfl⟩:=H
                        have p180 : 0 ≤ (x20_1 : Int):=of_decide_eq_true (by first|(with_reducible assumption)|assumption)
                        have q180 : x20_1 < (l1.length : Int):=of_decide_eq_true (by first|(with_reducible assumption)|assumption)
                        obtain ⟨ad180,e180,hx180_0⟩:=Kd.at_int HR1.out x20_1 p180 q180
                        cases e180
                        replace hx180_0:=cb_ HB hx180_0
                        replace p180:=eq_true p180
                        replace q180:=eq_true q180
                        have hnb20:=NB177_178.out
                        have hnc20:=NB178_177.out
                        have hcz21_0 : wr.cell? ⟨gb177,0,none⟩ = some (.int .i64 a0_0):=(qh BK177.out 0).trans rfl
                        have hcz21_1 : wr.cell? ⟨gb177,1,none⟩ = some (.slice A0_1 l0_1.length c0_1):=(qh BK177.out 1).trans rfl
                        have hfz21_0:=qi BK177.out 0
                        have hfz21_1:=qi BK177.out 1
                        go_wp2_with (first|((with_reducible refine gate_callee (f:=79) rfl ?_);refine goesL_ (some 29) rfl rfl Try.func79 (by kernel_rfl) rfl #[.int .i64 (rd l1 x20_1),.int .i64 0,.int .i64 (wrap64 (a0_0 - 1))] rfl (by (try simp only [List.map_toArray,List.map_cons,List.map_nil]);first|done|rfl|(simp only [List.length_drop,List.length_take];rfl)) ?_;(with_reducible refine (impl_in.calls (rd l1 x20_1) 0 (wrap64 (a0_0 - 1)) true _ A13.out).mono ?_);rintro e w' ⟨rfl,⟨nd,rfl⟩⟩;refine ⟨_,rfl,?_⟩;(try (rw [drewN_self wr];generalize hq_ : World.drewN wr _ = wr;have n0_ : qn (wr.heap[gb177]? = some (.cells #[.int .i64 a0_0,.slice A0_1 l0_1.length c0_1] 56 (0,0))):=⟨by rw [← hq_];exact (by (with_reducible repeat (first|refine qb ?_ _|refine qe ?_|refine qc ?_ _));exact BK177.out)⟩;have n1_ : qn (wr.heap[gb178]? = some (.cells #[.int .i64 x179000_1,.slice none 0 0] 56 (0,0))):=⟨by rw [← hq_];exact (by (with_reducible repeat (first|refine qb ?_ _|refine qe ?_|refine qc ?_ _));exact BK178.out)⟩;have n2_ : qn (Below w.heap.size w wr):=⟨by rw [← hq_];exact (by repeat (first|(with_reducible first|exact HB.out|apply qf|apply qa|apply qd|refine qg ?_ GE177.out|refine qg ?_ GE178.out)|exact HB.out))⟩;clear BK177 BK178 HB hq_;have BK177:=n0_;have BK178:=n1_;have HB:=n2_;clear n0_ n1_ n2_));have p182 : 0 ≤ ((ji16) : Int):=of_decide_eq_true (by first|(with_reducible assumption)|assumption);have q182 : (ji16) < (l1.length : Int):=of_decide_eq_true (by first|(with_reducible assumption)|assumption);obtain ⟨ad182,e182,hx182_0⟩:=Kd.at_int HR1.out (ji16) p182 q182;obtain rfl : ad180 = ad182:=(by injection e182);replace hx182_0:=cb_ HB hx182_0;replace p182:=eq_true p182;replace q182:=eq_true q182;have hcz22_0 : wr.cell? ⟨gb178,0,none⟩ = some (.int .i64 x179000_1):=(qh BK178.out 0).trans rfl;have hcz22_1 : wr.cell? ⟨gb178,1,none⟩ = some (.slice none 0 0):=(qh BK178.out 1).trans rfl;have hfz22_0:=qi BK178.out 0;have hfz22_1:=qi BK178.out 1))
                        refine bodyPost_ret (results_ct rfl _ _ gb178 56 #[.int .i64 0,.slice none 0 0] (0,0) _ rfl (by (with_reducible repeat (first|refine qb ?_ _|refine qe ?_|refine qc ?_ _));refine blk_put (cs:=#[.int .i64 0,.slice none 0 0]) ?_ 1 _ rfl;(with_reducible repeat (first|refine qb ?_ _|refine qe ?_|refine qc ?_ _));refine blk_put (cs:=#[.int .i64 x179000_1,.slice none 0 0]) ?_ 0 _ rfl;(with_reducible repeat (first|refine qb ?_ _|refine qe ?_|refine qc ?_ _));exact BK178.out) Try.underlying56 rfl (by kernel_rfl)) rfl ?_
                        exact ⟨_,by first|rfl|(simp [errW_none,errW_some] <;> rfl)|(simp only [← hji16];first|rfl|(simp [errW_none,errW_some] <;> rfl))|(simp [*,errW_none,errW_some] <;> rfl),by first|exact Kd.R_nil _ _ _ _ _|exact Kd.N_nil _ _ _ _ _|exact Kd.V_nil _ _ _ _ _|exact Kd.Q_nil _ _ _ _ _|exact Kd.S_nil _ _ _ _ _,by repeat (first|(with_reducible first|exact HB.out|apply qf|apply qa|apply qd|refine qg ?_ GE177.out|refine qg ?_ GE178.out)|exact HB.out)⟩
                      · rw [if_neg c19] at H
                        have c19b0 : decide ((rd l1 x20_1) ≤ (rd l1 (ji16))) = false:=decide_eq_false c19
                        clear c19
                        have H':=qn.mk H
                        clear H
                        have p180 : 0 ≤ (x20_1 : Int):=of_decide_eq_true (by first|(with_reducible assumption)|assumption)
                        have q180 : x20_1 < (l1.length : Int):=of_decide_eq_true (by first|(with_reducible assumption)|assumption)
                        obtain ⟨ad180,e180,hx180_0⟩:=Kd.at_int HR1.out x20_1 p180 q180
                        cases e180
                        replace hx180_0:=cb_ HB hx180_0
                        replace p180:=eq_true p180
                        replace q180:=eq_true q180
                        have hnb23:=NB177_178.out
                        have hnc23:=NB178_177.out
                        have hcz24_0 : wr.cell? ⟨gb177,0,none⟩ = some (.int .i64 a0_0):=(qh BK177.out 0).trans rfl
                        have hcz24_1 : wr.cell? ⟨gb177,1,none⟩ = some (.slice A0_1 l0_1.length c0_1):=(qh BK177.out 1).trans rfl
                        have hfz24_0:=qi BK177.out 0
                        have hfz24_1:=qi BK177.out 1
                        go_wp2_with (first|((with_reducible refine gate_callee (f:=79) rfl ?_);refine goesL_ (some 29) rfl rfl Try.func79 (by kernel_rfl) rfl #[.int .i64 (rd l1 x20_1),.int .i64 0,.int .i64 (wrap64 (a0_0 - 1))] rfl (by (try simp only [List.map_toArray,List.map_cons,List.map_nil]);first|done|rfl|(simp only [List.length_drop,List.length_take];rfl)) ?_;(with_reducible refine (impl_in.calls (rd l1 x20_1) 0 (wrap64 (a0_0 - 1)) true _ A13.out).mono ?_);rintro e w' ⟨rfl,⟨nd,rfl⟩⟩;refine ⟨_,rfl,?_⟩;have p182 : 0 ≤ ((ji16) : Int):=of_decide_eq_true (by first|(with_reducible assumption)|assumption);have q182 : (ji16) < (l1.length : Int):=of_decide_eq_true (by first|(with_reducible assumption)|assumption);obtain ⟨ad182,e182,hx182_0⟩:=Kd.at_int HR1.out (ji16) p182 q182;obtain rfl : ad180 = ad182:=(by injection e182);replace hx182_0:=cb_ HB hx182_0;replace p182:=eq_true p182;replace q182:=eq_true q182))
                        go_roundg k1
                        case measure=>have:=HK1.out;omega
                        case rel=>exact ⟨(wrap64 (x20_1 + 1)),(x179000_1),(by first|rfl|(simp;done)|(simp [*];done)),H',⟨by have:=HK1.out;omega⟩,⟨by (with_reducible repeat (first|refine qb ?_ _|refine qe ?_|refine qc ?_ _));exact BK177.out⟩,⟨by (with_reducible repeat (first|refine qb ?_ _|refine qe ?_|refine qc ?_ _));exact BK178.out⟩,⟨by repeat (first|(with_reducible first|exact HB.out|apply qf|apply qa|apply qd|refine qg ?_ GE177.out|refine qg ?_ GE178.out)|exact HB.out)⟩⟩
                    · rw [if_neg c18] at H
                      exact absurd H (by simp)
                  · rw [if_neg c17] at H
                    exact absurd H (by simp)
                · rw [if_neg c15] at H
                  have c15b0 : decide (0 < x20_1) = false:=decide_eq_false c15
                  clear c15
                  have H':=qn.mk H
                  clear H
                  have p180 : 0 ≤ (x20_1 : Int):=of_decide_eq_true (by first|(with_reducible assumption)|assumption)
                  have q180 : x20_1 < (l1.length : Int):=of_decide_eq_true (by first|(with_reducible assumption)|assumption)
                  obtain ⟨ad180,e180,hx180_0⟩:=Kd.at_int HR1.out x20_1 p180 q180
                  cases e180
                  replace hx180_0:=cb_ HB hx180_0
                  replace p180:=eq_true p180
                  replace q180:=eq_true q180
                  have hnb25:=NB177_178.out
                  have hnc25:=NB178_177.out
                  have hcz26_0 : wr.cell? ⟨gb177,0,none⟩ = some (.int .i64 a0_0):=(qh BK177.out 0).trans rfl
                  have hcz26_1 : wr.cell? ⟨gb177,1,none⟩ = some (.slice A0_1 l0_1.length c0_1):=(qh BK177.out 1).trans rfl
                  have hfz26_0:=qi BK177.out 0
                  have hfz26_1:=qi BK177.out 1
                  go_wp2_with (first|((with_reducible refine gate_callee (f:=79) rfl ?_);refine goesL_ (some 29) rfl rfl Try.func79 (by kernel_rfl) rfl #[.int .i64 (rd l1 x20_1),.int .i64 0,.int .i64 (wrap64 (a0_0 - 1))] rfl (by (try simp only [List.map_toArray,List.map_cons,List.map_nil]);first|done|rfl|(simp only [List.length_drop,List.length_take];rfl)) ?_;(with_reducible refine (impl_in.calls (rd l1 x20_1) 0 (wrap64 (a0_0 - 1)) true _ A13.out).mono ?_);rintro e w' ⟨rfl,⟨nd,rfl⟩⟩;refine ⟨_,rfl,?_⟩))
                  go_roundg k1
                  case measure=>have:=HK1.out;omega
                  case rel=>exact ⟨(wrap64 (x20_1 + 1)),(x179000_1),(by first|rfl|(simp;done)|(simp [*];done)),H',⟨by have:=HK1.out;omega⟩,⟨by (with_reducible repeat (first|refine qb ?_ _|refine qe ?_|refine qc ?_ _));exact BK177.out⟩,⟨by (with_reducible repeat (first|refine qb ?_ _|refine qe ?_|refine qc ?_ _));exact BK178.out⟩,⟨by repeat (first|(with_reducible first|exact HB.out|apply qf|apply qa|apply qd|refine qg ?_ GE177.out|refine qg ?_ GE178.out)|exact HB.out)⟩⟩
              · replace c14:=Bool.eq_false_iff.mpr c14
                subst c14
                have H1 : (some (0,([] : List (S148)),false)) = some (r1,r2,r3):=by rw [if_neg (show ¬ (false = true) by decide)] at H;exact H
                clear H
                have H:=H1
                clear H1
                simp only [Option.some.injEq,Prod.mk.injEq] at H
                obtain ⟨rfl,rfl,rfl⟩:=H
                have p180 : 0 ≤ (x20_1 : Int):=of_decide_eq_true (by first|(with_reducible assumption)|assumption)
                have q180 : x20_1 < (l1.length : Int):=of_decide_eq_true (by first|(with_reducible assumption)|assumption)
                obtain ⟨ad180,e180,hx180_0⟩:=Kd.at_int HR1.out x20_1 p180 q180
                cases e180
                replace hx180_0:=cb_ HB hx180_0
                replace p180:=eq_true p180
                replace q180:=eq_true q180
                have hnb27:=NB177_178.out
                have hnc27:=NB178_177.out
                have hcz28_0 : wr.cell? ⟨gb177,0,none⟩ = some (.int .i64 a0_0):=(qh BK177.out 0).trans rfl
                have hcz28_1 : wr.cell? ⟨gb177,1,none⟩ = some (.slice A0_1 l0_1.length c0_1):=(qh BK177.out 1).trans rfl
                have hfz28_0:=qi BK177.out 0
                have hfz28_1:=qi BK177.out 1
                go_wp2_with (first|((with_reducible refine gate_callee (f:=79) rfl ?_);refine goesL_ (some 29) rfl rfl Try.func79 (by kernel_rfl) rfl #[.int .i64 (rd l1 x20_1),.int .i64 0,.int .i64 (wrap64 (a0_0 - 1))] rfl (by (try simp only [List.map_toArray,List.map_cons,List.map_nil]);first|done|rfl|(simp only [List.length_drop,List.length_take];rfl)) ?_;(with_reducible refine (impl_in.calls (rd l1 x20_1) 0 (wrap64 (a0_0 - 1)) false _ A13.out).mono ?_);rintro e w' ⟨rfl,⟨nd,rfl⟩⟩;refine ⟨_,rfl,?_⟩;(try (rw [drewN_self wr];generalize hq_ : World.drewN wr _ = wr;have n0_ : qn (wr.heap[gb177]? = some (.cells #[.int .i64 a0_0,.slice A0_1 l0_1.length c0_1] 56 (0,0))):=⟨by rw [← hq_];exact (by (with_reducible repeat (first|refine qb ?_ _|refine qe ?_|refine qc ?_ _));exact BK177.out)⟩;have n1_ : qn (wr.heap[gb178]? = some (.cells #[.int .i64 x179000_1,.slice none 0 0] 56 (0,0))):=⟨by rw [← hq_];exact (by (with_reducible repeat (first|refine qb ?_ _|refine qe ?_|refine qc ?_ _));exact BK178.out)⟩;have n2_ : qn (Below w.heap.size w wr):=⟨by rw [← hq_];exact (by repeat (first|(with_reducible first|exact HB.out|apply qf|apply qa|apply qd|refine qg ?_ GE177.out|refine qg ?_ GE178.out)|exact HB.out))⟩;clear BK177 BK178 HB hq_;have BK177:=n0_;have BK178:=n1_;have HB:=n2_;clear n0_ n1_ n2_));have hcz29_0 : wr.cell? ⟨gb178,0,none⟩ = some (.int .i64 x179000_1):=(qh BK178.out 0).trans rfl;have hcz29_1 : wr.cell? ⟨gb178,1,none⟩ = some (.slice none 0 0):=(qh BK178.out 1).trans rfl;have hfz29_0:=qi BK178.out 0;have hfz29_1:=qi BK178.out 1))
                refine bodyPost_ret (results_ct rfl _ _ gb178 56 #[.int .i64 0,.slice none 0 0] (0,0) _ rfl (by (with_reducible repeat (first|refine qb ?_ _|refine qe ?_|refine qc ?_ _));refine blk_put (cs:=#[.int .i64 0,.slice none 0 0]) ?_ 1 _ rfl;(with_reducible repeat (first|refine qb ?_ _|refine qe ?_|refine qc ?_ _));refine blk_put (cs:=#[.int .i64 x179000_1,.slice none 0 0]) ?_ 0 _ rfl;(with_reducible repeat (first|refine qb ?_ _|refine qe ?_|refine qc ?_ _));exact BK178.out) Try.underlying56 rfl (by kernel_rfl)) rfl ?_
                exact ⟨_,by first|rfl|(simp [errW_none,errW_some] <;> rfl)|(simp [*,errW_none,errW_some] <;> rfl),by first|exact Kd.R_nil _ _ _ _ _|exact Kd.N_nil _ _ _ _ _|exact Kd.V_nil _ _ _ _ _|exact Kd.Q_nil _ _ _ _ _|exact Kd.S_nil _ _ _ _ _,by repeat (first|(with_reducible first|exact HB.out|apply qf|apply qa|apply qd|refine qg ?_ GE177.out|refine qg ?_ GE178.out)|exact HB.out)⟩
            · rw [if_neg c12] at H
              exact absurd H (by simp)
          · rw [if_neg c11] at H
            exact absurd H (by simp)
        · rw [if_neg c10] at H
          have c10b0 : decide (x20_1 < (l1.length : Int)) = false:=decide_eq_false c10
          clear c10
          have H':=qn.mk H
          clear H
          go_wp2_with (first|((with_reducible refine gate_dst (N:=8) rfl ?_);refine box_event ?hg (N:=8) ?hd (cs:=#[.int .i64 0,.slice none 0 0]) (t:=56) ?hr ?_;(case hd=>rfl);(case hg=>rfl);(case hr=>first|(go_simp;done)|(go_simp;rfl));intro gb183 hg w30 hbox hb;have n0_:=bb_ BK177 hb;have n1_:=bb_ BK178 hb;have n2_:=hs_ HB hb;have n3_:=qn.mk (hbox);have n4_:=qn.mk ((by rw [hg];exact (qj (by repeat (first|(with_reducible first|exact HB.out|apply qf|apply qa|apply qd|refine qg ?_ GE177.out|refine qg ?_ GE178.out)|exact HB.out))) : w.heap.size ≤ gb183));have n5_:=qn.mk ((by rw [hg];exact (qj (by repeat (first|(with_reducible first|exact HB.out|apply qf|apply qa|apply qd|refine qg ?_ GE177.out|refine qg ?_ GE178.out)|exact HB.out))) : w.heap.size ≤ gb183));have n6_:=qn.mk ((by rw [hg];exact nl_ BK177 : gb177 ≠ gb183));have n7_:=qn.mk ((by rw [hg];exact ng_ BK177 : gb183 ≠ gb177));have n8_:=qn.mk ((by rw [hg];exact nl_ BK178 : gb178 ≠ gb183));have n9_:=qn.mk ((by rw [hg];exact ng_ BK178 : gb183 ≠ gb178));clear BK177;clear BK178;clear HB;have BK177:=n0_;have BK178:=n1_;have HB:=n2_;have BK183:=n3_;have GW183:=n4_;have GE183:=n5_;have NB177_183:=n6_;have NB183_177:=n7_;have NB178_183:=n8_;have NB183_178:=n9_;clear n0_ n1_ n2_ n3_ n4_ n5_ n6_ n7_ n8_ n9_;clear hb hbox hg;have hnb31:=NB183_177.out;have hnc31:=NB177_183.out;have hnb32:=NB183_178.out;have hnc32:=NB178_183.out;have hcz33_0 : w30.cell? ⟨gb183,0,none⟩ = some (.int .i64 0):=(qh BK183.out 0).trans rfl;have hcz33_1 : w30.cell? ⟨gb183,1,none⟩ = some (.slice none 0 0):=(qh BK183.out 1).trans rfl;have hfz33_0:=qi BK183.out 0;have hfz33_1:=qi BK183.out 1))
          go_loopg [51] k1 (fun kq v51 w'=>∃ (x51_2 : Int) (x184001_2 : List (S148)) (u184001 : Value),v51 = .int .i64 x51_2 ∧ qn (impl_Induced.l1 kq l1 l1 (l1.length : Int) x51_2 a0_0 l0_1 (l1.length : Int) x184001_2 = some (r1,r2,r3)) ∧ qn (kq ≤ k1) ∧ qn (Kd.R k148 148 w' w.heap.size (fun _=>True) u184001 x184001_2) ∧ qn (w'.heap[gb177]? = some (.cells #[.int .i64 a0_0,(.slice A0_1 l0_1.length c0_1)] 56 (0,0))) ∧ qn (w'.heap[gb178]? = some (.cells #[.int .i64 x179000_1,(.slice none 0 0)] 56 (0,0))) ∧ qn (w'.heap[gb183]? = some (.cells #[.int .i64 (l1.length : Int),u184001] 56 (0,0))) ∧ qn (Below w.heap.size w w'))
          case atStart=>exact ⟨(0),(([] : List (S148))),(.slice none 0 0),(by first|rfl|(simp;done)|(simp [*];done)),H',⟨Nat.le_refl _⟩,⟨by first|exact Kd.R_nil _ _ _ _ _|exact Kd.N_nil _ _ _ _ _|exact Kd.V_nil _ _ _ _ _|exact Kd.Q_nil _ _ _ _ _|exact Kd.S_nil _ _ _ _ _⟩,⟨by (with_reducible repeat (first|refine qb ?_ _|refine qe ?_|refine qc ?_ _));refine blk_far ?_ NB177_183.out _;(with_reducible repeat (first|refine qb ?_ _|refine qe ?_|refine qc ?_ _));refine blk_far ?_ NB177_183.out _;(with_reducible repeat (first|refine qb ?_ _|refine qe ?_|refine qc ?_ _));exact BK177.out⟩,⟨by (with_reducible repeat (first|refine qb ?_ _|refine qe ?_|refine qc ?_ _));refine blk_far ?_ NB178_183.out _;(with_reducible repeat (first|refine qb ?_ _|refine qe ?_|refine qc ?_ _));refine blk_far ?_ NB178_183.out _;(with_reducible repeat (first|refine qb ?_ _|refine qe ?_|refine qc ?_ _));exact BK178.out⟩,⟨by (with_reducible repeat (first|refine qb ?_ _|refine qe ?_|refine qc ?_ _));refine blk_put (cs:=#[.int .i64 (l1.length : Int),.slice none 0 0]) ?_ 1 _ rfl;(with_reducible repeat (first|refine qb ?_ _|refine qe ?_|refine qc ?_ _));refine blk_put (cs:=#[.int .i64 0,.slice none 0 0]) ?_ 0 _ rfl;(with_reducible repeat (first|refine qb ?_ _|refine qe ?_|refine qc ?_ _));exact BK183.out⟩,⟨by repeat (first|(with_reducible first|exact HB.out|apply qf|apply qa|apply qd|refine qg ?_ GE177.out|refine qg ?_ GE178.out|refine qg ?_ GE183.out)|exact HB.out)⟩⟩
          case round =>
            clear H'
            try clear c1
            try clear p1
            try clear q1
            try clear hx1
            try clear c2
            try clear p2
            try clear c3
            try clear c4
            try clear p6
            try clear c7
            try clear c9
            try clear c10
            try clear c10b0
            try clear c11
            try clear c11b0
            try clear c12
            try clear c12b0
            try clear c14
            try clear c15
            try clear c15b0
            try clear c17
            try clear c17b0
            try clear c18
            try clear c18b0
            try clear p18
            try clear q18
            try clear hx18
            try clear c19
            try clear c19b0
            try clear c20
            try clear c23
            try clear c25
            try clear c27
            try clear c31
            try clear c32
            try clear hcz21_0
            try clear hcz21_1
            try clear hcz22_0
            try clear hcz22_1
            try clear hcz24_0
            try clear hcz24_1
            try clear hcz26_0
            try clear hcz26_1
            try clear hcz28_0
            try clear hcz28_1
            try clear hcz29_0
            try clear hcz29_1
            try clear hcz33_0
            try clear hcz33_1
            try clear hcz8_0
            try clear hcz8_1
            try clear hfz21_0
            try clear hfz21_1
            try clear hfz22_0
            try clear hfz22_1
            try clear hfz24_0
            try clear hfz24_1
            try clear hfz26_0
            try clear hfz26_1
            try clear hfz28_0
            try clear hfz28_1
            try clear hfz29_0
            try clear hfz29_1
            try clear hfz33_0
            try clear hfz33_1
            try clear hfz8_0
            try clear hfz8_1
            try clear hx180_0
            try clear hx182_0
            try clear p180
            try clear p182
            try clear p2
            try clear q180
            try clear q182
            obtain ⟨x51_2,x184001_2,u184001,rfl,HA,HK2,HO_184001,BK177,BK178,BK183,HB⟩:=hrel
            cases gk with
            | zero=>exact absurd HA.out (by simp [impl_Induced.l1])
            | succ k2 =>
              have H:=HA.out
              clear HA
              simp only [impl_Induced.l1] at H
              by_cases c34 : x51_2 < (l1.length : Int)
              · rw [if_pos c34] at H
                have c34b0 : decide (x51_2 < (l1.length : Int)) = true:=decide_eq_true c34
                clear c34
                by_cases c35 : 0 ≤ x51_2
                · rw [if_pos c35] at H
                  have c35b0 : decide (0 ≤ x51_2) = true:=decide_eq_true c35
                  clear c35
                  by_cases c36 : x51_2 < (l1.length : Int)
                  · rw [if_pos c36] at H
                    have c36b0 : decide (x51_2 < (l1.length : Int)) = true:=decide_eq_true c36
                    clear c36
                    have H':=qn.mk H
                    clear H
                    have p184 : 0 ≤ (x51_2 : Int):=of_decide_eq_true (by first|(with_reducible assumption)|assumption)
                    have q184 : x51_2 < (l1.length : Int):=of_decide_eq_true (by first|(with_reducible assumption)|assumption)
                    obtain ⟨ad184,e184,hx184_0⟩:=Kd.at_int HR1.out x51_2 p184 q184
                    cases e184
                    replace hx184_0:=cb_ HB hx184_0
                    replace p184:=eq_true p184
                    replace q184:=eq_true q184
                    go_wp2
                    go_loopg [11] k2 (fun kq v11 w'=>∃ (x11_3 : Int) (x184001_3 : List (S148)) (u184001 : Value),v11 = .int .i64 x11_3 ∧ qn (impl_Induced.l2 kq l1 x51_2 (rd l1 x51_2) x11_3 l1 (l1.length : Int) x51_2 a0_0 l0_1 (l1.length : Int) x184001_3 = some (r1,r2,r3)) ∧ qn (kq ≤ k2) ∧ qn (Kd.R k148 148 w' w.heap.size (fun _=>True) u184001 x184001_3) ∧ qn (w'.heap[gb177]? = some (.cells #[.int .i64 a0_0,(.slice A0_1 l0_1.length c0_1)] 56 (0,0))) ∧ qn (w'.heap[gb178]? = some (.cells #[.int .i64 x179000_1,(.slice none 0 0)] 56 (0,0))) ∧ qn (w'.heap[gb183]? = some (.cells #[.int .i64 (l1.length : Int),u184001] 56 (0,0))) ∧ qn (Below w.heap.size w w'))
                    case atStart=>exact ⟨(wrap64 (x51_2 + 1)),(x184001_2),(u184001),(by first|rfl|(simp;done)|(simp [*];done)),H',⟨Nat.le_refl _⟩,⟨by (with_reducible repeat (first|apply Kd.R_alloc|apply Kd.R_drewN|apply Kd.R_drew));exact HO_184001.out⟩,⟨by (with_reducible repeat (first|refine qb ?_ _|refine qe ?_|refine qc ?_ _));exact BK177.out⟩,⟨by (with_reducible repeat (first|refine qb ?_ _|refine qe ?_|refine qc ?_ _));exact BK178.out⟩,⟨by (with_reducible repeat (first|refine qb ?_ _|refine qe ?_|refine qc ?_ _));exact BK183.out⟩,⟨by repeat (first|(with_reducible first|exact HB.out|apply qf|apply qa|apply qd|refine qg ?_ GE177.out|refine qg ?_ GE178.out|refine qg ?_ GE183.out)|exact HB.out)⟩⟩
                    case round =>
                      clear H'
                      try clear c1
                      try clear p1
                      try clear q1
                      try clear hx1
                      try clear c2
                      try clear p2
                      try clear c3
                      try clear c4
                      try clear p6
                      try clear c7
                      try clear c9
                      try clear c10
                      try clear c10b0
                      try clear c11
                      try clear c11b0
                      try clear c12
                      try clear c12b0
                      try clear c14
                      try clear c15
                      try clear c15b0
                      try clear c17
                      try clear c17b0
                      try clear c18
                      try clear c18b0
                      try clear p18
                      try clear q18
                      try clear hx18
                      try clear c19
                      try clear c19b0
                      try clear c20
                      try clear c23
                      try clear c25
                      try clear c27
                      try clear c31
                      try clear c32
                      try clear c34
                      try clear c34b0
                      try clear c35
                      try clear c35b0
                      try clear c36
                      try clear c36b0
                      try clear hcz21_0
                      try clear hcz21_1
                      try clear hcz22_0
                      try clear hcz22_1
                      try clear hcz24_0
                      try clear hcz24_1
                      try clear hcz26_0
                      try clear hcz26_1
                      try clear hcz28_0
                      try clear hcz28_1
                      try clear hcz29_0
                      try clear hcz29_1
                      try clear hcz33_0
                      try clear hcz33_1
                      try clear hcz8_0
                      try clear hcz8_1
                      try clear hfz21_0
                      try clear hfz21_1
                      try clear hfz22_0
                      try clear hfz22_1
                      try clear hfz24_0
                      try clear hfz24_1
                      try clear hfz26_0
                      try clear hfz26_1
                      try clear hfz28_0
                      try clear hfz28_1
                      try clear hfz29_0
                      try clear hfz29_1
                      try clear hfz33_0
                      try clear hfz33_1
                      try clear hfz8_0
                      try clear hfz8_1
                      try clear hx180_0
                      try clear hx182_0
                      try clear hx184_0
                      try clear p1
                      try clear p18
                      try clear p180
                      try clear p182
                      try clear p184
                      try clear p2
                      try clear p6
                      try clear q1
                      try clear q18
                      try clear q180
                      try clear q182
                      try clear q184
                      obtain ⟨x11_3,x184001_3,u184001,rfl,HA,HK3,HO_184001,BK177,BK178,BK183,HB⟩:=hrel
                      cases gk with
                      | zero=>exact absurd HA.out (by simp [impl_Induced.l2])
                      | succ k3 =>
                        have H:=HA.out
                        clear HA
                        simp only [impl_Induced.l2] at H
                        by_cases c37 : x11_3 < (l1.length : Int)
                        · rw [if_pos c37] at H
                          have c37b0 : decide (x11_3 < (l1.length : Int)) = true:=decide_eq_true c37
                          clear c37
                          by_cases c38 : 0 ≤ x11_3
                          · rw [if_pos c38] at H
                            have c38b0 : decide (0 ≤ x11_3) = true:=decide_eq_true c38
                            clear c38
                            replace H:=Option.bind_eq_some_iff.mp H
                            obtain ⟨t186,A390,H⟩:=H
                            replace H : (if t186 ≥ 0 then (if 0 ≤ t186 then (if t186 < (l0_1.length : Int) then (if x184001_3.length < 3518437208883 then (impl_Induced.l2 k3 l1 x51_2 (rd l1 x51_2) (wrap64 (x11_3 + 1)) l1 (l1.length : Int) x51_2 a0_0 l0_1 (l1.length : Int) (x184001_3 ++ [(⟨x51_2,x11_3,(rd_T148 l0_1 t186).f2,(rd_T148 l0_1 t186).f3,(rd_T148 l0_1 t186).f4⟩ : S148)])) else (none)) else (none)) else (none)) else (impl_Induced.l2 k3 l1 x51_2 (rd l1 x51_2) (wrap64 (x11_3 + 1)) l1 (l1.length : Int) x51_2 a0_0 l0_1 (l1.length : Int) x184001_3)) = some (r1,r2,r3):=H
                            have A39:=qn.mk A390
                            clear A390
                            by_cases c40 : t186 ≥ 0
                            · rw [if_pos c40] at H
                              have c40b0 : decide (0 ≤ t186) = true:=decide_eq_true c40
                              clear c40
                              by_cases c41 : 0 ≤ t186
                              · rw [if_pos c41] at H
                                have c41b0 : decide (0 ≤ t186) = true:=decide_eq_true c41
                                clear c41
                                by_cases c42 : t186 < (l0_1.length : Int)
                                · rw [if_pos c42] at H
                                  have c42b0 : decide (t186 < (l0_1.length : Int)) = true:=decide_eq_true c42
                                  clear c42
                                  by_cases c43 : x184001_3.length < 3518437208883
                                  · rw [if_pos c43] at H
                                    have LMc43:=qn.mk c43
                                    clear c43
                                    obtain ⟨y189,hy189⟩ : ∃ y_ : List (S148),y_ = (x184001_3 ++ [(⟨x51_2,x11_3,(rd_T148 l0_1 t186).f2,(rd_T148 l0_1 t186).f3,(rd_T148 l0_1 t186).f4⟩ : S148)]):=⟨_,rfl⟩
                                    replace H : (impl_Induced.l2 k3 l1 x51_2 (rd l1 x51_2) (wrap64 (x11_3 + 1)) l1 (l1.length : Int) x51_2 a0_0 l0_1 (l1.length : Int) y189) = some (r1,r2,r3):=by first|(rw [hy189];with_reducible exact H)|(have H2_:=(Option.bind_some _ _).symm.trans H;rw [hy189];with_reducible exact H2_)|(have H2_:=(Option.bind_some _ _).symm.trans H;with_reducible exact H2_)|with_reducible exact H|(rw [hy189];exact H)|exact H
                                    have Ny189:=qn.mk hy189
                                    clear hy189
                                    have H':=qn.mk H
                                    clear H
                                    try go_wp2
                                    have n0_:=qn.mk (Kd.R_drew HO_184001.out)
                                    have n1_:=qn.mk (qe BK177.out)
                                    have n2_:=qn.mk (qe BK178.out)
                                    have n3_:=qn.mk (qe BK183.out)
                                    have n4_:=qn.mk (qd HB.out)
                                    clear HO_184001
                                    clear BK177
                                    clear BK178
                                    clear BK183
                                    clear HB
                                    have HO_184001:=n0_
                                    have BK177:=n1_
                                    have BK178:=n2_
                                    have BK183:=n3_
                                    have HB:=n4_
                                    clear n0_ n1_ n2_ n3_ n4_
                                    have p185 : 0 ≤ (x11_3 : Int):=of_decide_eq_true (by first|(with_reducible assumption)|assumption)
                                    have q185 : x11_3 < (l1.length : Int):=of_decide_eq_true (by first|(with_reducible assumption)|assumption)
                                    obtain ⟨ad185,e185,hx185_0⟩:=Kd.at_int HR1.out x11_3 p185 q185
                                    have hw185_0:=hx185_0
                                    obtain rfl : ad184 = ad185:=(by injection e185)
                                    replace hx185_0:=cb_ HB hx185_0
                                    replace p185:=eq_true p185
                                    replace q185:=eq_true q185
                                    refine start_ (n:=8) (S:=fun w'=>w'.cell? ⟨gb177,0,none⟩ = some (.int .i64 a0_0) ∧ w'.cell? ⟨gb177,1,none⟩ = some (.slice A0_1 l0_1.length c0_1) ∧ w'.cell? (ad184.add (x11_3).toNat) = some (.int .i64 (rd l1 x11_3))) (ds:=[]) #[false,false,false,false,false,false,false,false] (by kernel_rfl) rfl rfl ⟨(qh BK177.out 0).trans rfl,(qh BK177.out 1).trans rfl,(cb_ HB hw185_0:)⟩ (fun hHeld=>?_);refine with_tabW impl_Induced.tab16 impl_Induced.bits16 (fun HT_ HW_=>?_)
                                    generalize wr.drew = w44 at HO_184001 BK177 BK178 BK183 HB hx185_0 hHeld ⊢
                                    refine pure_ (i:=1) (N:=some 65) (v:=?_) (a':=?_) #[false,true,false,false,false,false,false,false] rfl rfl (any_of HT_.out (by kernel_rfl)) (fun _ _ _ h=>h) (Or.inl ⟨by rfl,?_⟩) ?_ ?_
                                    rotate_left
                                    · intro w'
                                      go_simp
                                      with_reducible rfl
                                    rotate_left
                                    · simp only [Act.put,List.setIfInBounds_toArray,List.set_cons_zero,List.set_cons_succ,i64_w,i32_w]
                                      rfl
                                    refine pure_ (i:=2) (N:=some 66) (v:=?_) (a':=?_) #[false,true,true,false,false,false,false,false] rfl rfl (any_of HT_.out (by kernel_rfl)) (fun _ _ _ h=>h) (Or.inl ⟨by rfl,?_⟩) ?_ ?_
                                    rotate_left
                                    · intro w'
                                      go_simp
                                      with_reducible rfl
                                    rotate_left
                                    · simp only [Act.put,List.setIfInBounds_toArray,List.set_cons_zero,List.set_cons_succ,i64_w,i32_w]
                                      rfl
                                    refine pure_ (i:=3) (N:=some 67) (v:=?_) (a':=?_) #[false,true,true,true,false,false,false,false] rfl rfl (any_of HT_.out (by kernel_rfl)) (fun _ _ _ h=>h) (Or.inl ⟨by rfl,?_⟩) ?_ ?_
                                    rotate_left
                                    · intro w'
                                      go_simp
                                      with_reducible rfl
                                    rotate_left
                                    · simp only [Act.put,List.setIfInBounds_toArray,List.set_cons_zero,List.set_cons_succ,i64_w,i32_w]
                                      rfl
                                    refine pure_ (i:=4) (N:=some 68) (v:=?_) (a':=?_) #[false,true,true,true,true,false,false,false] rfl rfl (any_of HT_.out (by kernel_rfl)) (fun _ _ _ h=>h) (Or.inl ⟨by rfl,?_⟩) ?_ ?_
                                    rotate_left
                                    · intro w'
                                      go_simp
                                      with_reducible rfl
                                    rotate_left
                                    · simp only [Act.put,List.setIfInBounds_toArray,List.set_cons_zero,List.set_cons_succ,i64_w,i32_w]
                                      rfl
                                    refine take_ (i:=0) (N:=some 64) (v:=?_) (a':=?_) #[true,true,true,true,true,false,false,false] rfl rfl (take_ofW HT_.out HW_.out (by kernel_rfl)) (fun _ _ _ h=>h) (Or.inl ⟨by rfl,?_⟩) hHeld ?_ ?_
                                    rotate_left
                                    · rintro w' ⟨s0,s1,s2⟩
                                      go_simp
                                      with_reducible rfl
                                    rotate_left
                                    · simp only [Act.put,List.setIfInBounds_toArray,List.set_cons_zero,List.set_cons_succ,i64_w,i32_w]
                                      rfl
                                    refine take_ (i:=5) (N:=some 69) (v:=?_) (a':=?_) #[true,true,true,true,true,true,false,false] rfl rfl (take_ofW HT_.out HW_.out (by kernel_rfl)) (fun _ _ _ h=>h) (Or.inl ⟨by rfl,?_⟩) hHeld ?_ ?_
                                    rotate_left
                                    · rintro w' ⟨s0,s1,s2⟩
                                      go_simp
                                      with_reducible rfl
                                    rotate_left
                                    · simp only [Act.put,List.setIfInBounds_toArray,List.set_cons_zero,List.set_cons_succ,i64_w,i32_w]
                                      rfl
                                    refine one_ (i:=6) (N:=some 70) #[true,true,true,true,true,true,true,false] rfl rfl (one_of HT_.out (by kernel_rfl)) (by decide) (fun K hK=>?_)
                                    refine goes_ Try.func98 (by kernel_rfl) rfl #[.agg #[.int .i64 a0_0,.slice A0_1 l0_1.length c0_1],.int .i64 (rd l1 x51_2),.int .i64 (rd l1 x11_3)] (by rfl) rfl rfl (by (try simp only [List.map_toArray,List.map_cons,List.map_nil]);first|done|rfl|(simp only [List.length_drop,List.length_take];rfl)) ?_
                                    with_reducible refine (impl_edgeAt.calls k3 a0_0 _ _ l0_1 (rd l1 x51_2) (rd l1 x11_3) t186 _ ?side1 ?side2 A39.out).mono ?_
                                    (case side1=>repeat (first|exact (Kd.C_below HR0_1.out HB.out)|(with_reducible refine Kd.C_alloc ?_ _)|(with_reducible refine Kd.C_drewN ?_ _)|(with_reducible refine Kd.C_drew ?_)))
                                    (case side2=>exact HC0_1.out)
                                    rintro e w45 ⟨rfl,hb⟩
                                    refine ⟨_,rfl,?_⟩
                                    have n0_:=rb_ HO_184001 hb
                                    have n1_:=bb_ BK177 hb
                                    have n2_:=bb_ BK178 hb
                                    have n3_:=bb_ BK183 hb
                                    have n4_:=hs_ HB hb
                                    clear HO_184001
                                    clear BK177
                                    clear BK178
                                    clear BK183
                                    clear HB
                                    have HO_184001:=n0_
                                    have BK177:=n1_
                                    have BK178:=n2_
                                    have BK183:=n3_
                                    have HB:=n4_
                                    clear n0_ n1_ n2_ n3_ n4_
                                    (try clear hb)
                                    (try clear hb2)
                                    (try clear hk)
                                    (try clear hi)
                                    refine hK.out _ _ ⟨(qh BK177.out 0).trans rfl,(qh BK177.out 1).trans rfl,(cb_ HB hw185_0:)⟩ (fun hHeld=>?_)
                                    clear hK K
                                    refine norm_ (a':=?_) ?_ ?_
                                    rotate_left
                                    · show Act.put _ (some 70) _ = _
                                      simp only [Act.put,List.setIfInBounds_toArray,List.set_cons_zero,List.set_cons_succ,i64_w,i32_w]
                                      rfl
                                    refine pure_ (i:=7) (N:=some 12) (v:=?_) (a':=?_) #[true,true,true,true,true,true,true,true] rfl rfl (any_of HT_.out (by kernel_rfl)) (fun _ _ _ h=>h) (Or.inl ⟨by rfl,?_⟩) ?_ ?_
                                    rotate_left
                                    · intro w'
                                      go_simp
                                      with_reducible rfl
                                    rotate_left
                                    · simp only [Act.put,List.setIfInBounds_toArray,List.set_cons_zero,List.set_cons_succ,i64_w,i32_w]
                                      rfl
                                    refine done_ (done_of HT_.out (by kernel_rfl)) ?_
                                    have hnb46:=NB177_178.out
                                    have hnc46:=NB178_177.out
                                    have hnb47:=NB177_183.out
                                    have hnc47:=NB183_177.out
                                    have hcz48_0 : w45.cell? ⟨gb177,0,none⟩ = some (.int .i64 a0_0):=(qh BK177.out 0).trans rfl
                                    have hcz48_1 : w45.cell? ⟨gb177,1,none⟩ = some (.slice A0_1 l0_1.length c0_1):=(qh BK177.out 1).trans rfl
                                    have hfz48_0:=qi BK177.out 0
                                    have hfz48_1:=qi BK177.out 1
                                    have p187 : 0 ≤ (t186 : Int):=of_decide_eq_true (by first|(with_reducible assumption)|assumption)
                                    have q187 : t186 < (l0_1.length : Int):=of_decide_eq_true (by first|(with_reducible assumption)|assumption)
                                    obtain ⟨ad187,e187,hx187_0,hx187_1,hx187_2,hx187_3,hx187_4⟩:=at_T148 HR0_1.out t186 p187 q187
                                    cases e187
                                    replace hx187_0:=cb_ HB hx187_0
                                    replace hx187_1:=cb_ HB hx187_1
                                    replace hx187_2:=cb_ HB hx187_2
                                    replace hx187_3:=cb_ HB hx187_3
                                    replace hx187_4:=cb_ HB hx187_4
                                    replace p187:=eq_true p187
                                    replace q187:=eq_true q187
                                    go_upto_region 19 with (first|((with_reducible refine gate_dst (N:=13) rfl ?_);refine box_event ?hg (N:=13) ?hd (cs:=#[.int .i64 0,.int .i64 0,.int .i64 0,.int .i64 0,.int .i64 0]) (t:=148) ?hr ?_;(case hd=>rfl);(case hg=>rfl);(case hr=>first|(go_simp;done)|(go_simp;rfl));intro gb188 hg w49 hbox hb;have n0_:=qn.mk (Kd.R_below (Kd.R_elderB (by (with_reducible repeat (first|apply Kd.R_alloc|apply Kd.R_drewN|apply Kd.R_drew));exact HO_184001.out) gb188 (Nat.le_of_eq hg.symm)) hb);have n1_:=bb_ BK177 hb;have n2_:=bb_ BK178 hb;have n3_:=bb_ BK183 hb;have n4_:=hs_ HB hb;have n5_:=qn.mk (hbox);have n6_:=qn.mk ((by rw [hg];exact (qj (by repeat (first|(with_reducible first|exact HB.out|apply qf|apply qa|apply qd|refine qg ?_ GE177.out|refine qg ?_ GE178.out|refine qg ?_ GE183.out)|exact HB.out))) : w.heap.size ≤ gb188));have n7_:=qn.mk ((by rw [hg];exact (qj (by repeat (first|(with_reducible first|exact HB.out|apply qf|apply qa|apply qd|refine qg ?_ GE177.out|refine qg ?_ GE178.out|refine qg ?_ GE183.out)|exact HB.out))) : w.heap.size ≤ gb188));have n8_:=qn.mk ((by rw [hg];exact nl_ BK177 : gb177 ≠ gb188));have n9_:=qn.mk ((by rw [hg];exact ng_ BK177 : gb188 ≠ gb177));have n10_:=qn.mk ((by rw [hg];exact nl_ BK178 : gb178 ≠ gb188));have n11_:=qn.mk ((by rw [hg];exact ng_ BK178 : gb188 ≠ gb178));have n12_:=qn.mk ((by rw [hg];exact nl_ BK183 : gb183 ≠ gb188));have n13_:=qn.mk ((by rw [hg];exact ng_ BK183 : gb188 ≠ gb183));clear HO_184001;clear BK177;clear BK178;clear BK183;clear HB;have HO_184001:=n0_;have BK177:=n1_;have BK178:=n2_;have BK183:=n3_;have HB:=n4_;have BK188:=n5_;have GW188:=n6_;have GE188:=n7_;have NB177_188:=n8_;have NB188_177:=n9_;have NB178_188:=n10_;have NB188_178:=n11_;have NB183_188:=n12_;have NB188_183:=n13_;clear n0_ n1_ n2_ n3_ n4_ n5_ n6_ n7_ n8_ n9_ n10_ n11_ n12_ n13_;clear hb hbox hg;have hnb50:=NB188_177.out;have hnc50:=NB177_188.out;have hnb51:=NB188_178.out;have hnc51:=NB178_188.out;have hnb52:=NB188_183.out;have hnc52:=NB183_188.out;have hcz53_0 : w49.cell? ⟨gb188,0,none⟩ = some (.int .i64 0):=(qh BK188.out 0).trans rfl;have hcz53_1 : w49.cell? ⟨gb188,1,none⟩ = some (.int .i64 0):=(qh BK188.out 1).trans rfl;have hcz53_2 : w49.cell? ⟨gb188,2,none⟩ = some (.int .i64 0):=(qh BK188.out 2).trans rfl;have hcz53_3 : w49.cell? ⟨gb188,3,none⟩ = some (.int .i64 0):=(qh BK188.out 3).trans rfl;have hcz53_4 : w49.cell? ⟨gb188,4,none⟩ = some (.int .i64 0):=(qh BK188.out 4).trans rfl;have hfz53_0:=qi BK188.out 0;have hfz53_1:=qi BK188.out 1;have hfz53_2:=qi BK188.out 2;have hfz53_3:=qi BK188.out 3;have hfz53_4:=qi BK188.out 4;have hnb54:=NB183_178.out;have hnc54:=NB178_183.out;have hcz55_0 : w49.cell? ⟨gb183,0,none⟩ = some (.int .i64 (l1.length : Int)):=(qh BK183.out 0).trans rfl;have hcz55_1 : w49.cell? ⟨gb183,1,none⟩ = some (u184001):=(qh BK183.out 1).trans rfl;have hfz55_0:=qi BK183.out 0;have hfz55_1:=qi BK183.out 1))
                                    (try simp only [Act.put,List.setIfInBounds_toArray,List.set_cons_zero,List.set_cons_succ])
                                    go_cut [] (fun wc=>qn (wc.heap[gb177]? = some (.cells #[.int .i64 a0_0,.slice (some ad187) l0_1.length c0_1] 56 (0,0))) ∧ qn (wc.heap[gb178]? = some (.cells #[.int .i64 x179000_1,.slice none 0 0] 56 (0,0))) ∧ qn (wc.heap[gb183]? = some (.cells #[.int .i64 (l1.length : Int),u184001] 56 (0,0))) ∧ qn (wc.heap[gb188]? = some (.cells #[.int .i64 x51_2,.int .i64 x11_3,.int .i64 ((rd_T148 l0_1 t186).f2),.int .i64 ((rd_T148 l0_1 t186).f3),.int .i64 ((rd_T148 l0_1 t186).f4)] 148 (0,0))) ∧ qn (Below w.heap.size w wc) ∧ qn (Kd.R k148 148 wc w.heap.size (fun k_=>k_ ≠ gb188) u184001 x184001_3))
                                    case first =>
                                      go_wp2
                                      go_meet
                                      case rel=>exact ⟨⟨(by (with_reducible repeat (first|refine qb ?_ _|refine qe ?_|refine qc ?_ _));refine blk_far ?_ NB177_188.out _;(with_reducible repeat (first|refine qb ?_ _|refine qe ?_|refine qc ?_ _));refine blk_far ?_ NB177_188.out _;(with_reducible repeat (first|refine qb ?_ _|refine qe ?_|refine qc ?_ _));refine blk_far ?_ NB177_188.out _;(with_reducible repeat (first|refine qb ?_ _|refine qe ?_|refine qc ?_ _));refine blk_far ?_ NB177_188.out _;(with_reducible repeat (first|refine qb ?_ _|refine qe ?_|refine qc ?_ _));refine blk_far ?_ NB177_188.out _;(with_reducible repeat (first|refine qb ?_ _|refine qe ?_|refine qc ?_ _));refine blk_far ?_ NB177_188.out _;(with_reducible repeat (first|refine qb ?_ _|refine qe ?_|refine qc ?_ _));refine blk_far ?_ NB177_188.out _;(with_reducible repeat (first|refine qb ?_ _|refine qe ?_|refine qc ?_ _));exact BK177.out)⟩,⟨(by (with_reducible repeat (first|refine qb ?_ _|refine qe ?_|refine qc ?_ _));refine blk_far ?_ NB178_188.out _;(with_reducible repeat (first|refine qb ?_ _|refine qe ?_|refine qc ?_ _));refine blk_far ?_ NB178_188.out _;(with_reducible repeat (first|refine qb ?_ _|refine qe ?_|refine qc ?_ _));refine blk_far ?_ NB178_188.out _;(with_reducible repeat (first|refine qb ?_ _|refine qe ?_|refine qc ?_ _));refine blk_far ?_ NB178_188.out _;(with_reducible repeat (first|refine qb ?_ _|refine qe ?_|refine qc ?_ _));refine blk_far ?_ NB178_188.out _;(with_reducible repeat (first|refine qb ?_ _|refine qe ?_|refine qc ?_ _));refine blk_far ?_ NB178_188.out _;(with_reducible repeat (first|refine qb ?_ _|refine qe ?_|refine qc ?_ _));refine blk_far ?_ NB178_188.out _;(with_reducible repeat (first|refine qb ?_ _|refine qe ?_|refine qc ?_ _));exact BK178.out)⟩,⟨(by (with_reducible repeat (first|refine qb ?_ _|refine qe ?_|refine qc ?_ _));refine blk_far ?_ NB183_188.out _;(with_reducible repeat (first|refine qb ?_ _|refine qe ?_|refine qc ?_ _));refine blk_far ?_ NB183_188.out _;(with_reducible repeat (first|refine qb ?_ _|refine qe ?_|refine qc ?_ _));refine blk_far ?_ NB183_188.out _;(with_reducible repeat (first|refine qb ?_ _|refine qe ?_|refine qc ?_ _));refine blk_far ?_ NB183_188.out _;(with_reducible repeat (first|refine qb ?_ _|refine qe ?_|refine qc ?_ _));refine blk_far ?_ NB183_188.out _;(with_reducible repeat (first|refine qb ?_ _|refine qe ?_|refine qc ?_ _));refine blk_far ?_ NB183_188.out _;(with_reducible repeat (first|refine qb ?_ _|refine qe ?_|refine qc ?_ _));refine blk_far ?_ NB183_188.out _;(with_reducible repeat (first|refine qb ?_ _|refine qe ?_|refine qc ?_ _));exact BK183.out)⟩,⟨(by (with_reducible repeat (first|refine qb ?_ _|refine qe ?_|refine qc ?_ _));refine blk_put (cs:=#[.int .i64 x51_2,.int .i64 ((rd_T148 l0_1 t186).f1),.int .i64 ((rd_T148 l0_1 t186).f2),.int .i64 ((rd_T148 l0_1 t186).f3),.int .i64 ((rd_T148 l0_1 t186).f4)]) ?_ 1 _ rfl;(with_reducible repeat (first|refine qb ?_ _|refine qe ?_|refine qc ?_ _));refine blk_put (cs:=#[.int .i64 ((rd_T148 l0_1 t186).f0),.int .i64 ((rd_T148 l0_1 t186).f1),.int .i64 ((rd_T148 l0_1 t186).f2),.int .i64 ((rd_T148 l0_1 t186).f3),.int .i64 ((rd_T148 l0_1 t186).f4)]) ?_ 0 _ rfl;(with_reducible repeat (first|refine qb ?_ _|refine qe ?_|refine qc ?_ _));refine blk_put (cs:=#[.int .i64 ((rd_T148 l0_1 t186).f0),.int .i64 ((rd_T148 l0_1 t186).f1),.int .i64 ((rd_T148 l0_1 t186).f2),.int .i64 ((rd_T148 l0_1 t186).f3),.int .i64 0]) ?_ 4 _ rfl;(with_reducible repeat (first|refine qb ?_ _|refine qe ?_|refine qc ?_ _));refine blk_put (cs:=#[.int .i64 ((rd_T148 l0_1 t186).f0),.int .i64 ((rd_T148 l0_1 t186).f1),.int .i64 ((rd_T148 l0_1 t186).f2),.int .i64 0,.int .i64 0]) ?_ 3 _ rfl;(with_reducible repeat (first|refine qb ?_ _|refine qe ?_|refine qc ?_ _));refine blk_put (cs:=#[.int .i64 ((rd_T148 l0_1 t186).f0),.int .i64 ((rd_T148 l0_1 t186).f1),.int .i64 0,.int .i64 0,.int .i64 0]) ?_ 2 _ rfl;(with_reducible repeat (first|refine qb ?_ _|refine qe ?_|refine qc ?_ _));refine blk_put (cs:=#[.int .i64 ((rd_T148 l0_1 t186).f0),.int .i64 0,.int .i64 0,.int .i64 0,.int .i64 0]) ?_ 1 _ rfl;(with_reducible repeat (first|refine qb ?_ _|refine qe ?_|refine qc ?_ _));refine blk_put (cs:=#[.int .i64 0,.int .i64 0,.int .i64 0,.int .i64 0,.int .i64 0]) ?_ 0 _ rfl;(with_reducible repeat (first|refine qb ?_ _|refine qe ?_|refine qc ?_ _));exact BK188.out)⟩,⟨(by repeat (first|(with_reducible first|exact HB.out|apply qf|apply qa|apply qd|refine qg ?_ GE177.out|refine qg ?_ GE178.out|refine qg ?_ GE183.out|refine qg ?_ GE188.out)|exact HB.out))⟩,⟨(by (with_reducible repeat (first|apply Kd.R_alloc|apply Kd.R_drewN|apply Kd.R_drew));exact Kd.R_mono (Kd.R_far (p:=⟨gb188,1,none⟩) (Kd.R_far (p:=⟨gb188,0,none⟩) (Kd.R_far (p:=⟨gb188,4,none⟩) (Kd.R_far (p:=⟨gb188,3,none⟩) (Kd.R_far (p:=⟨gb188,2,none⟩) (Kd.R_far (p:=⟨gb188,1,none⟩) (Kd.R_far (p:=⟨gb188,0,none⟩) (Kd.R_mono HO_184001.out (fun k_ hk=>(⟨hk,hk.2⟩ : _ ∧ k_ ≠ gb188))) (fun _ hk=>hk.2) (.int .i64 ((rd_T148 l0_1 t186).f0))) (fun _ hk=>hk.2) (.int .i64 ((rd_T148 l0_1 t186).f1))) (fun _ hk=>hk.2) (.int .i64 ((rd_T148 l0_1 t186).f2))) (fun _ hk=>hk.2) (.int .i64 ((rd_T148 l0_1 t186).f3))) (fun _ hk=>hk.2) (.int .i64 ((rd_T148 l0_1 t186).f4))) (fun _ hk=>hk.2) (.int .i64 x51_2)) (fun _ hk=>hk.2) (.int .i64 x11_3)) (fun _ hk=>hk.1.2))⟩⟩
                                    case rest =>
                                      obtain ⟨N0_,N1_,N2_,N3_,NB_,NO_⟩:=hcut
                                      clear BK177;clear BK178;clear BK183;clear BK188;clear HB;clear HO_184001
                                      have BK177:=N0_
                                      have BK178:=N1_
                                      have BK183:=N2_
                                      have BK188:=N3_
                                      have HB:=NB_
                                      have HO_184001:=NO_
                                      clear N0_ N1_ N2_ N3_ NB_ NO_
                                      have hcygb183_0 : wc.cell? ⟨gb183,0,none⟩ = some (.int .i64 (l1.length : Int)):=(qh BK183.out 0).trans rfl
                                      have hcygb183_1 : wc.cell? ⟨gb183,1,none⟩ = some (u184001):=(qh BK183.out 1).trans rfl
                                      have hfygb183_0:=qi BK183.out 0
                                      have hfygb183_1:=qi BK183.out 1
                                      have hcygb188_0 : wc.cell? ⟨gb188,0,none⟩ = some (.int .i64 x51_2):=(qh BK188.out 0).trans rfl
                                      have hcygb188_1 : wc.cell? ⟨gb188,1,none⟩ = some (.int .i64 x11_3):=(qh BK188.out 1).trans rfl
                                      have hcygb188_2 : wc.cell? ⟨gb188,2,none⟩ = some (.int .i64 ((rd_T148 l0_1 t186).f2)):=(qh BK188.out 2).trans rfl
                                      have hcygb188_3 : wc.cell? ⟨gb188,3,none⟩ = some (.int .i64 ((rd_T148 l0_1 t186).f3)):=(qh BK188.out 3).trans rfl
                                      have hcygb188_4 : wc.cell? ⟨gb188,4,none⟩ = some (.int .i64 ((rd_T148 l0_1 t186).f4)):=(qh BK188.out 4).trans rfl
                                      have hfygb188_0:=qi BK188.out 0
                                      have hfygb188_1:=qi BK188.out 1
                                      have hfygb188_2:=qi BK188.out 2
                                      have hfygb188_3:=qi BK188.out 3
                                      have hfygb188_4:=qi BK188.out 4
                                      go_wp2_with (first|((with_reducible refine gate_builtin (b:=.append) (xs:=#[.tmp 83,.tmp 85]) rfl ?_);at_builtin;refine Kd.R_append k148 (w0:=w) w.heap.size rfl (.tmp 83) (.tmp 85) 54 148 (.agg #[(.int .i64 0),(.int .i64 0),(.int .i64 0),(.int .i64 0),(.int .i64 0)]) 40 rfl Try.underlying54 info148 rfl (by decide) (by omega) u184001 x184001_3 (⟨x51_2,x11_3,(rd_T148 l0_1 t186).f2,(rd_T148 l0_1 t186).f3,(rd_T148 l0_1 t186).f4⟩ : S148) [.int .i64 x51_2,.int .i64 x11_3,.int .i64 ((rd_T148 l0_1 t186).f2),.int .i64 ((rd_T148 l0_1 t186).f3),.int .i64 ((rd_T148 l0_1 t186).f4)] (fun k_=>k_ ≠ gb188) (fun _=>False) rfl (by first|(go_simp;done)|(go_simp;rfl)) ?aP (fun _ hk=>hk.elim) ?aF ?aO ?aB ?aS ?aL ?_;(case aP=>exact k148_mkM _ _ _ (⟨x51_2,x11_3,(rd_T148 l0_1 t186).f2,(rd_T148 l0_1 t186).f3,(rd_T148 l0_1 t186).f4⟩ : S148));(case aB=>exact (by repeat (first|(with_reducible first|exact HB.out|apply qf|apply qa|apply qd)|exact HB.out)));(case aF=>exact (fun k_ hk=>Kd.freshB (g:=gb188) (o:=.cells #[.int .i64 x51_2,.int .i64 x11_3,.int .i64 ((rd_T148 l0_1 t186).f2),.int .i64 ((rd_T148 l0_1 t186).f3),.int .i64 ((rd_T148 l0_1 t186).f4)] 148 (0,0)) (by (with_reducible repeat (first|refine qb ?_ _|refine qe ?_|refine qc ?_ _));exact BK188.out) k_ hk));(case aO=>exact (by (with_reducible repeat (first|apply Kd.R_alloc|apply Kd.R_drewN|apply Kd.R_drew));exact HO_184001.out));(case aS=>exact (qj (by repeat (first|(with_reducible first|exact HB.out|apply qf|apply qa|apply qd)|exact HB.out))));(case aL=>have:=LMc43.out;omega);intro v190 w56 ho hb hg hat;rw [← Ny189.out] at ho;have n0_:=qn.mk (blk_grown (g:=gb177) (o:=.cells #[.int .i64 a0_0,.slice (some ad187) l0_1.length c0_1] 56 (0,0)) (by (with_reducible repeat (first|refine qb ?_ _|refine qe ?_|refine qc ?_ _));exact BK177.out) hg (Kd.R_ne HO_184001.out BK177.out (by decide)));have n1_:=qn.mk (blk_grown (g:=gb178) (o:=.cells #[.int .i64 x179000_1,.slice none 0 0] 56 (0,0)) (by (with_reducible repeat (first|refine qb ?_ _|refine qe ?_|refine qc ?_ _));exact BK178.out) hg (Kd.R_ne HO_184001.out BK178.out (by decide)));have n2_:=qn.mk (blk_grown (g:=gb183) (o:=.cells #[.int .i64 (l1.length : Int),u184001] 56 (0,0)) (by (with_reducible repeat (first|refine qb ?_ _|refine qe ?_|refine qc ?_ _));exact BK183.out) hg (Kd.R_ne HO_184001.out BK183.out (by decide)));have n3_:=qn.mk (blk_grown (g:=gb188) (o:=.cells #[.int .i64 x51_2,.int .i64 x11_3,.int .i64 ((rd_T148 l0_1 t186).f2),.int .i64 ((rd_T148 l0_1 t186).f3),.int .i64 ((rd_T148 l0_1 t186).f4)] 148 (0,0)) (by (with_reducible repeat (first|refine qb ?_ _|refine qe ?_|refine qc ?_ _));exact BK188.out) hg (Kd.R_away HO_184001.out (fun _ hk=>hk)));have n4_:=qn.mk (hb);have n5_:=qn.mk (ho);clear BK177;clear BK178;clear BK183;clear BK188;clear HB;clear HO_184001;have BK177:=n0_;have BK178:=n1_;have BK183:=n2_;have BK188:=n3_;have HB:=n4_;have HO191:=n5_;clear n0_ n1_ n2_ n3_ n4_ n5_;clear ho hb hg hat;obtain ⟨Ao57,co57,eo57⟩:=Kd.R_slice HO191.out;subst eo57;have hcz58_0 : w56.cell? ⟨gb183,0,none⟩ = some (.int .i64 (l1.length : Int)):=(qh BK183.out 0).trans rfl;have hcz58_1 : w56.cell? ⟨gb183,1,none⟩ = some (u184001):=(qh BK183.out 1).trans rfl;have hfz58_0:=qi BK183.out 0;have hfz58_1:=qi BK183.out 1))
                                      go_roundg k3
                                      case measure=>have:=HK1.out;have:=HK2.out;have:=HK3.out;omega
                                      case rel=>exact ⟨(wrap64 (x11_3 + 1)),(y189),(.slice Ao57 y189.length co57),(by first|rfl|(simp;done)|(simp [*];done)),H',⟨by have:=HK1.out;have:=HK2.out;have:=HK3.out;omega⟩,⟨by (with_reducible repeat (first|apply Kd.R_alloc|apply Kd.R_drewN|apply Kd.R_drew));exact Kd.R_mono (Kd.R_far (p:=⟨gb183,1,none⟩) (Kd.R_types HO191.out BK183.out (by decide)) (fun _ hk=>hk.2) (.slice Ao57 y189.length co57)) (fun _ hk=>trivial)⟩,⟨by (with_reducible repeat (first|refine qb ?_ _|refine qe ?_|refine qc ?_ _));refine blk_far ?_ NB177_183.out _;(with_reducible repeat (first|refine qb ?_ _|refine qe ?_|refine qc ?_ _));exact BK177.out⟩,⟨by (with_reducible repeat (first|refine qb ?_ _|refine qe ?_|refine qc ?_ _));refine blk_far ?_ NB178_183.out _;(with_reducible repeat (first|refine qb ?_ _|refine qe ?_|refine qc ?_ _));exact BK178.out⟩,⟨by (with_reducible repeat (first|refine qb ?_ _|refine qe ?_|refine qc ?_ _));refine blk_put (cs:=#[.int .i64 (l1.length : Int),u184001]) ?_ 1 _ rfl;(with_reducible repeat (first|refine qb ?_ _|refine qe ?_|refine qc ?_ _));exact BK183.out⟩,⟨by repeat (first|(with_reducible first|exact HB.out|apply qf|apply qa|apply qd|refine qg ?_ GE177.out|refine qg ?_ GE178.out|refine qg ?_ GE183.out|refine qg ?_ GE188.out)|exact HB.out)⟩⟩
                                  · rw [if_neg c43] at H
                                    exact absurd H (by simp)
                                · rw [if_neg c42] at H
                                  exact absurd H (by simp)
                              · rw [if_neg c41] at H
                                exact absurd H (by simp)
                            · rw [if_neg c40] at H
                              have c40b0 : decide (0 ≤ t186) = false:=decide_eq_false c40
                              clear c40
                              have H':=qn.mk H
                              clear H
                              try go_wp2
                              have n0_:=qn.mk (Kd.R_drew HO_184001.out)
                              have n1_:=qn.mk (qe BK177.out)
                              have n2_:=qn.mk (qe BK178.out)
                              have n3_:=qn.mk (qe BK183.out)
                              have n4_:=qn.mk (qd HB.out)
                              clear HO_184001
                              clear BK177
                              clear BK178
                              clear BK183
                              clear HB
                              have HO_184001:=n0_
                              have BK177:=n1_
                              have BK178:=n2_
                              have BK183:=n3_
                              have HB:=n4_
                              clear n0_ n1_ n2_ n3_ n4_
                              have p185 : 0 ≤ (x11_3 : Int):=of_decide_eq_true (by first|(with_reducible assumption)|assumption)
                              have q185 : x11_3 < (l1.length : Int):=of_decide_eq_true (by first|(with_reducible assumption)|assumption)
                              obtain ⟨ad185,e185,hx185_0⟩:=Kd.at_int HR1.out x11_3 p185 q185
                              have hw185_0:=hx185_0
                              obtain rfl : ad184 = ad185:=(by injection e185)
                              replace hx185_0:=cb_ HB hx185_0
                              replace p185:=eq_true p185
                              replace q185:=eq_true q185
                              refine start_ (n:=8) (S:=fun w'=>w'.cell? ⟨gb177,0,none⟩ = some (.int .i64 a0_0) ∧ w'.cell? ⟨gb177,1,none⟩ = some (.slice A0_1 l0_1.length c0_1) ∧ w'.cell? (ad184.add (x11_3).toNat) = some (.int .i64 (rd l1 x11_3))) (ds:=[]) #[false,false,false,false,false,false,false,false] (by kernel_rfl) rfl rfl ⟨(qh BK177.out 0).trans rfl,(qh BK177.out 1).trans rfl,(cb_ HB hw185_0:)⟩ (fun hHeld=>?_);refine with_tabW impl_Induced.tab16 impl_Induced.bits16 (fun HT_ HW_=>?_)
                              generalize wr.drew = w59 at HO_184001 BK177 BK178 BK183 HB hx185_0 hHeld ⊢
                              refine pure_ (i:=1) (N:=some 65) (v:=?_) (a':=?_) #[false,true,false,false,false,false,false,false] rfl rfl (any_of HT_.out (by kernel_rfl)) (fun _ _ _ h=>h) (Or.inl ⟨by rfl,?_⟩) ?_ ?_
                              rotate_left
                              · intro w'
                                go_simp
                                with_reducible rfl
                              rotate_left
                              · simp only [Act.put,List.setIfInBounds_toArray,List.set_cons_zero,List.set_cons_succ,i64_w,i32_w]
                                rfl
                              refine pure_ (i:=2) (N:=some 66) (v:=?_) (a':=?_) #[false,true,true,false,false,false,false,false] rfl rfl (any_of HT_.out (by kernel_rfl)) (fun _ _ _ h=>h) (Or.inl ⟨by rfl,?_⟩) ?_ ?_
                              rotate_left
                              · intro w'
                                go_simp
                                with_reducible rfl
                              rotate_left
                              · simp only [Act.put,List.setIfInBounds_toArray,List.set_cons_zero,List.set_cons_succ,i64_w,i32_w]
                                rfl
                              refine pure_ (i:=3) (N:=some 67) (v:=?_) (a':=?_) #[false,true,true,true,false,false,false,false] rfl rfl (any_of HT_.out (by kernel_rfl)) (fun _ _ _ h=>h) (Or.inl ⟨by rfl,?_⟩) ?_ ?_
                              rotate_left
                              · intro w'
                                go_simp
                                with_reducible rfl
                              rotate_left
                              · simp only [Act.put,List.setIfInBounds_toArray,List.set_cons_zero,List.set_cons_succ,i64_w,i32_w]
                                rfl
                              refine pure_ (i:=4) (N:=some 68) (v:=?_) (a':=?_) #[false,true,true,true,true,false,false,false] rfl rfl (any_of HT_.out (by kernel_rfl)) (fun _ _ _ h=>h) (Or.inl ⟨by rfl,?_⟩) ?_ ?_
                              rotate_left
                              · intro w'
                                go_simp
                                with_reducible rfl
                              rotate_left
                              · simp only [Act.put,List.setIfInBounds_toArray,List.set_cons_zero,List.set_cons_succ,i64_w,i32_w]
                                rfl
                              refine take_ (i:=0) (N:=some 64) (v:=?_) (a':=?_) #[true,true,true,true,true,false,false,false] rfl rfl (take_ofW HT_.out HW_.out (by kernel_rfl)) (fun _ _ _ h=>h) (Or.inl ⟨by rfl,?_⟩) hHeld ?_ ?_
                              rotate_left
                              · rintro w' ⟨s0,s1,s2⟩
                                go_simp
                                with_reducible rfl
                              rotate_left
                              · simp only [Act.put,List.setIfInBounds_toArray,List.set_cons_zero,List.set_cons_succ,i64_w,i32_w]
                                rfl
                              refine take_ (i:=5) (N:=some 69) (v:=?_) (a':=?_) #[true,true,true,true,true,true,false,false] rfl rfl (take_ofW HT_.out HW_.out (by kernel_rfl)) (fun _ _ _ h=>h) (Or.inl ⟨by rfl,?_⟩) hHeld ?_ ?_
                              rotate_left
                              · rintro w' ⟨s0,s1,s2⟩
                                go_simp
                                with_reducible rfl
                              rotate_left
                              · simp only [Act.put,List.setIfInBounds_toArray,List.set_cons_zero,List.set_cons_succ,i64_w,i32_w]
                                rfl
                              refine one_ (i:=6) (N:=some 70) #[true,true,true,true,true,true,true,false] rfl rfl (one_of HT_.out (by kernel_rfl)) (by decide) (fun K hK=>?_)
                              refine goes_ Try.func98 (by kernel_rfl) rfl #[.agg #[.int .i64 a0_0,.slice A0_1 l0_1.length c0_1],.int .i64 (rd l1 x51_2),.int .i64 (rd l1 x11_3)] (by rfl) rfl rfl (by (try simp only [List.map_toArray,List.map_cons,List.map_nil]);first|done|rfl|(simp only [List.length_drop,List.length_take];rfl)) ?_
                              with_reducible refine (impl_edgeAt.calls k3 a0_0 _ _ l0_1 (rd l1 x51_2) (rd l1 x11_3) t186 _ ?side1 ?side2 A39.out).mono ?_
                              (case side1=>repeat (first|exact (Kd.C_below HR0_1.out HB.out)|(with_reducible refine Kd.C_alloc ?_ _)|(with_reducible refine Kd.C_drewN ?_ _)|(with_reducible refine Kd.C_drew ?_)))
                              (case side2=>exact HC0_1.out)
                              rintro e w60 ⟨rfl,hb⟩
                              refine ⟨_,rfl,?_⟩
                              have n0_:=rb_ HO_184001 hb
                              have n1_:=bb_ BK177 hb
                              have n2_:=bb_ BK178 hb
                              have n3_:=bb_ BK183 hb
                              have n4_:=hs_ HB hb
                              clear HO_184001
                              clear BK177
                              clear BK178
                              clear BK183
                              clear HB
                              have HO_184001:=n0_
                              have BK177:=n1_
                              have BK178:=n2_
                              have BK183:=n3_
                              have HB:=n4_
                              clear n0_ n1_ n2_ n3_ n4_
                              (try clear hb)
                              (try clear hb2)
                              (try clear hk)
                              (try clear hi)
                              refine hK.out _ _ ⟨(qh BK177.out 0).trans rfl,(qh BK177.out 1).trans rfl,(cb_ HB hw185_0:)⟩ (fun hHeld=>?_)
                              clear hK K
                              refine norm_ (a':=?_) ?_ ?_
                              rotate_left
                              · show Act.put _ (some 70) _ = _
                                simp only [Act.put,List.setIfInBounds_toArray,List.set_cons_zero,List.set_cons_succ,i64_w,i32_w]
                                rfl
                              refine pure_ (i:=7) (N:=some 12) (v:=?_) (a':=?_) #[true,true,true,true,true,true,true,true] rfl rfl (any_of HT_.out (by kernel_rfl)) (fun _ _ _ h=>h) (Or.inl ⟨by rfl,?_⟩) ?_ ?_
                              rotate_left
                              · intro w'
                                go_simp
                                with_reducible rfl
                              rotate_left
                              · simp only [Act.put,List.setIfInBounds_toArray,List.set_cons_zero,List.set_cons_succ,i64_w,i32_w]
                                rfl
                              refine done_ (done_of HT_.out (by kernel_rfl)) ?_
                              try go_wp2
                              go_roundg k3
                              case measure=>have:=HK1.out;have:=HK2.out;have:=HK3.out;omega
                              case rel=>exact ⟨(wrap64 (x11_3 + 1)),(x184001_3),(u184001),(by first|rfl|(simp;done)|(simp [*];done)),H',⟨by have:=HK1.out;have:=HK2.out;have:=HK3.out;omega⟩,⟨by (with_reducible repeat (first|apply Kd.R_alloc|apply Kd.R_drewN|apply Kd.R_drew));exact HO_184001.out⟩,⟨by (with_reducible repeat (first|refine qb ?_ _|refine qe ?_|refine qc ?_ _));exact BK177.out⟩,⟨by (with_reducible repeat (first|refine qb ?_ _|refine qe ?_|refine qc ?_ _));exact BK178.out⟩,⟨by (with_reducible repeat (first|refine qb ?_ _|refine qe ?_|refine qc ?_ _));exact BK183.out⟩,⟨by repeat (first|(with_reducible first|exact HB.out|apply qf|apply qa|apply qd|refine qg ?_ GE177.out|refine qg ?_ GE178.out|refine qg ?_ GE183.out)|exact HB.out)⟩⟩
                          · rw [if_neg c38] at H
                            exact absurd H (by simp)
                        · rw [if_neg c37] at H
                          have c37b0 : decide (x11_3 < (l1.length : Int)) = false:=decide_eq_false c37
                          clear c37
                          have H':=qn.mk H
                          clear H
                          go_wp2
                          go_roundg k3
                          case measure=>have:=HK1.out;have:=HK2.out;have:=HK3.out;omega
                          case rel=>exact ⟨(wrap64 (x51_2 + 1)),(x184001_3),(u184001),(by first|rfl|(simp;done)|(simp [*];done)),H',⟨by have:=HK1.out;have:=HK2.out;have:=HK3.out;omega⟩,⟨by (with_reducible repeat (first|apply Kd.R_alloc|apply Kd.R_drewN|apply Kd.R_drew));exact HO_184001.out⟩,⟨by (with_reducible repeat (first|refine qb ?_ _|refine qe ?_|refine qc ?_ _));exact BK177.out⟩,⟨by (with_reducible repeat (first|refine qb ?_ _|refine qe ?_|refine qc ?_ _));exact BK178.out⟩,⟨by (with_reducible repeat (first|refine qb ?_ _|refine qe ?_|refine qc ?_ _));exact BK183.out⟩,⟨by repeat (first|(with_reducible first|exact HB.out|apply qf|apply qa|apply qd|refine qg ?_ GE177.out|refine qg ?_ GE178.out|refine qg ?_ GE183.out)|exact HB.out)⟩⟩
                  · rw [if_neg c36] at H
                    exact absurd H (by simp)
                · rw [if_neg c35] at H
                  exact absurd H (by simp)
              · rw [if_neg c34] at H
                have c34b0 : decide (x51_2 < (l1.length : Int)) = false:=decide_eq_false c34
                clear c34
                simp only [Option.some.injEq,Prod.mk.injEq] at H
                obtain ⟨rfl,rfl,rfl⟩:=H
                have hnb61:=NB183_177.out
                have hnc61:=NB177_183.out
                have hnb62:=NB183_178.out
                have hnc62:=NB178_183.out
                have hcz63_0 : wr.cell? ⟨gb183,0,none⟩ = some (.int .i64 (l1.length : Int)):=(qh BK183.out 0).trans rfl
                have hcz63_1 : wr.cell? ⟨gb183,1,none⟩ = some (u184001):=(qh BK183.out 1).trans rfl
                have hfz63_0:=qi BK183.out 0
                have hfz63_1:=qi BK183.out 1
                have hnb64:=NB178_177.out
                have hnc64:=NB177_178.out
                have hcz65_0 : wr.cell? ⟨gb178,0,none⟩ = some (.int .i64 x179000_1):=(qh BK178.out 0).trans rfl
                have hcz65_1 : wr.cell? ⟨gb178,1,none⟩ = some (.slice none 0 0):=(qh BK178.out 1).trans rfl
                have hfz65_0:=qi BK178.out 0
                have hfz65_1:=qi BK178.out 1
                obtain ⟨Ao66,co66,eo66⟩:=Kd.R_slice HO_184001.out
                subst eo66
                go_wp2
                refine bodyPost_ret (results_ct rfl _ _ gb178 56 #[.int .i64 (l1.length : Int),.slice Ao66 x184001_2.length co66] (0,0) _ rfl (by (with_reducible repeat (first|refine qb ?_ _|refine qe ?_|refine qc ?_ _));refine blk_put (cs:=#[.int .i64 (l1.length : Int),.slice none 0 0]) ?_ 1 _ rfl;(with_reducible repeat (first|refine qb ?_ _|refine qe ?_|refine qc ?_ _));refine blk_put (cs:=#[.int .i64 x179000_1,.slice none 0 0]) ?_ 0 _ rfl;(with_reducible repeat (first|refine qb ?_ _|refine qe ?_|refine qc ?_ _));exact BK178.out) Try.underlying56 rfl (by kernel_rfl)) rfl ?_
                exact ⟨_,by first|rfl|(simp [errW_none,errW_some] <;> rfl)|(simp [*,errW_none,errW_some] <;> rfl),by (with_reducible repeat (first|apply Kd.R_alloc|apply Kd.R_drewN|apply Kd.R_drew));exact Kd.R_mono (Kd.R_far (p:=⟨gb178,1,none⟩) (Kd.R_far (p:=⟨gb178,0,none⟩) (Kd.R_types HO_184001.out BK178.out (by decide)) (fun _ hk=>hk.2) (.int .i64 (l1.length : Int))) (fun _ hk=>hk.2) (.slice Ao66 x184001_2.length co66)) (fun _ hk=>trivial),by repeat (first|(with_reducible first|exact HB.out|apply qf|apply qa|apply qd|refine qg ?_ GE177.out|refine qg ?_ GE178.out|refine qg ?_ GE183.out)|exact HB.out)⟩
  · replace c4:=Bool.eq_false_iff.mpr c4
    subst c4
    have H1 : (some (0,([] : List (S148)),false)) = some (r1,r2,r3):=by rw [if_neg (show ¬ (false = true) by decide)] at H;exact H
    clear H
    have H:=H1
    clear H1
    simp only [Option.some.injEq,Prod.mk.injEq] at H
    obtain ⟨rfl,rfl,rfl⟩:=H
    go_enter Try.func43,Try.ntmps43
    go_wp2_with (first|((with_reducible refine gate_dst (N:=2) rfl ?_);refine box_event ?hg (N:=2) ?hd (cs:=#[.int .i64 a0_0,.slice A0_1 l0_1.length c0_1]) (t:=56) ?hr ?_;(case hd=>rfl);(case hg=>rfl);(case hr=>first|(go_simp;done)|(go_simp;rfl));intro gb177 hg w67 hbox hb;have n0_:=hs_ HB hb;have n1_:=qn.mk (hbox);have n2_:=qn.mk ((by rw [hg];exact (qj (by repeat (first|(with_reducible first|exact HB.out|apply qf|apply qa|apply qd)|exact HB.out))) : w.heap.size ≤ gb177));have n3_:=qn.mk ((by rw [hg];exact (qj (by repeat (first|(with_reducible first|exact HB.out|apply qf|apply qa|apply qd)|exact HB.out))) : w.heap.size ≤ gb177));clear HB;have HB:=n0_;have BK177:=n1_;have GW177:=n2_;have GE177:=n3_;clear n0_ n1_ n2_ n3_;clear hb hbox hg)|((with_reducible refine gate_dst (N:=4) rfl ?_);refine box_event ?hg (N:=4) ?hd (cs:=#[.int .i64 0,.slice none 0 0]) (t:=56) ?hr ?_;(case hd=>rfl);(case hg=>rfl);(case hr=>first|(go_simp;done)|(go_simp;rfl));intro gb178 hg w68 hbox hb;have n0_:=bb_ BK177 hb;have n1_:=hs_ HB hb;have n2_:=qn.mk (hbox);have n3_:=qn.mk ((by rw [hg];exact (qj (by repeat (first|(with_reducible first|exact HB.out|apply qf|apply qa|apply qd|refine qg ?_ GE177.out)|exact HB.out))) : w.heap.size ≤ gb178));have n4_:=qn.mk ((by rw [hg];exact (qj (by repeat (first|(with_reducible first|exact HB.out|apply qf|apply qa|apply qd|refine qg ?_ GE177.out)|exact HB.out))) : w.heap.size ≤ gb178));have n5_:=qn.mk ((by rw [hg];exact nl_ BK177 : gb177 ≠ gb178));have n6_:=qn.mk ((by rw [hg];exact ng_ BK177 : gb178 ≠ gb177));clear BK177;clear HB;have BK177:=n0_;have HB:=n1_;have BK178:=n2_;have GW178:=n3_;have GE178:=n4_;have NB177_178:=n5_;have NB178_177:=n6_;clear n0_ n1_ n2_ n3_ n4_ n5_ n6_;clear hb hbox hg;have hnb69:=NB177_178.out;have hnc69:=NB178_177.out;have hcz70_0 : w68.cell? ⟨gb177,0,none⟩ = some (.int .i64 a0_0):=(qh BK177.out 0).trans rfl;have hcz70_1 : w68.cell? ⟨gb177,1,none⟩ = some (.slice A0_1 l0_1.length c0_1):=(qh BK177.out 1).trans rfl;have hfz70_0:=qi BK177.out 0;have hfz70_1:=qi BK177.out 1)|((with_reducible refine gate_callee (f:=97) rfl ?_);refine goesL_ (some 15) rfl rfl Try.func97 (by kernel_rfl) rfl #[.agg #[.int .i64 a0_0,.slice A0_1 l0_1.length c0_1]] rfl (by (try simp only [List.map_toArray,List.map_cons,List.map_nil]);first|done|rfl|(simp only [List.length_drop,List.length_take];rfl)) ?_;(with_reducible refine (impl_GraphOk.calls k a0_0 _ _ l0_1 false _ ?side1 ?side2 A3.out).mono ?_);(case side1=>repeat (first|exact (Kd.C_below HR0_1.out HB.out)|(with_reducible refine Kd.C_alloc ?_ _)|(with_reducible refine Kd.C_drewN ?_ _)|(with_reducible refine Kd.C_drew ?_)));(case side2=>exact HC0_1.out);rintro e w71 ⟨rfl,hb⟩;refine ⟨_,rfl,?_⟩;have n0_:=bb_ BK177 hb;have n1_:=bb_ BK178 hb;have n2_:=hs_ HB hb;clear BK177;clear BK178;clear HB;have BK177:=n0_;have BK178:=n1_;have HB:=n2_;clear n0_ n1_ n2_;(try clear hb);(try clear hb2);(try clear hk);(try clear hi);have hcz72_0 : w71.cell? ⟨gb178,0,none⟩ = some (.int .i64 0):=(qh BK178.out 0).trans rfl;have hcz72_1 : w71.cell? ⟨gb178,1,none⟩ = some (.slice none 0 0):=(qh BK178.out 1).trans rfl;have hfz72_0:=qi BK178.out 0;have hfz72_1:=qi BK178.out 1))
    refine bodyPost_ret (results_ct rfl _ _ gb178 56 #[.int .i64 0,.slice none 0 0] (0,0) _ rfl (by (with_reducible repeat (first|refine qb ?_ _|refine qe ?_|refine qc ?_ _));refine blk_put (cs:=#[.int .i64 0,.slice none 0 0]) ?_ 1 _ rfl;(with_reducible repeat (first|refine qb ?_ _|refine qe ?_|refine qc ?_ _));refine blk_put (cs:=#[.int .i64 0,.slice none 0 0]) ?_ 0 _ rfl;(with_reducible repeat (first|refine qb ?_ _|refine qe ?_|refine qc ?_ _));exact BK178.out) Try.underlying56 rfl (by kernel_rfl)) rfl ?_
    exact ⟨_,by first|rfl|(simp [errW_none,errW_some] <;> rfl)|(simp [*,errW_none,errW_some] <;> rfl),by first|exact Kd.R_nil _ _ _ _ _|exact Kd.N_nil _ _ _ _ _|exact Kd.V_nil _ _ _ _ _|exact Kd.Q_nil _ _ _ _ _|exact Kd.S_nil _ _ _ _ _,by repeat (first|(with_reducible first|exact HB.out|apply qf|apply qa|apply qd|refine qg ?_ GE177.out|refine qg ?_ GE178.out)|exact HB.out)⟩

end Go.Proofs.Ytbonjmnpcklciaa.QFnExactInduced
