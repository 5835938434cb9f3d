/- Lean functions for the Go functions that the law FnExactFreeOf reaches, and that each Go function comes to just its Lean function's answer; by a program of this session. -/
import Derived.Test.YtbonjmnpcklciaaZFnExactFreeOfx0
import Derived.Test.YtbonjmnpcklciaaZFnExactFreeOfx4
namespace Go.Proofs.Ytbonjmnpcklciaa.QFnExactFreeOf
open Go.RowKit Go.Proofs.YtbonjmnpcklciaaW.PrintWords Go.Proofs.YtbonjmnpcklciaaW.PrintLast Go.Proofs.YtbonjmnpcklciaaW.PrintMore
attribute [local go_sem] max2_int min2_int max_two min_two max_three min_three max_four min_four   -- for this text's walks alone
set_option linter.unusedVariables false
set_option linter.unusedSimpArgs false

/-! ### spec_FreeOf: function 56 -/
mutual
def spec_FreeOf.l0 : Nat → List Int → List Int → Int → List ByteArray → List (S143) → Option (List Int)
  | 0,_,_,_,_,_=>none
  | k + 1,x1,x5,x6,x174000,x174001=>if x6 < (x174000.length : Int) then ((spec_DeviceOk.f k x174000 x174001).bind fun t177=>(spec_FreeOf.j1 k x1 x5 x6 t177 x174000 x174001)) else (spec_FreeOf.j1 k x1 x5 x6 false x174000 x174001)
def spec_FreeOf.j1 : Nat → List Int → List Int → Int → Bool → List ByteArray → List (S143) → Option (List Int)
  | 0,_,_,_,_,_,_=>none
  | k + 1,x1,x5,x6,x16,x174000,x174001=>if x16 = true then ((spec_l03In.f k x1 x6).bind fun t178=>(if t178 = true then (spec_FreeOf.l0 k x1 x5 (wrap64 (x6 + 1)) x174000 x174001) else (if x5.length < 17592186044416 then (spec_FreeOf.l0 k x1 (x5 ++ [x6]) (wrap64 (x6 + 1)) x174000 x174001) else (none)))) else (some x5)
end
def spec_FreeOf.f (k : Nat) (l0_0 : List ByteArray) (l0_1 : List (S143)) (l1 : List Int) : Option (List Int):=spec_FreeOf.l0 k l1 (([] : List Int)) 2 l0_0 l0_1
theorem spec_FreeOf.mono_l : ∀ k,(∀ y0 y1 y2 y3 y4,LeO (spec_FreeOf.l0 k y0 y1 y2 y3 y4) (spec_FreeOf.l0 (k + 1) y0 y1 y2 y3 y4)) ∧ (∀ y0 y1 y2 y3 y4 y5,LeO (spec_FreeOf.j1 k y0 y1 y2 y3 y4 y5) (spec_FreeOf.j1 (k + 1) y0 y1 y2 y3 y4 y5))
  | 0=>⟨fun _ _ _ _ _ r h=>by simp [spec_FreeOf.l0] at h,fun _ _ _ _ _ _ r h=>by simp [spec_FreeOf.j1] at h⟩
  | k + 1=>by
    obtain ⟨ih0,ih1⟩:=spec_FreeOf.mono_l k
    refine ⟨?_,?_⟩
    · intro y0 y1 y2 y3 y4
      unfold spec_FreeOf.l0
      repeat' first
      | (with_reducible exact ih0 _ _ _ _ _)
      | (with_reducible exact ih1 _ _ _ _ _ _)
      | (with_reducible exact spec_DeviceOk.mono _ _ _)
      | (with_reducible exact spec_l03In.mono _ _ _)
      | (with_reducible exact LeO.refl _)
      | (with_reducible exact LeO.none _)
      | (with_reducible refine LeO.ite ?_ ?_)
      | (with_reducible refine LeO.bind ?_ (fun _=>?_))
      | exact ih0 _ _ _ _ _
      | exact ih1 _ _ _ _ _ _
      | exact spec_DeviceOk.mono _ _ _
      | exact spec_l03In.mono _ _ _
      | exact LeO.none _
      | refine LeO.ite ?_ ?_
      | refine LeO.bind ?_ (fun _=>?_)
    · intro y0 y1 y2 y3 y4 y5
      unfold spec_FreeOf.j1
      repeat' first
      | (with_reducible exact ih0 _ _ _ _ _)
      | (with_reducible exact ih1 _ _ _ _ _ _)
      | (with_reducible exact spec_DeviceOk.mono _ _ _)
      | (with_reducible exact spec_l03In.mono _ _ _)
      | (with_reducible exact LeO.refl _)
      | (with_reducible exact LeO.none _)
      | (with_reducible refine LeO.ite ?_ ?_)
      | (with_reducible refine LeO.bind ?_ (fun _=>?_))
      | exact ih0 _ _ _ _ _
      | exact ih1 _ _ _ _ _ _
      | exact spec_DeviceOk.mono _ _ _
      | exact spec_l03In.mono _ _ _
      | exact LeO.none _
      | refine LeO.ite ?_ ?_
      | refine LeO.bind ?_ (fun _=>?_)
theorem spec_FreeOf.mono : ∀ a0 a1 a2 k,LeO (spec_FreeOf.f k a0 a1 a2) (spec_FreeOf.f (k + 1) a0 a1 a2):=by
  intro a0 a1 a2 k
  obtain ⟨ih0,ih1⟩:=spec_FreeOf.mono_l k
  unfold spec_FreeOf.f
  repeat' first
      | (with_reducible exact ih0 _ _ _ _ _)
      | (with_reducible exact ih1 _ _ _ _ _ _)
      | (with_reducible exact spec_DeviceOk.mono _ _ _)
      | (with_reducible exact spec_l03In.mono _ _ _)
      | (with_reducible exact LeO.refl _)
      | (with_reducible exact LeO.none _)
      | (with_reducible refine LeO.ite ?_ ?_)
      | (with_reducible refine LeO.bind ?_ (fun _=>?_))
      | exact ih0 _ _ _ _ _
      | exact ih1 _ _ _ _ _ _
      | exact spec_DeviceOk.mono _ _ _
      | exact spec_l03In.mono _ _ _
      | exact LeO.none _
      | refine LeO.ite ?_ ?_
      | refine LeO.bind ?_ (fun _=>?_)
set_option maxHeartbeats 8000000 in
set_option maxRecDepth 100000 in
theorem spec_FreeOf.calls (k : Nat) (A0_0 : Option Addr) (c0_0 : Nat) (l0_0 : List ByteArray) (A0_1 : Option Addr) (c0_1 : Nat) (l0_1 : List (S143)) (A1 : Option Addr) (c1 : Nat) (l1 : List Int) (r : List Int) (w : World) (hr0_0 : Kd.C Kd.string w A0_0 l0_0.length l0_0) (hc0_0 : l0_0.length ≤ c0_0) (hr0_1 : Kd.C k143 w A0_1 l0_1.length l0_1) (hc0_1 : l0_1.length ≤ c0_1) (hr1 : Kd.C (Kd.int .i64) w A1 l1.length l1) (hc1 : l1.length ≤ c1) (h : spec_FreeOf.f k l0_0 l0_1 l1 = some r) :
    Calls Try.prog 56 #[.agg #[.slice A0_0 l0_0.length c0_0,.slice A0_1 l0_1.length c0_1],.slice A1 l1.length c1] w fun e w'=>∃ v0_ : Value,e = .returned (v0_) ∧ Kd.R (Kd.int .i64) 3 w' w.heap.size (fun _=>True) v0_ r ∧ Below w.heap.size w w':=by
  have hu31:=Try.underlying31
  have HR0_0:=qn.mk hr0_0
  have HC0_0:=qn.mk hc0_0
  clear hr0_0 hc0_0
  have HR0_1:=qn.mk hr0_1
  have HC0_1:=qn.mk hc0_1
  clear hr0_1 hc0_1
  have HR1:=qn.mk hr1
  have HC1:=qn.mk hc1
  clear hr1 hc1
  have HB:=qn.mk (Below.refl w.heap.size w)
  have H : (spec_FreeOf.l0 k l1 (([] : List Int)) 2 l0_0 l0_1) = some r:=h
  clear h
  obtain ⟨y174,hy174⟩ : ∃ y_ : List Int,y_ = (([] : List Int)):=⟨_,rfl⟩
  replace H : (spec_FreeOf.l0 k l1 y174 2 l0_0 l0_1) = some r:=by first|(rw [hy174];with_reducible exact H)|(have H2_:=(Option.bind_some _ _).symm.trans H;rw [hy174];with_reducible exact H2_)|(have H2_:=(Option.bind_some _ _).symm.trans H;with_reducible exact H2_)|with_reducible exact H|(rw [hy174];exact H)|exact H
  have Ny174:=qn.mk hy174
  clear hy174
  have H':=qn.mk H
  clear H
  go_enter Try.func56,Try.ntmps56
  go_wp2_with (first|((with_reducible refine gate_dst (N:=2) rfl ?_);refine box_event ?hg (N:=2) ?hd (cs:=#[.slice A0_0 l0_0.length c0_0,.slice A0_1 l0_1.length c0_1]) (t:=31) ?hr ?_;(case hd=>rfl);(case hg=>rfl);(case hr=>first|(go_simp;done)|(go_simp;rfl));intro gb173 hg w3 hbox hb;have n0_:=hs_ HB hb;have n1_:=qn.mk (hbox);have n2_:=qn.mk ((by rw [hg];exact (qj (by repeat (first|(with_reducible first|exact HB.out|apply qf|apply qa|apply qd)|exact HB.out))) : w.heap.size ≤ gb173));have n3_:=qn.mk ((by rw [hg];exact (qj (by repeat (first|(with_reducible first|exact HB.out|apply qf|apply qa|apply qd)|exact HB.out))) : w.heap.size ≤ gb173));clear HB;have HB:=n0_;have BK173:=n1_;have GW173:=n2_;have GE173:=n3_;clear n0_ n1_ n2_ n3_;clear hb hbox hg)|((with_reducible refine gate_dst (N:=7) rfl ?_);refine Kd.R_lit (Kd.int .i64) _ 3 ?hg (N:=7) ?hd (xs:=([] : List Int)) (inner:=[]) (ok:=fun _=>True) (okp:=fun _=>True) ?hr ?hp (fun _ hk=>hk) trivial (Below.refl _ _) (Nat.le_refl _) (by simp) ?_;(case hd=>rfl);(case hg=>rfl);(case hr=>first|(go_simp;done)|(go_simp;rfl));(case hp=>exact (Reps.none _ _));intro v175 w4 ho5 hb hg_ hnew_;clear hg_ hnew_;(first|rw [← Ny174.out] at ho5|(simp only [Int.reduceToNat] at ho5;rw [← Ny174.out] at ho5));have n0_:=qn.mk (Kd.R_lower ho5 (qj (by repeat (first|(with_reducible first|exact HB.out|apply qf|apply qa|apply qd|refine qg ?_ GE173.out)|exact HB.out))));have n1_:=bb_ BK173 hb;have n2_:=hs_ HB hb;clear BK173;clear HB;have HO176:=n0_;have BK173:=n1_;have HB:=n2_;clear n0_ n1_ n2_;clear hb ho5))
  go_loopg [5,6] k (fun kq v5 v6 w'=>∃ (x5_1 : List Int) (x6_1 : Int),v6 = .int .i64 x6_1 ∧ qn (spec_FreeOf.l0 kq l1 x5_1 x6_1 l0_0 l0_1 = some r) ∧ qn (kq ≤ k) ∧ qn (Kd.R (Kd.int .i64) 3 w' w.heap.size (fun _=>True) v5 x5_1) ∧ qn (w'.heap[gb173]? = some (.cells #[(.slice A0_0 l0_0.length c0_0),(.slice A0_1 l0_1.length c0_1)] 31 (0,0))) ∧ qn (Below w.heap.size w w'))
  case atStart=>exact ⟨(y174),(2),(by first|rfl|(simp;done)|(simp [*];done)),H',⟨Nat.le_refl _⟩,⟨by (with_reducible repeat (first|apply Kd.R_alloc|apply Kd.R_drewN|apply Kd.R_drew));exact HO176.out⟩,⟨by (with_reducible repeat (first|refine qb ?_ _|refine qe ?_|refine qc ?_ _));exact BK173.out⟩,⟨by repeat (first|(with_reducible first|exact HB.out|apply qf|apply qa|apply qd|refine qg ?_ GE173.out)|exact HB.out)⟩⟩
  case round =>
    clear H'
    try clear c1
    try clear p2
    try clear c5
    obtain ⟨x5_1,x6_1,rfl,HA,HK1,HO_5,BK173,HB⟩:=hrel
    cases gk with
    | zero=>exact absurd HA.out (by simp [spec_FreeOf.l0])
    | succ k1 =>
      have H:=HA.out
      clear HA
      simp only [spec_FreeOf.l0] at H
      have HC6:=qn.mk H
      clear H
      go_upto_region 3 with (fail)
      go_cut [16] (fun v16 wc=>∃ (kq : Nat) (x16_5 : Bool),v16 = .bool x16_5 ∧ qn (spec_FreeOf.j1 kq l1 x5_1 x6_1 x16_5 l0_0 l0_1 = some r) ∧ qn (kq ≤ k1) ∧ qn (Kd.R (Kd.int .i64) 3 wc w.heap.size (fun _=>True) u5 x5_1) ∧ qn (wc.heap[gb173]? = some (.cells #[(.slice A0_0 l0_0.length c0_0),(.slice A0_1 l0_1.length c0_1)] 31 (0,0))) ∧ qn (Below w.heap.size w wc))
      case first =>
        have H:=HC6.out
        clear HC6
        by_cases c7 : x6_1 < (l0_0.length : Int)
        · rw [if_pos c7] at H
          have c7b0 : decide (x6_1 < (l0_0.length : Int)) = true:=decide_eq_true c7
          clear c7
          (first|rw [c7b0]|(simp only [i64_w,i32_w];rw [c7b0])|skip)
          replace H:=Option.bind_eq_some_iff.mp H
          obtain ⟨t177,A80,H⟩:=H
          replace H : (spec_FreeOf.j1 k1 l1 x5_1 x6_1 t177 l0_0 l0_1) = some r:=H
          have A8:=qn.mk A80
          clear A80
          have H':=qn.mk H
          clear H
          have hcz9_0 : wr.cell? ⟨gb173,0,none⟩ = some (.slice A0_0 l0_0.length c0_0):=(qh BK173.out 0).trans rfl
          have hcz9_1 : wr.cell? ⟨gb173,1,none⟩ = some (.slice A0_1 l0_1.length c0_1):=(qh BK173.out 1).trans rfl
          have hfz9_0:=qi BK173.out 0
          have hfz9_1:=qi BK173.out 1
          go_wp2_with (first|(go_at_call 73;(with_reducible refine (spec_DeviceOk.calls k1 _ _ l0_0 _ _ l0_1 t177 _ ?side1 ?side2 ?side3 ?side4 A8.out).mono ?_);(case side1=>repeat (first|exact (Kd.C_below HR0_0.out HB.out)|(with_reducible refine Kd.C_alloc ?_ _)|(with_reducible refine Kd.C_drewN ?_ _)|(with_reducible refine Kd.C_drew ?_)));(case side2=>exact HC0_0.out);(case side3=>repeat (first|exact (Kd.C_below HR0_1.out HB.out)|(with_reducible refine Kd.C_alloc ?_ _)|(with_reducible refine Kd.C_drewN ?_ _)|(with_reducible refine Kd.C_drew ?_)));(case side4=>exact HC0_1.out);rintro e w10 ⟨rfl,hb⟩;have n0_:=rb_ HO_5 hb;have n1_:=bb_ BK173 hb;have n2_:=hs_ HB hb;clear HO_5;clear BK173;clear HB;have HO_5:=n0_;have BK173:=n1_;have HB:=n2_;clear n0_ n1_ n2_;(try clear hb);(try clear hb2);(try clear hk);(try clear hi)))
          go_meet
          case rel=>exact ⟨_,(t177),(by first|rfl|(simp;done)|(simp [*];done)),H',⟨by have:=HK1.out;first|omega|exact Nat.le_refl _⟩,⟨by (with_reducible repeat (first|apply Kd.R_alloc|apply Kd.R_drewN|apply Kd.R_drew));exact HO_5.out⟩,⟨by (with_reducible repeat (first|refine qb ?_ _|refine qe ?_|refine qc ?_ _));exact BK173.out⟩,⟨by repeat (first|(with_reducible first|exact HB.out|apply qf|apply qa|apply qd|refine qg ?_ GE173.out)|exact HB.out)⟩⟩
        · rw [if_neg c7] at H
          have c7b0 : decide (x6_1 < (l0_0.length : Int)) = false:=decide_eq_false c7
          clear c7
          (first|rw [c7b0]|(simp only [i64_w,i32_w];rw [c7b0])|skip)
          have H':=qn.mk H
          clear H
          have hcz11_0 : wr.cell? ⟨gb173,0,none⟩ = some (.slice A0_0 l0_0.length c0_0):=(qh BK173.out 0).trans rfl
          have hcz11_1 : wr.cell? ⟨gb173,1,none⟩ = some (.slice A0_1 l0_1.length c0_1):=(qh BK173.out 1).trans rfl
          have hfz11_0:=qi BK173.out 0
          have hfz11_1:=qi BK173.out 1
          go_wp2
          go_meet
          case rel=>exact ⟨_,(false),(by first|rfl|(simp;done)|(simp [*];done)),H',⟨by have:=HK1.out;first|omega|exact Nat.le_refl _⟩,⟨by (with_reducible repeat (first|apply Kd.R_alloc|apply Kd.R_drewN|apply Kd.R_drew));exact HO_5.out⟩,⟨by (with_reducible repeat (first|refine qb ?_ _|refine qe ?_|refine qc ?_ _));exact BK173.out⟩,⟨by repeat (first|(with_reducible first|exact HB.out|apply qf|apply qa|apply qd|refine qg ?_ GE173.out)|exact HB.out)⟩⟩
      case rest =>
        clear HC6
        try clear c1
        try clear p2
        try clear c5
        try clear c7
        try clear c7b0
        try clear hcz11_0
        try clear hcz11_1
        try clear hcz9_0
        try clear hcz9_1
        try clear hfz11_0
        try clear hfz11_1
        try clear hfz9_0
        try clear hfz9_1
        try clear p2
        obtain ⟨kq,x16_5,rfl,HA,HJ5,HO_5,BK173,HB⟩:=hcut
        cases kq with
        | zero=>exact absurd HA.out (by simp [spec_FreeOf.j1])
        | succ kj5 =>
          have H:=HA.out
          clear HA
          simp only [spec_FreeOf.j1] at H
          by_cases c12 : x16_5 = true
          · subst c12
            have H1 : ((spec_l03In.f kj5 l1 x6_1).bind fun t178=>(if t178 = true then (spec_FreeOf.l0 kj5 l1 x5_1 (wrap64 (x6_1 + 1)) l0_0 l0_1) else (if x5_1.length < 17592186044416 then (spec_FreeOf.l0 kj5 l1 (x5_1 ++ [x6_1]) (wrap64 (x6_1 + 1)) l0_0 l0_1) else (none)))) = some r:=by rw [if_pos rfl] at H;exact H
            clear H
            have H:=H1
            clear H1
            replace H:=Option.bind_eq_some_iff.mp H
            obtain ⟨t178,A130,H⟩:=H
            replace H : (if t178 = true then (spec_FreeOf.l0 kj5 l1 x5_1 (wrap64 (x6_1 + 1)) l0_0 l0_1) else (if x5_1.length < 17592186044416 then (spec_FreeOf.l0 kj5 l1 (x5_1 ++ [x6_1]) (wrap64 (x6_1 + 1)) l0_0 l0_1) else (none))) = some r:=H
            have A13:=qn.mk A130
            clear A130
            by_cases c14 : t178 = true
            · subst c14
              have H1 : (spec_FreeOf.l0 kj5 l1 x5_1 (wrap64 (x6_1 + 1)) l0_0 l0_1) = some r:=by rw [if_pos rfl] at H;exact H
              clear H
              have H:=H1
              clear H1
              have H':=qn.mk H
              clear H
              go_wp2_with (first|((with_reducible refine gate_callee (f:=94) rfl ?_);refine goesL_ (some 21) rfl rfl Try.func94 (by kernel_rfl) rfl #[.slice A1 l1.length c1,.int .i64 x6_1] rfl (by (try simp only [List.map_toArray,List.map_cons,List.map_nil]);first|done|rfl|(simp only [List.length_drop,List.length_take];rfl)) ?_;(with_reducible refine (spec_l03In.calls kj5 _ _ l1 x6_1 true _ ?side1 ?side2 A13.out).mono ?_);(case side1=>repeat (first|exact (Kd.C_below HR1.out HB.out)|(with_reducible refine Kd.C_alloc ?_ _)|(with_reducible refine Kd.C_drewN ?_ _)|(with_reducible refine Kd.C_drew ?_)));(case side2=>exact HC1.out);rintro e w' ⟨rfl,⟨nd,rfl⟩⟩;refine ⟨_,rfl,?_⟩))
              go_roundg kj5
              case measure=>have:=HK1.out;have:=HJ5.out;omega
              case rel=>exact ⟨(x5_1),(wrap64 (x6_1 + 1)),(by first|rfl|(simp;done)|(simp [*];done)),H',⟨by have:=HK1.out;have:=HJ5.out;omega⟩,⟨by (with_reducible repeat (first|apply Kd.R_alloc|apply Kd.R_drewN|apply Kd.R_drew));exact HO_5.out⟩,⟨by (with_reducible repeat (first|refine qb ?_ _|refine qe ?_|refine qc ?_ _));exact BK173.out⟩,⟨by repeat (first|(with_reducible first|exact HB.out|apply qf|apply qa|apply qd|refine qg ?_ GE173.out)|exact HB.out)⟩⟩
            · replace c14:=Bool.eq_false_iff.mpr c14
              subst c14
              have H1 : (if x5_1.length < 17592186044416 then (spec_FreeOf.l0 kj5 l1 (x5_1 ++ [x6_1]) (wrap64 (x6_1 + 1)) l0_0 l0_1) else (none)) = some r:=by rw [if_neg (show ¬ (false = true) by decide)] at H;exact H
              clear H
              have H:=H1
              clear H1
              by_cases c15 : x5_1.length < 17592186044416
              · rw [if_pos c15] at H
                have LMc15:=qn.mk c15
                clear c15
                obtain ⟨y179,hy179⟩ : ∃ y_ : List Int,y_ = (x5_1 ++ [x6_1]):=⟨_,rfl⟩
                replace H : (spec_FreeOf.l0 kj5 l1 y179 (wrap64 (x6_1 + 1)) l0_0 l0_1) = some r:=by first|(rw [hy179];with_reducible exact H)|(have H2_:=(Option.bind_some _ _).symm.trans H;rw [hy179];with_reducible exact H2_)|(have H2_:=(Option.bind_some _ _).symm.trans H;with_reducible exact H2_)|with_reducible exact H|(rw [hy179];exact H)|exact H
                have Ny179:=qn.mk hy179
                clear hy179
                have H':=qn.mk H
                clear H
                go_wp2_with (first|((with_reducible refine gate_callee (f:=94) rfl ?_);refine goesL_ (some 21) rfl rfl Try.func94 (by kernel_rfl) rfl #[.slice A1 l1.length c1,.int .i64 x6_1] rfl (by (try simp only [List.map_toArray,List.map_cons,List.map_nil]);first|done|rfl|(simp only [List.length_drop,List.length_take];rfl)) ?_;(with_reducible refine (spec_l03In.calls kj5 _ _ l1 x6_1 false _ ?side1 ?side2 A13.out).mono ?_);(case side1=>repeat (first|exact (Kd.C_below HR1.out HB.out)|(with_reducible refine Kd.C_alloc ?_ _)|(with_reducible refine Kd.C_drewN ?_ _)|(with_reducible refine Kd.C_drew ?_)));(case side2=>exact HC1.out);rintro e w' ⟨rfl,⟨nd,rfl⟩⟩;refine ⟨_,rfl,?_⟩)|((with_reducible refine gate_builtin (b:=.append) (xs:=#[.tmp 23,.tmp 25]) rfl ?_);at_builtin;refine Kd.R_append (Kd.int .i64) (w0:=w) w.heap.size rfl (.tmp 23) (.tmp 25) 43 3 (.int .i64 0) 8 rfl Try.underlying43 info3 rfl (by decide) (by omega) u5 x5_1 x6_1 [.int .i64 x6_1] (fun _=>True) (fun _=>False) rfl rfl ?aP (fun _ hk=>hk.elim) ?aF ?aO ?aB ?aS ?aL ?_;(case aP=>exact rfl);(case aB=>exact (by repeat (first|(with_reducible first|exact HB.out|apply qf|apply qa|apply qd|refine qg ?_ GE173.out)|exact HB.out)));(case aF=>exact (fun _ _=>trivial));(case aO=>exact (by (with_reducible repeat (first|apply Kd.R_alloc|apply Kd.R_drewN|apply Kd.R_drew));exact HO_5.out));(case aS=>exact (qj (by repeat (first|(with_reducible first|exact HB.out|apply qf|apply qa|apply qd|refine qg ?_ GE173.out)|exact HB.out))));(case aL=>have:=LMc15.out;omega);intro v180 w16 ho hb hg hat;rw [← Ny179.out] at ho;have n0_:=qn.mk (blk_grown (g:=gb173) (o:=.cells #[.slice A0_0 l0_0.length c0_0,.slice A0_1 l0_1.length c0_1] 31 (0,0)) (by (with_reducible repeat (first|refine qb ?_ _|refine qe ?_|refine qc ?_ _));exact BK173.out) hg (Kd.R_ne HO_5.out BK173.out (by decide)));have n1_:=qn.mk (hb);have n2_:=qn.mk (ho);clear BK173;clear HB;clear HO_5;have BK173:=n0_;have HB:=n1_;have HO181:=n2_;clear n0_ n1_ n2_;clear ho hb hg hat))
                go_roundg kj5
                case measure=>have:=HK1.out;have:=HJ5.out;omega
                case rel=>exact ⟨(y179),(wrap64 (x6_1 + 1)),(by first|rfl|(simp;done)|(simp [*];done)),H',⟨by have:=HK1.out;have:=HJ5.out;omega⟩,⟨by (with_reducible repeat (first|apply Kd.R_alloc|apply Kd.R_drewN|apply Kd.R_drew));exact HO181.out⟩,⟨by (with_reducible repeat (first|refine qb ?_ _|refine qe ?_|refine qc ?_ _));exact BK173.out⟩,⟨by repeat (first|(with_reducible first|exact HB.out|apply qf|apply qa|apply qd|refine qg ?_ GE173.out)|exact HB.out)⟩⟩
              · rw [if_neg c15] at H
                exact absurd H (by simp)
          · replace c12:=Bool.eq_false_iff.mpr c12
            subst c12
            have H1 : (some x5_1) = some r:=by rw [if_neg (show ¬ (false = true) by decide)] at H;exact H
            clear H
            have H:=H1
            clear H1
            obtain rfl:=Option.some.inj H
            go_wp2
            go_ret
            exact ⟨_,by first|rfl|(simp [errW_none,errW_some] <;> rfl)|(simp [*,errW_none,errW_some] <;> rfl),by (with_reducible repeat (first|apply Kd.R_alloc|apply Kd.R_drewN|apply Kd.R_drew));exact HO_5.out,by repeat (first|(with_reducible first|exact HB.out|apply qf|apply qa|apply qd|refine qg ?_ GE173.out)|exact HB.out)⟩

/-! ### impl_in: function 79 -/
def impl_in.f (a0 : Int) (a1 : Int) (a2 : Int) : Option (Bool):=if a0 ≥ a1 then (some (decide (a0 ≤ a2))) else (some false)
set_option maxHeartbeats 8000000 in
set_option maxRecDepth 100000 in
theorem impl_in.calls (a0 : Int) (a1 : Int) (a2 : Int) (r : Bool) (w : World) (h : impl_in.f a0 a1 a2 = some r) :
    Calls Try.prog 79 #[.int .i64 a0,.int .i64 a1,.int .i64 a2] w fun e w'=>e = .returned (.bool r) ∧ Drawn0 w w':=by
  have H : (if a0 ≥ a1 then (some (decide (a0 ≤ a2))) else (some false)) = some r:=h
  clear h
  by_cases c4 : a0 ≥ a1
  · rw [if_pos c4] at H
    have c4b0 : decide (a1 ≤ a0) = true:=decide_eq_true c4
    clear c4
    obtain rfl:=Option.some.inj H
    go_enter Try.func79,Try.ntmps79
    go_wp2
    go_ret
    exact ⟨by first|rfl|(simp;done)|(simp [*];done),by repeat (first|exact Drawn0.refl _|apply Drawn0.step)⟩
  · rw [if_neg c4] at H
    have c4b0 : decide (a1 ≤ a0) = false:=decide_eq_false c4
    clear c4
    obtain rfl:=Option.some.inj H
    go_enter Try.func79,Try.ntmps79
    go_wp2
    go_ret
    exact ⟨by first|rfl|(simp;done)|(simp [*];done),by repeat (first|exact Drawn0.refl _|apply Drawn0.step)⟩

/-! ### impl_DeviceOk: function 78 -/
mutual
def impl_DeviceOk.j0 : Nat → Bool → List ByteArray → List (S143) → Option (Bool)
  | 0,_,_,_=>none
  | k + 1,x17,x183000,x183001=>if x17 = true then (some false) else (impl_DeviceOk.l0 k x183000 (x183000.length : Int) 0 x183000 x183001)
def impl_DeviceOk.l0 : Nat → List ByteArray → Int → Int → List ByteArray → List (S143) → Option (Bool)
  | 0,_,_,_,_,_=>none
  | k + 1,x19,x20,x21,x183000,x183001=>if x21 < x20 then (if 0 ≤ x21 then (if x21 < (x19.length : Int) then (if ((rdOf ByteArray.empty x19 x21).size : Int) > 64 then (some false) else (impl_DeviceOk.l0 k x19 x20 (wrap64 (x21 + 1)) x183000 x183001)) else (none)) else (none)) else (impl_DeviceOk.l1 k x183001 (x183001.length : Int) 0 x183000 x183001)
def impl_DeviceOk.l1 : Nat → List (S143) → Int → Int → List ByteArray → List (S143) → Option (Bool)
  | 0,_,_,_,_,_=>none
  | k + 1,x30,x31,x32,x183000,x183001=>if x32 < x31 then (if 0 ≤ x32 then (if x32 < (x30.length : Int) then ((impl_in.f ((rd_T143 x30 x32).f0) 0 (wrap64 ((x183000.length : Int) - 1))).bind fun t187=>(if t187 = true then (if (((rd_T143 x30 x32).f1).size : Int) > 64 then (some false) else (impl_DeviceOk.l1 k x30 x31 (wrap64 (x32 + 1)) x183000 x183001)) else (some false))) else (none)) else (none)) else (some true)
end
def impl_DeviceOk.f (k : Nat) (l0_0 : List ByteArray) (l0_1 : List (S143)) : Option (Bool):=(impl_in.f (l0_0.length : Int) 1 400).bind fun t183=>(if t183 = true then (impl_DeviceOk.j0 k (decide ((l0_1.length : Int) > 400)) l0_0 l0_1) else (impl_DeviceOk.j0 k true l0_0 l0_1))
theorem impl_DeviceOk.mono_l : ∀ k,(∀ y0 y1 y2,LeO (impl_DeviceOk.j0 k y0 y1 y2) (impl_DeviceOk.j0 (k + 1) y0 y1 y2)) ∧ (∀ y0 y1 y2 y3 y4,LeO (impl_DeviceOk.l0 k y0 y1 y2 y3 y4) (impl_DeviceOk.l0 (k + 1) y0 y1 y2 y3 y4)) ∧ (∀ y0 y1 y2 y3 y4,LeO (impl_DeviceOk.l1 k y0 y1 y2 y3 y4) (impl_DeviceOk.l1 (k + 1) y0 y1 y2 y3 y4))
  | 0=>⟨fun _ _ _ r h=>by simp [impl_DeviceOk.j0] at h,fun _ _ _ _ _ r h=>by simp [impl_DeviceOk.l0] at h,fun _ _ _ _ _ r h=>by simp [impl_DeviceOk.l1] at h⟩
  | k + 1=>by
    obtain ⟨ih0,ih1,ih2⟩:=impl_DeviceOk.mono_l k
    refine ⟨?_,?_,?_⟩
    · intro y0 y1 y2
      unfold impl_DeviceOk.j0
      repeat' first
      | (with_reducible exact ih0 _ _ _)
      | (with_reducible exact ih1 _ _ _ _ _)
      | (with_reducible exact ih2 _ _ _ _ _)
      | (with_reducible exact LeO.refl _)
      | (with_reducible exact LeO.none _)
      | (with_reducible refine LeO.ite ?_ ?_)
      | (with_reducible refine LeO.bind ?_ (fun _=>?_))
      | exact ih0 _ _ _
      | exact ih1 _ _ _ _ _
      | exact ih2 _ _ _ _ _
      | exact LeO.none _
      | refine LeO.ite ?_ ?_
      | refine LeO.bind ?_ (fun _=>?_)
    · intro y0 y1 y2 y3 y4
      unfold impl_DeviceOk.l0
      repeat' first
      | (with_reducible exact ih0 _ _ _)
      | (with_reducible exact ih1 _ _ _ _ _)
      | (with_reducible exact ih2 _ _ _ _ _)
      | (with_reducible exact LeO.refl _)
      | (with_reducible exact LeO.none _)
      | (with_reducible refine LeO.ite ?_ ?_)
      | (with_reducible refine LeO.bind ?_ (fun _=>?_))
      | exact ih0 _ _ _
      | exact ih1 _ _ _ _ _
      | exact ih2 _ _ _ _ _
      | exact LeO.none _
      | refine LeO.ite ?_ ?_
      | refine LeO.bind ?_ (fun _=>?_)
    · intro y0 y1 y2 y3 y4
      unfold impl_DeviceOk.l1
      repeat' first
      | (with_reducible exact ih0 _ _ _)
      | (with_reducible exact ih1 _ _ _ _ _)
      | (with_reducible exact ih2 _ _ _ _ _)
      | (with_reducible exact LeO.refl _)
      | (with_reducible exact LeO.none _)
      | (with_reducible refine LeO.ite ?_ ?_)
      | (with_reducible refine LeO.bind ?_ (fun _=>?_))
      | exact ih0 _ _ _
      | exact ih1 _ _ _ _ _
      | exact ih2 _ _ _ _ _
      | exact LeO.none _
      | refine LeO.ite ?_ ?_
      | refine LeO.bind ?_ (fun _=>?_)
theorem impl_DeviceOk.mono : ∀ a0 a1 k,LeO (impl_DeviceOk.f k a0 a1) (impl_DeviceOk.f (k + 1) a0 a1):=by
  intro a0 a1 k
  obtain ⟨ih0,ih1,ih2⟩:=impl_DeviceOk.mono_l k
  unfold impl_DeviceOk.f
  repeat' first
      | (with_reducible exact ih0 _ _ _)
      | (with_reducible exact ih1 _ _ _ _ _)
      | (with_reducible exact ih2 _ _ _ _ _)
      | (with_reducible exact LeO.refl _)
      | (with_reducible exact LeO.none _)
      | (with_reducible refine LeO.ite ?_ ?_)
      | (with_reducible refine LeO.bind ?_ (fun _=>?_))
      | exact ih0 _ _ _
      | exact ih1 _ _ _ _ _
      | exact ih2 _ _ _ _ _
      | exact LeO.none _
      | refine LeO.ite ?_ ?_
      | refine LeO.bind ?_ (fun _=>?_)
set_option maxHeartbeats 8000000 in
set_option maxRecDepth 100000 in
theorem impl_DeviceOk.calls (k : Nat) (A0_0 : Option Addr) (c0_0 : Nat) (l0_0 : List ByteArray) (A0_1 : Option Addr) (c0_1 : Nat) (l0_1 : List (S143)) (r : Bool) (w : World) (hr0_0 : Kd.C Kd.string w A0_0 l0_0.length l0_0) (hc0_0 : l0_0.length ≤ c0_0) (hr0_1 : Kd.C k143 w A0_1 l0_1.length l0_1) (hc0_1 : l0_1.length ≤ c0_1) (h : impl_DeviceOk.f k l0_0 l0_1 = some r) :
    Calls Try.prog 78 #[.agg #[.slice A0_0 l0_0.length c0_0,.slice A0_1 l0_1.length c0_1]] w fun e w'=>e = .returned (.bool r) ∧ Below w.heap.size w w':=by
  have hu31:=Try.underlying31
  have hu143:=Try.underlying143
  have HR0_0:=qn.mk hr0_0
  have HC0_0:=qn.mk hc0_0
  clear hr0_0 hc0_0
  have HR0_1:=qn.mk hr0_1
  have HC0_1:=qn.mk hc0_1
  clear hr0_1 hc0_1
  have HB:=qn.mk (Below.refl w.heap.size w)
  have H : ((impl_in.f (l0_0.length : Int) 1 400).bind fun t183=>(if t183 = true then (impl_DeviceOk.j0 k (decide ((l0_1.length : Int) > 400)) l0_0 l0_1) else (impl_DeviceOk.j0 k true l0_0 l0_1))) = some r:=h
  clear h
  have HC2:=qn.mk H
  clear H
  go_enter Try.func78,Try.ntmps78
  go_upto_region 1 with (first|((with_reducible refine gate_dst (N:=1) rfl ?_);(try (refine gate_guard (by rfl) ?_;dsimp only));refine box_event ?hg (N:=1) ?hd (cs:=#[.slice A0_0 l0_0.length c0_0,.slice A0_1 l0_1.length c0_1]) (t:=31) ?hr ?_;(case hd=>rfl);(case hg=>rfl);(case hr=>first|(go_simp;done)|(go_simp;rfl));intro gb182 hg w3 hbox hb;have n0_:=hs_ HB hb;have n1_:=qn.mk (hbox);have n2_:=qn.mk ((by rw [hg];exact (qj (by repeat (first|(with_reducible first|exact HB.out|apply qf|apply qa|apply qd)|exact HB.out))) : w.heap.size ≤ gb182));have n3_:=qn.mk ((by rw [hg];exact (qj (by repeat (first|(with_reducible first|exact HB.out|apply qf|apply qa|apply qd)|exact HB.out))) : w.heap.size ≤ gb182));clear HB;have HB:=n0_;have BK182:=n1_;have GW182:=n2_;have GE182:=n3_;clear n0_ n1_ n2_ n3_;clear hb hbox hg))
  (try simp only [Act.put,List.setIfInBounds_toArray,List.set_cons_zero,List.set_cons_succ])
  go_cut [17] (fun v17 wc=>∃ (kq : Nat) (x17_1 : Bool),v17 = .bool x17_1 ∧ qn (impl_DeviceOk.j0 kq x17_1 l0_0 l0_1 = some r) ∧ qn (kq ≤ k) ∧ qn (wc.heap[gb182]? = some (.cells #[(.slice A0_0 l0_0.length c0_0),(.slice A0_1 l0_1.length c0_1)] 31 (0,0))) ∧ qn (Below w.heap.size w wc))
  case first =>
    have H:=HC2.out
    clear HC2
    replace H:=Option.bind_eq_some_iff.mp H
    obtain ⟨t183,A40,H⟩:=H
    replace H : (if t183 = true then (impl_DeviceOk.j0 k (decide ((l0_1.length : Int) > 400)) l0_0 l0_1) else (impl_DeviceOk.j0 k true l0_0 l0_1)) = some r:=H
    have A4:=qn.mk A40
    clear A40
    by_cases c5 : t183 = true
    · subst c5
      have H1 : (impl_DeviceOk.j0 k (decide ((l0_1.length : Int) > 400)) l0_0 l0_1) = some r:=by rw [if_pos rfl] at H;exact H
      clear H
      have H:=H1
      clear H1
      have H':=qn.mk H
      clear H
      have hcz6_0 : w3.cell? ⟨gb182,0,none⟩ = some (.slice A0_0 l0_0.length c0_0):=(qh BK182.out 0).trans rfl
      have hcz6_1 : w3.cell? ⟨gb182,1,none⟩ = some (.slice A0_1 l0_1.length c0_1):=(qh BK182.out 1).trans rfl
      have hfz6_0:=qi BK182.out 0
      have hfz6_1:=qi BK182.out 1
      go_wp2_with (first|((with_reducible refine gate_callee (f:=79) rfl ?_);refine goesL_ (some 10) rfl rfl Try.func79 (by kernel_rfl) rfl #[.int .i64 (l0_0.length : Int),.int .i64 1,.int .i64 400] rfl (by (try simp only [List.map_toArray,List.map_cons,List.map_nil]);first|done|rfl|(simp only [List.length_drop,List.length_take];rfl)) ?_;(with_reducible refine (impl_in.calls (l0_0.length : Int) 1 400 true _ A4.out).mono ?_);rintro e w' ⟨rfl,⟨nd,rfl⟩⟩;refine ⟨_,rfl,?_⟩))
      go_meet
      case rel=>exact ⟨_,(decide ((l0_1.length : Int) > 400)),(by first|rfl|(simp;done)|(simp [*];done)),H',⟨by first|omega|exact Nat.le_refl _⟩,⟨by (with_reducible repeat (first|refine qb ?_ _|refine qe ?_|refine qc ?_ _));exact BK182.out⟩,⟨by repeat (first|(with_reducible first|exact HB.out|apply qf|apply qa|apply qd|refine qg ?_ GE182.out)|exact HB.out)⟩⟩
    · replace c5:=Bool.eq_false_iff.mpr c5
      subst c5
      have H1 : (impl_DeviceOk.j0 k true l0_0 l0_1) = some r:=by rw [if_neg (show ¬ (false = true) by decide)] at H;exact H
      clear H
      have H:=H1
      clear H1
      have H':=qn.mk H
      clear H
      have hcz7_0 : w3.cell? ⟨gb182,0,none⟩ = some (.slice A0_0 l0_0.length c0_0):=(qh BK182.out 0).trans rfl
      have hcz7_1 : w3.cell? ⟨gb182,1,none⟩ = some (.slice A0_1 l0_1.length c0_1):=(qh BK182.out 1).trans rfl
      have hfz7_0:=qi BK182.out 0
      have hfz7_1:=qi BK182.out 1
      go_wp2_with (first|((with_reducible refine gate_callee (f:=79) rfl ?_);refine goesL_ (some 10) rfl rfl Try.func79 (by kernel_rfl) rfl #[.int .i64 (l0_0.length : Int),.int .i64 1,.int .i64 400] rfl (by (try simp only [List.map_toArray,List.map_cons,List.map_nil]);first|done|rfl|(simp only [List.length_drop,List.length_take];rfl)) ?_;(with_reducible refine (impl_in.calls (l0_0.length : Int) 1 400 false _ A4.out).mono ?_);rintro e w' ⟨rfl,⟨nd,rfl⟩⟩;refine ⟨_,rfl,?_⟩))
      go_meet
      case rel=>exact ⟨_,(true),(by first|rfl|(simp;done)|(simp [*];done)),H',⟨by first|omega|exact Nat.le_refl _⟩,⟨by (with_reducible repeat (first|refine qb ?_ _|refine qe ?_|refine qc ?_ _));exact BK182.out⟩,⟨by repeat (first|(with_reducible first|exact HB.out|apply qf|apply qa|apply qd|refine qg ?_ GE182.out)|exact HB.out)⟩⟩
  case rest =>
    clear HC2
    try clear p2
    try clear c5
    try clear c7
    try clear hcz6_0
    try clear hcz6_1
    try clear hcz7_0
    try clear hcz7_1
    try clear hfz6_0
    try clear hfz6_1
    try clear hfz7_0
    try clear hfz7_1
    obtain ⟨kq,x17_1,rfl,HA,HJ1,BK182,HB⟩:=hcut
    cases kq with
    | zero=>exact absurd HA.out (by simp [impl_DeviceOk.j0])
    | succ kj1 =>
      have H:=HA.out
      clear HA
      simp only [impl_DeviceOk.j0] at H
      by_cases c8 : x17_1 = true
      · subst c8
        have H1 : (some false) = some r:=by rw [if_pos rfl] at H;exact H
        clear H
        have H:=H1
        clear H1
        obtain rfl:=Option.some.inj H
        go_wp2
        go_ret
        exact ⟨by first|rfl|(simp [errW_none,errW_some] <;> rfl)|(simp [*,errW_none,errW_some] <;> rfl),by repeat (first|(with_reducible first|exact HB.out|apply qf|apply qa|apply qd|refine qg ?_ GE182.out)|exact HB.out)⟩
      · replace c8:=Bool.eq_false_iff.mpr c8
        subst c8
        have H1 : (impl_DeviceOk.l0 kj1 l0_0 (l0_0.length : Int) 0 l0_0 l0_1) = some r:=by rw [if_neg (show ¬ (false = true) by decide)] at H;exact H
        clear H
        have H:=H1
        clear H1
        have H':=qn.mk H
        clear H
        have hcz9_0 : wc.cell? ⟨gb182,0,none⟩ = some (.slice A0_0 l0_0.length c0_0):=(qh BK182.out 0).trans rfl
        have hcz9_1 : wc.cell? ⟨gb182,1,none⟩ = some (.slice A0_1 l0_1.length c0_1):=(qh BK182.out 1).trans rfl
        have hfz9_0:=qi BK182.out 0
        have hfz9_1:=qi BK182.out 1
        go_wp2
        go_loopg [21] kj1 (fun kq v21 w'=>∃ (x21_2 : Int),v21 = .int .i64 x21_2 ∧ qn (impl_DeviceOk.l0 kq l0_0 (l0_0.length : Int) x21_2 l0_0 l0_1 = some r) ∧ qn (kq ≤ kj1) ∧ qn (w'.heap[gb182]? = some (.cells #[(.slice A0_0 l0_0.length c0_0),(.slice A0_1 l0_1.length c0_1)] 31 (0,0))) ∧ qn (Below w.heap.size w w'))
        case atStart=>exact ⟨(0),(by first|rfl|(simp;done)|(simp [*];done)),H',⟨Nat.le_refl _⟩,⟨by (with_reducible repeat (first|refine qb ?_ _|refine qe ?_|refine qc ?_ _));exact BK182.out⟩,⟨by repeat (first|(with_reducible first|exact HB.out|apply qf|apply qa|apply qd|refine qg ?_ GE182.out)|exact HB.out)⟩⟩
        case round =>
          clear H'
          try clear p2
          try clear c5
          try clear c7
          try clear c8
          try clear hcz6_0
          try clear hcz6_1
          try clear hcz7_0
          try clear hcz7_1
          try clear hcz9_0
          try clear hcz9_1
          try clear hfz6_0
          try clear hfz6_1
          try clear hfz7_0
          try clear hfz7_1
          try clear hfz9_0
          try clear hfz9_1
          try clear p2
          obtain ⟨x21_2,rfl,HA,HK2,BK182,HB⟩:=hrel
          cases gk with
          | zero=>exact absurd HA.out (by simp [impl_DeviceOk.l0])
          | succ k2 =>
            have H:=HA.out
            clear HA
            simp only [impl_DeviceOk.l0] at H
            by_cases c10 : x21_2 < (l0_0.length : Int)
            · rw [if_pos c10] at H
              have c10b0 : decide (x21_2 < (l0_0.length : Int)) = true:=decide_eq_true c10
              clear c10
              by_cases c11 : 0 ≤ x21_2
              · rw [if_pos c11] at H
                have c11b0 : decide (0 ≤ x21_2) = true:=decide_eq_true c11
                clear c11
                by_cases c12 : x21_2 < (l0_0.length : Int)
                · rw [if_pos c12] at H
                  have c12b0 : decide (x21_2 < (l0_0.length : Int)) = true:=decide_eq_true c12
                  clear c12
                  by_cases c13 : ((rdOf ByteArray.empty l0_0 x21_2).size : Int) > 64
                  · rw [if_pos c13] at H
                    have c13b0 : decide (64 < ((rdOf ByteArray.empty l0_0 x21_2).size : Int)) = true:=decide_eq_true c13
                    have c13b1 : decide (64 < (rdOf ByteArray.empty l0_0 x21_2).size) = true:=decide_eq_true (by omega)
                    clear c13
                    obtain rfl:=Option.some.inj H
                    have p184 : 0 ≤ (x21_2 : Int):=of_decide_eq_true (by first|(with_reducible assumption)|assumption)
                    have q184 : x21_2 < (l0_0.length : Int):=of_decide_eq_true (by first|(with_reducible assumption)|assumption)
                    obtain ⟨ad184,e184,hx184_0⟩:=Kd.at_string HR0_0.out x21_2 p184 q184
                    cases e184
                    replace hx184_0:=cb_ HB hx184_0
                    replace p184:=eq_true p184
                    replace q184:=eq_true q184
                    go_wp2
                    go_ret
                    exact ⟨by first|rfl|(simp [errW_none,errW_some] <;> rfl)|(simp [*,errW_none,errW_some] <;> rfl),by repeat (first|(with_reducible first|exact HB.out|apply qf|apply qa|apply qd|refine qg ?_ GE182.out)|exact HB.out)⟩
                  · rw [if_neg c13] at H
                    have c13b0 : decide (64 < ((rdOf ByteArray.empty l0_0 x21_2).size : Int)) = false:=decide_eq_false c13
                    have c13b1 : decide (64 < (rdOf ByteArray.empty l0_0 x21_2).size) = false:=decide_eq_false (by omega)
                    clear c13
                    have H':=qn.mk H
                    clear H
                    have p184 : 0 ≤ (x21_2 : Int):=of_decide_eq_true (by first|(with_reducible assumption)|assumption)
                    have q184 : x21_2 < (l0_0.length : Int):=of_decide_eq_true (by first|(with_reducible assumption)|assumption)
                    obtain ⟨ad184,e184,hx184_0⟩:=Kd.at_string HR0_0.out x21_2 p184 q184
                    cases e184
                    replace hx184_0:=cb_ HB hx184_0
                    replace p184:=eq_true p184
                    replace q184:=eq_true q184
                    go_wp2
                    go_roundg k2
                    case measure=>have:=HJ1.out;have:=HK2.out;omega
                    case rel=>exact ⟨(wrap64 (x21_2 + 1)),(by first|rfl|(simp;done)|(simp [*];done)),H',⟨by have:=HJ1.out;have:=HK2.out;omega⟩,⟨by (with_reducible repeat (first|refine qb ?_ _|refine qe ?_|refine qc ?_ _));exact BK182.out⟩,⟨by repeat (first|(with_reducible first|exact HB.out|apply qf|apply qa|apply qd|refine qg ?_ GE182.out)|exact HB.out)⟩⟩
                · rw [if_neg c12] at H
                  exact absurd H (by simp)
              · rw [if_neg c11] at H
                exact absurd H (by simp)
            · rw [if_neg c10] at H
              have c10b0 : decide (x21_2 < (l0_0.length : Int)) = false:=decide_eq_false c10
              clear c10
              have H':=qn.mk H
              clear H
              have hcz14_0 : wr.cell? ⟨gb182,0,none⟩ = some (.slice A0_0 l0_0.length c0_0):=(qh BK182.out 0).trans rfl
              have hcz14_1 : wr.cell? ⟨gb182,1,none⟩ = some (.slice A0_1 l0_1.length c0_1):=(qh BK182.out 1).trans rfl
              have hfz14_0:=qi BK182.out 0
              have hfz14_1:=qi BK182.out 1
              go_wp2
              go_loopg [32] k2 (fun kq v32 w'=>∃ (x32_3 : Int),v32 = .int .i64 x32_3 ∧ qn (impl_DeviceOk.l1 kq l0_1 (l0_1.length : Int) x32_3 l0_0 l0_1 = some r) ∧ qn (kq ≤ k2) ∧ qn (w'.heap[gb182]? = some (.cells #[(.slice A0_0 l0_0.length c0_0),(.slice A0_1 l0_1.length c0_1)] 31 (0,0))) ∧ qn (Below w.heap.size w w'))
              case atStart=>exact ⟨(0),(by first|rfl|(simp;done)|(simp [*];done)),H',⟨Nat.le_refl _⟩,⟨by (with_reducible repeat (first|refine qb ?_ _|refine qe ?_|refine qc ?_ _));exact BK182.out⟩,⟨by repeat (first|(with_reducible first|exact HB.out|apply qf|apply qa|apply qd|refine qg ?_ GE182.out)|exact HB.out)⟩⟩
              case round =>
                clear H'
                try clear c1
                try clear p1
                try clear q1
                try clear hx1
                try clear p2
                try clear c5
                try clear p6
                try clear c7
                try clear c8
                try clear c10
                try clear c10b0
                try clear c11
                try clear c11b0
                try clear c12
                try clear c12b0
                try clear c13
                try clear c13b0
                try clear c13b1
                try clear hcz14_0
                try clear hcz14_1
                try clear hcz6_0
                try clear hcz6_1
                try clear hcz7_0
                try clear hcz7_1
                try clear hcz9_0
                try clear hcz9_1
                try clear hfz14_0
                try clear hfz14_1
                try clear hfz6_0
                try clear hfz6_1
                try clear hfz7_0
                try clear hfz7_1
                try clear hfz9_0
                try clear hfz9_1
                try clear hx184_0
                try clear p184
                try clear p2
                try clear q184
                obtain ⟨x32_3,rfl,HA,HK3,BK182,HB⟩:=hrel
                cases gk with
                | zero=>exact absurd HA.out (by simp [impl_DeviceOk.l1])
                | succ k3 =>
                  have H:=HA.out
                  clear HA
                  simp only [impl_DeviceOk.l1] at H
                  by_cases c15 : x32_3 < (l0_1.length : Int)
                  · rw [if_pos c15] at H
                    have c15b0 : decide (x32_3 < (l0_1.length : Int)) = true:=decide_eq_true c15
                    clear c15
                    by_cases c16 : 0 ≤ x32_3
                    · rw [if_pos c16] at H
                      have c16b0 : decide (0 ≤ x32_3) = true:=decide_eq_true c16
                      clear c16
                      by_cases c17 : x32_3 < (l0_1.length : Int)
                      · rw [if_pos c17] at H
                        have c17b0 : decide (x32_3 < (l0_1.length : Int)) = true:=decide_eq_true c17
                        clear c17
                        replace H:=Option.bind_eq_some_iff.mp H
                        obtain ⟨t187,A180,H⟩:=H
                        replace H : (if t187 = true then (if (((rd_T143 l0_1 x32_3).f1).size : Int) > 64 then (some false) else (impl_DeviceOk.l1 k3 l0_1 (l0_1.length : Int) (wrap64 (x32_3 + 1)) l0_0 l0_1)) else (some false)) = some r:=H
                        have A18:=qn.mk A180
                        clear A180
                        by_cases c19 : t187 = true
                        · subst c19
                          have H1 : (if (((rd_T143 l0_1 x32_3).f1).size : Int) > 64 then (some false) else (impl_DeviceOk.l1 k3 l0_1 (l0_1.length : Int) (wrap64 (x32_3 + 1)) l0_0 l0_1)) = some r:=by rw [if_pos rfl] at H;exact H
                          clear H
                          have H:=H1
                          clear H1
                          by_cases c20 : (((rd_T143 l0_1 x32_3).f1).size : Int) > 64
                          · rw [if_pos c20] at H
                            have c20b0 : decide (64 < (((rd_T143 l0_1 x32_3).f1).size : Int)) = true:=decide_eq_true c20
                            have c20b1 : decide (64 < ((rd_T143 l0_1 x32_3).f1).size) = true:=decide_eq_true (by omega)
                            clear c20
                            obtain rfl:=Option.some.inj H
                            have p185 : 0 ≤ (x32_3 : Int):=of_decide_eq_true (by first|(with_reducible assumption)|assumption)
                            have q185 : x32_3 < (l0_1.length : Int):=of_decide_eq_true (by first|(with_reducible assumption)|assumption)
                            obtain ⟨ad185,e185,hx185_0,hx185_1⟩:=at_T143 HR0_1.out x32_3 p185 q185
                            cases e185
                            replace hx185_0:=cb_ HB hx185_0
                            replace hx185_1:=cb_ HB hx185_1
                            replace p185:=eq_true p185
                            replace q185:=eq_true q185
                            go_wp2_with (first|((with_reducible refine gate_dst (N:=6) rfl ?_);(try (refine gate_guard (by rfl) ?_;dsimp only));refine box_event ?hg (N:=6) ?hd (cs:=#[.int .i64 0,.string (⟨#[]⟩ : ByteArray)]) (t:=143) ?hr ?_;(case hd=>rfl);(case hg=>rfl);(case hr=>first|(go_simp;done)|(go_simp;rfl));intro gb186 hg w21 hbox hb;have n0_:=bb_ BK182 hb;have n1_:=hs_ HB hb;have n2_:=qn.mk (hbox);have n3_:=qn.mk ((by rw [hg];exact (qj (by repeat (first|(with_reducible first|exact HB.out|apply qf|apply qa|apply qd|refine qg ?_ GE182.out)|exact HB.out))) : w.heap.size ≤ gb186));have n4_:=qn.mk ((by rw [hg];exact (qj (by repeat (first|(with_reducible first|exact HB.out|apply qf|apply qa|apply qd|refine qg ?_ GE182.out)|exact HB.out))) : w.heap.size ≤ gb186));have n5_:=qn.mk ((by rw [hg];exact nl_ BK182 : gb182 ≠ gb186));have n6_:=qn.mk ((by rw [hg];exact ng_ BK182 : gb186 ≠ gb182));clear BK182;clear HB;have BK182:=n0_;have HB:=n1_;have BK186:=n2_;have GW186:=n3_;have GE186:=n4_;have NB182_186:=n5_;have NB186_182:=n6_;clear n0_ n1_ n2_ n3_ n4_ n5_ n6_;clear hb hbox hg;have hnb22:=NB186_182.out;have hnc22:=NB182_186.out;have hcz23_0 : w21.cell? ⟨gb186,0,none⟩ = some (.int .i64 0):=(qh BK186.out 0).trans rfl;have hcz23_1 : w21.cell? ⟨gb186,1,none⟩ = some (.string (⟨#[]⟩ : ByteArray)):=(qh BK186.out 1).trans rfl;have hfz23_0:=qi BK186.out 0;have hfz23_1:=qi BK186.out 1;have hcz24_0 : w21.cell? ⟨gb182,0,none⟩ = some (.slice A0_0 l0_0.length c0_0):=(qh BK182.out 0).trans rfl;have hcz24_1 : w21.cell? ⟨gb182,1,none⟩ = some (.slice (some ad185) l0_1.length c0_1):=(qh BK182.out 1).trans rfl;have hfz24_0:=qi BK182.out 0;have hfz24_1:=qi BK182.out 1)|((with_reducible refine gate_callee (f:=79) rfl ?_);refine goesL_ (some 42) rfl rfl Try.func79 (by kernel_rfl) rfl #[.int .i64 ((rd_T143 l0_1 x32_3).f0),.int .i64 0,.int .i64 (wrap64 ((l0_0.length : Int) - 1))] rfl (by (try simp only [List.map_toArray,List.map_cons,List.map_nil]);first|done|rfl|(simp only [List.length_drop,List.length_take];rfl)) ?_;(with_reducible refine (impl_in.calls ((rd_T143 l0_1 x32_3).f0) 0 (wrap64 ((l0_0.length : Int) - 1)) true _ A18.out).mono ?_);rintro e w' ⟨rfl,⟨nd,rfl⟩⟩;refine ⟨_,rfl,?_⟩))
                            go_ret
                            exact ⟨by first|rfl|(simp [errW_none,errW_some] <;> rfl)|(simp [*,errW_none,errW_some] <;> rfl),by repeat (first|(with_reducible first|exact HB.out|apply qf|apply qa|apply qd|refine qg ?_ GE182.out|refine qg ?_ GE186.out)|exact HB.out)⟩
                          · rw [if_neg c20] at H
                            have c20b0 : decide (64 < (((rd_T143 l0_1 x32_3).f1).size : Int)) = false:=decide_eq_false c20
                            have c20b1 : decide (64 < ((rd_T143 l0_1 x32_3).f1).size) = false:=decide_eq_false (by omega)
                            clear c20
                            have H':=qn.mk H
                            clear H
                            have p185 : 0 ≤ (x32_3 : Int):=of_decide_eq_true (by first|(with_reducible assumption)|assumption)
                            have q185 : x32_3 < (l0_1.length : Int):=of_decide_eq_true (by first|(with_reducible assumption)|assumption)
                            obtain ⟨ad185,e185,hx185_0,hx185_1⟩:=at_T143 HR0_1.out x32_3 p185 q185
                            cases e185
                            replace hx185_0:=cb_ HB hx185_0
                            replace hx185_1:=cb_ HB hx185_1
                            replace p185:=eq_true p185
                            replace q185:=eq_true q185
                            go_wp2_with (first|((with_reducible refine gate_dst (N:=6) rfl ?_);(try (refine gate_guard (by rfl) ?_;dsimp only));refine box_event ?hg (N:=6) ?hd (cs:=#[.int .i64 0,.string (⟨#[]⟩ : ByteArray)]) (t:=143) ?hr ?_;(case hd=>rfl);(case hg=>rfl);(case hr=>first|(go_simp;done)|(go_simp;rfl));intro gb186 hg w25 hbox hb;have n0_:=bb_ BK182 hb;have n1_:=hs_ HB hb;have n2_:=qn.mk (hbox);have n3_:=qn.mk ((by rw [hg];exact (qj (by repeat (first|(with_reducible first|exact HB.out|apply qf|apply qa|apply qd|refine qg ?_ GE182.out)|exact HB.out))) : w.heap.size ≤ gb186));have n4_:=qn.mk ((by rw [hg];exact (qj (by repeat (first|(with_reducible first|exact HB.out|apply qf|apply qa|apply qd|refine qg ?_ GE182.out)|exact HB.out))) : w.heap.size ≤ gb186));have n5_:=qn.mk ((by rw [hg];exact nl_ BK182 : gb182 ≠ gb186));have n6_:=qn.mk ((by rw [hg];exact ng_ BK182 : gb186 ≠ gb182));clear BK182;clear HB;have BK182:=n0_;have HB:=n1_;have BK186:=n2_;have GW186:=n3_;have GE186:=n4_;have NB182_186:=n5_;have NB186_182:=n6_;clear n0_ n1_ n2_ n3_ n4_ n5_ n6_;clear hb hbox hg;have hnb26:=NB186_182.out;have hnc26:=NB182_186.out;have hcz27_0 : w25.cell? ⟨gb186,0,none⟩ = some (.int .i64 0):=(qh BK186.out 0).trans rfl;have hcz27_1 : w25.cell? ⟨gb186,1,none⟩ = some (.string (⟨#[]⟩ : ByteArray)):=(qh BK186.out 1).trans rfl;have hfz27_0:=qi BK186.out 0;have hfz27_1:=qi BK186.out 1;have hcz28_0 : w25.cell? ⟨gb182,0,none⟩ = some (.slice A0_0 l0_0.length c0_0):=(qh BK182.out 0).trans rfl;have hcz28_1 : w25.cell? ⟨gb182,1,none⟩ = some (.slice (some ad185) l0_1.length c0_1):=(qh BK182.out 1).trans rfl;have hfz28_0:=qi BK182.out 0;have hfz28_1:=qi BK182.out 1)|((with_reducible refine gate_callee (f:=79) rfl ?_);refine goesL_ (some 42) rfl rfl Try.func79 (by kernel_rfl) rfl #[.int .i64 ((rd_T143 l0_1 x32_3).f0),.int .i64 0,.int .i64 (wrap64 ((l0_0.length : Int) - 1))] rfl (by (try simp only [List.map_toArray,List.map_cons,List.map_nil]);first|done|rfl|(simp only [List.length_drop,List.length_take];rfl)) ?_;(with_reducible refine (impl_in.calls ((rd_T143 l0_1 x32_3).f0) 0 (wrap64 ((l0_0.length : Int) - 1)) true _ A18.out).mono ?_);rintro e w' ⟨rfl,⟨nd,rfl⟩⟩;refine ⟨_,rfl,?_⟩))
                            go_roundg k3
                            case measure=>have:=HJ1.out;have:=HK2.out;have:=HK3.out;omega
                            case rel=>exact ⟨(wrap64 (x32_3 + 1)),(by first|rfl|(simp;done)|(simp [*];done)),H',⟨by have:=HJ1.out;have:=HK2.out;have:=HK3.out;omega⟩,⟨by (with_reducible repeat (first|refine qb ?_ _|refine qe ?_|refine qc ?_ _));refine blk_far ?_ NB182_186.out _;(with_reducible repeat (first|refine qb ?_ _|refine qe ?_|refine qc ?_ _));refine blk_far ?_ NB182_186.out _;(with_reducible repeat (first|refine qb ?_ _|refine qe ?_|refine qc ?_ _));exact BK182.out⟩,⟨by repeat (first|(with_reducible first|exact HB.out|apply qf|apply qa|apply qd|refine qg ?_ GE182.out|refine qg ?_ GE186.out)|exact HB.out)⟩⟩
                        · replace c19:=Bool.eq_false_iff.mpr c19
                          subst c19
                          have H1 : (some false) = some r:=by rw [if_neg (show ¬ (false = true) by decide)] at H;exact H
                          clear H
                          have H:=H1
                          clear H1
                          obtain rfl:=Option.some.inj H
                          have p185 : 0 ≤ (x32_3 : Int):=of_decide_eq_true (by first|(with_reducible assumption)|assumption)
                          have q185 : x32_3 < (l0_1.length : Int):=of_decide_eq_true (by first|(with_reducible assumption)|assumption)
                          obtain ⟨ad185,e185,hx185_0,hx185_1⟩:=at_T143 HR0_1.out x32_3 p185 q185
                          cases e185
                          replace hx185_0:=cb_ HB hx185_0
                          replace hx185_1:=cb_ HB hx185_1
                          replace p185:=eq_true p185
                          replace q185:=eq_true q185
                          go_wp2_with (first|((with_reducible refine gate_dst (N:=6) rfl ?_);(try (refine gate_guard (by rfl) ?_;dsimp only));refine box_event ?hg (N:=6) ?hd (cs:=#[.int .i64 0,.string (⟨#[]⟩ : ByteArray)]) (t:=143) ?hr ?_;(case hd=>rfl);(case hg=>rfl);(case hr=>first|(go_simp;done)|(go_simp;rfl));intro gb186 hg w29 hbox hb;have n0_:=bb_ BK182 hb;have n1_:=hs_ HB hb;have n2_:=qn.mk (hbox);have n3_:=qn.mk ((by rw [hg];exact (qj (by repeat (first|(with_reducible first|exact HB.out|apply qf|apply qa|apply qd|refine qg ?_ GE182.out)|exact HB.out))) : w.heap.size ≤ gb186));have n4_:=qn.mk ((by rw [hg];exact (qj (by repeat (first|(with_reducible first|exact HB.out|apply qf|apply qa|apply qd|refine qg ?_ GE182.out)|exact HB.out))) : w.heap.size ≤ gb186));have n5_:=qn.mk ((by rw [hg];exact nl_ BK182 : gb182 ≠ gb186));have n6_:=qn.mk ((by rw [hg];exact ng_ BK182 : gb186 ≠ gb182));clear BK182;clear HB;have BK182:=n0_;have HB:=n1_;have BK186:=n2_;have GW186:=n3_;have GE186:=n4_;have NB182_186:=n5_;have NB186_182:=n6_;clear n0_ n1_ n2_ n3_ n4_ n5_ n6_;clear hb hbox hg;have hnb30:=NB186_182.out;have hnc30:=NB182_186.out;have hcz31_0 : w29.cell? ⟨gb186,0,none⟩ = some (.int .i64 0):=(qh BK186.out 0).trans rfl;have hcz31_1 : w29.cell? ⟨gb186,1,none⟩ = some (.string (⟨#[]⟩ : ByteArray)):=(qh BK186.out 1).trans rfl;have hfz31_0:=qi BK186.out 0;have hfz31_1:=qi BK186.out 1;have hcz32_0 : w29.cell? ⟨gb182,0,none⟩ = some (.slice A0_0 l0_0.length c0_0):=(qh BK182.out 0).trans rfl;have hcz32_1 : w29.cell? ⟨gb182,1,none⟩ = some (.slice (some ad185) l0_1.length c0_1):=(qh BK182.out 1).trans rfl;have hfz32_0:=qi BK182.out 0;have hfz32_1:=qi BK182.out 1)|((with_reducible refine gate_callee (f:=79) rfl ?_);refine goesL_ (some 42) rfl rfl Try.func79 (by kernel_rfl) rfl #[.int .i64 ((rd_T143 l0_1 x32_3).f0),.int .i64 0,.int .i64 (wrap64 ((l0_0.length : Int) - 1))] rfl (by (try simp only [List.map_toArray,List.map_cons,List.map_nil]);first|done|rfl|(simp only [List.length_drop,List.length_take];rfl)) ?_;(with_reducible refine (impl_in.calls ((rd_T143 l0_1 x32_3).f0) 0 (wrap64 ((l0_0.length : Int) - 1)) false _ A18.out).mono ?_);rintro e w' ⟨rfl,⟨nd,rfl⟩⟩;refine ⟨_,rfl,?_⟩))
                          go_ret
                          exact ⟨by first|rfl|(simp [errW_none,errW_some] <;> rfl)|(simp [*,errW_none,errW_some] <;> rfl),by repeat (first|(with_reducible first|exact HB.out|apply qf|apply qa|apply qd|refine qg ?_ GE182.out|refine qg ?_ GE186.out)|exact HB.out)⟩
                      · rw [if_neg c17] at H
                        exact absurd H (by simp)
                    · rw [if_neg c16] at H
                      exact absurd H (by simp)
                  · rw [if_neg c15] at H
                    have c15b0 : decide (x32_3 < (l0_1.length : Int)) = false:=decide_eq_false c15
                    clear c15
                    obtain rfl:=Option.some.inj H
                    go_wp2
                    go_ret
                    exact ⟨by first|rfl|(simp [errW_none,errW_some] <;> rfl)|(simp [*,errW_none,errW_some] <;> rfl),by repeat (first|(with_reducible first|exact HB.out|apply qf|apply qa|apply qd|refine qg ?_ GE182.out)|exact HB.out)⟩

/-! ### impl_hasInt: function 99 -/
def impl_hasInt.l0 : Nat → Int → List Int → Int → Int → Option (Bool)
  | 0,_,_,_,_=>none
  | k + 1,x1,x7,x8,x9=>if x9 < x8 then (if 0 ≤ x9 then (if x9 < (x7.length : Int) then (if (rd x7 x9) = x1 then (some true) else (impl_hasInt.l0 k x1 x7 x8 (wrap64 (x9 + 1)))) else (none)) else (none)) else (some false)
def impl_hasInt.f (k : Nat) (l0 : List Int) (a1 : Int) : Option (Bool):=impl_hasInt.l0 k a1 l0 (l0.length : Int) 0
theorem impl_hasInt.mono_l : ∀ k,(∀ y0 y1 y2 y3,LeO (impl_hasInt.l0 k y0 y1 y2 y3) (impl_hasInt.l0 (k + 1) y0 y1 y2 y3))
  | 0=>fun _ _ _ _ r h=>by simp [impl_hasInt.l0] at h
  | k + 1=>by
    have ih0:=impl_hasInt.mono_l k
    · intro y0 y1 y2 y3
      unfold impl_hasInt.l0
      repeat' first
      | (with_reducible exact ih0 _ _ _ _)
      | (with_reducible exact LeO.refl _)
      | (with_reducible exact LeO.none _)
      | (with_reducible refine LeO.ite ?_ ?_)
      | (with_reducible refine LeO.bind ?_ (fun _=>?_))
      | exact ih0 _ _ _ _
      | exact LeO.none _
      | refine LeO.ite ?_ ?_
      | refine LeO.bind ?_ (fun _=>?_)
theorem impl_hasInt.mono : ∀ a0 a1 k,LeO (impl_hasInt.f k a0 a1) (impl_hasInt.f (k + 1) a0 a1):=by
  intro a0 a1 k
  have ih0:=impl_hasInt.mono_l k
  unfold impl_hasInt.f
  repeat' first
      | (with_reducible exact ih0 _ _ _ _)
      | (with_reducible exact LeO.refl _)
      | (with_reducible exact LeO.none _)
      | (with_reducible refine LeO.ite ?_ ?_)
      | (with_reducible refine LeO.bind ?_ (fun _=>?_))
      | exact ih0 _ _ _ _
      | exact LeO.none _
      | refine LeO.ite ?_ ?_
      | refine LeO.bind ?_ (fun _=>?_)
set_option maxHeartbeats 8000000 in
set_option maxRecDepth 100000 in
theorem impl_hasInt.calls (k : Nat) (A0 : Option Addr) (c0 : Nat) (l0 : List Int) (a1 : Int) (r : Bool) (w : World) (hr0 : Kd.C (Kd.int .i64) w A0 l0.length l0) (hc0 : l0.length ≤ c0) (h : impl_hasInt.f k l0 a1 = some r) :
    Calls Try.prog 99 #[.slice A0 l0.length c0,.int .i64 a1] w fun e w'=>e = .returned (.bool r) ∧ Drawn0 w w':=by
  have HR0:=qn.mk hr0
  have HC0:=qn.mk hc0
  clear hr0 hc0
  have H : (impl_hasInt.l0 k a1 l0 (l0.length : Int) 0) = some r:=h
  clear h
  have H':=qn.mk H
  clear H
  go_enter Try.func99,Try.ntmps99
  go_wp2
  go_loopg [9] k (fun kq v9 w'=>∃ (x9_1 : Int),v9 = .int .i64 x9_1 ∧ qn (impl_hasInt.l0 kq a1 l0 (l0.length : Int) x9_1 = some r) ∧ qn (kq ≤ k) ∧ Drawn0 w w')
  case atStart=>exact ⟨(0),(by first|rfl|(simp;done)|(simp [*];done)),H',⟨Nat.le_refl _⟩,by repeat (first|exact Drawn0.refl _|apply Drawn0.step)⟩
  case round =>
    clear H'
    try clear p2
    obtain ⟨x9_1,rfl,HA,HK1,⟨m1,rfl⟩⟩:=hrel
    cases gk with
    | zero=>exact absurd HA.out (by simp [impl_hasInt.l0])
    | succ k1 =>
      have H:=HA.out
      clear HA
      simp only [impl_hasInt.l0] at H
      by_cases c3 : x9_1 < (l0.length : Int)
      · rw [if_pos c3] at H
        have c3b0 : decide (x9_1 < (l0.length : Int)) = true:=decide_eq_true c3
        clear c3
        by_cases c4 : 0 ≤ x9_1
        · rw [if_pos c4] at H
          have c4b0 : decide (0 ≤ x9_1) = true:=decide_eq_true c4
          clear c4
          by_cases c5 : x9_1 < (l0.length : Int)
          · rw [if_pos c5] at H
            have c5b0 : decide (x9_1 < (l0.length : Int)) = true:=decide_eq_true c5
            clear c5
            by_cases c6 : (rd l0 x9_1) = a1
            · rw [if_pos c6] at H
              have c6b0 : ((rd l0 x9_1) == a1) = true:=beq_iff_eq.mpr c6
              have c6b1 : ((rd l0 x9_1) != a1) = false:=bne_eq_false_iff_eq.mpr c6
              clear c6
              obtain rfl:=Option.some.inj H
              have p188 : 0 ≤ (x9_1 : Int):=of_decide_eq_true (by first|(with_reducible assumption)|assumption)
              have q188 : x9_1 < (l0.length : Int):=of_decide_eq_true (by first|(with_reducible assumption)|assumption)
              obtain ⟨ad188,e188,hx188_0⟩:=Kd.at_int HR0.out x9_1 p188 q188
              cases e188
              replace p188:=eq_true p188
              replace q188:=eq_true q188
              go_wp2
              go_ret
              exact ⟨by first|rfl|(simp;done)|(simp [*];done),by repeat (first|exact Drawn0.refl _|apply Drawn0.step)⟩
            · rw [if_neg c6] at H
              have c6b0 : ((rd l0 x9_1) == a1) = false:=beq_eq_false_iff_ne.mpr c6
              have c6b1 : ((rd l0 x9_1) != a1) = true:=bne_iff_ne.mpr c6
              have H':=qn.mk H
              clear H
              have p188 : 0 ≤ (x9_1 : Int):=of_decide_eq_true (by first|(with_reducible assumption)|assumption)
              have q188 : x9_1 < (l0.length : Int):=of_decide_eq_true (by first|(with_reducible assumption)|assumption)
              obtain ⟨ad188,e188,hx188_0⟩:=Kd.at_int HR0.out x9_1 p188 q188
              cases e188
              replace p188:=eq_true p188
              replace q188:=eq_true q188
              go_wp2
              go_roundg k1
              case measure=>have:=HK1.out;omega
              case rel=>exact ⟨(wrap64 (x9_1 + 1)),(by first|rfl|(simp;done)|(simp [*];done)),H',⟨by have:=HK1.out;omega⟩,by repeat (first|exact Drawn0.refl _|apply Drawn0.step)⟩
          · rw [if_neg c5] at H
            exact absurd H (by simp)
        · rw [if_neg c4] at H
          exact absurd H (by simp)
      · rw [if_neg c3] at H
        have c3b0 : decide (x9_1 < (l0.length : Int)) = false:=decide_eq_false c3
        clear c3
        obtain rfl:=Option.some.inj H
        go_wp2
        go_ret
        exact ⟨by first|rfl|(simp;done)|(simp [*];done),by repeat (first|exact Drawn0.refl _|apply Drawn0.step)⟩

end Go.Proofs.Ytbonjmnpcklciaa.QFnExactFreeOf
