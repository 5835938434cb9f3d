/- Lean functions for the Go functions that the law FnExactProofOk reaches, and that each Go function comes to just its Lean function's answer; by a program of this session. -/
import Derived.Test.YtcdofljgeiohgaaZFnExactProofOkx0
import Derived.Test.YtcdofljgeiohgaaZFnExactProofOkx6
namespace Go.Proofs.Ytcdofljgeiohgaa.QFnExactProofOk
open Go.RowKit Go.Proofs.YtcdofljgeiohgaaW.PrintWords Go.Proofs.YtcdofljgeiohgaaW.PrintLast Go.Proofs.YtcdofljgeiohgaaW.PrintMore
attribute [local go_sem] max2_int min2_int max_two min_two max_three min_three max_four min_four   -- for this text's walks alone
set_option linter.unusedVariables false
set_option linter.unusedSimpArgs false

/-! ### impl_groupOk: function 58 -/
mutual
def impl_groupOk.j0 : Nat → Bool → Int → List (S101) → List Int → Int → Option (Bool)
  | 0,_,_,_,_,_=>none
  | k + 1,x23,x212000,x212001,x213000,x213001=>if x23 = true then (some false) else (impl_groupOk.l0 k x213000 (x213000.length : Int) 0 x212000 x212001 x213000 x213001)
def impl_groupOk.l0 : Nat → List Int → Int → Int → Int → List (S101) → List Int → Int → Option (Bool)
  | 0,_,_,_,_,_,_,_=>none
  | k + 1,x25,x26,x27,x212000,x212001,x213000,x213001=>if x27 < x26 then (if 0 ≤ x27 then (if x27 < (x25.length : Int) then ((impl_in.f (rd x25 x27) 0 (wrap64 (x212000 - 1))).bind fun t215=>(if t215 = true then (if x27 > 0 then (if 0 ≤ (wrap64 (x27 - 1)) then (if (wrap64 (x27 - 1)) < (x213000.length : Int) then (if (rd x213000 (wrap64 (x27 - 1))) ≥ (rd x25 x27) then (some false) else (impl_groupOk.l0 k x25 x26 (wrap64 (x27 + 1)) x212000 x212001 x213000 x213001)) else (none)) else (none)) else (impl_groupOk.l0 k x25 x26 (wrap64 (x27 + 1)) x212000 x212001 x213000 x213001)) else (some false))) else (none)) else (none)) else (some true)
end
def impl_groupOk.f (k : Nat) (a0_0 : Int) (l0_1 : List (S101)) (l1_0 : List Int) (a1_1 : Int) : Option (Bool):=if (l1_0.length : Int) < 3 then (impl_groupOk.j0 k true a0_0 l0_1 l1_0 a1_1) else (if ((l1_0.length : Int) % 2) = 0 then (impl_groupOk.j0 k true a0_0 l0_1 l1_0 a1_1) else ((impl_in.f a1_1 1 1000000000).bind fun t213=>(impl_groupOk.j0 k (!t213) a0_0 l0_1 l1_0 a1_1)))
theorem impl_groupOk.mono_l : ∀ k,(∀ y0 y1 y2 y3 y4,LeO (impl_groupOk.j0 k y0 y1 y2 y3 y4) (impl_groupOk.j0 (k + 1) y0 y1 y2 y3 y4)) ∧ (∀ y0 y1 y2 y3 y4 y5 y6,LeO (impl_groupOk.l0 k y0 y1 y2 y3 y4 y5 y6) (impl_groupOk.l0 (k + 1) y0 y1 y2 y3 y4 y5 y6))
  | 0=>⟨fun _ _ _ _ _ r h=>by simp [impl_groupOk.j0] at h,fun _ _ _ _ _ _ _ r h=>by simp [impl_groupOk.l0] at h⟩
  | k + 1=>by
    obtain ⟨ih0,ih1⟩:=impl_groupOk.mono_l k
    refine ⟨?_,?_⟩
    · intro y0 y1 y2 y3 y4
      unfold impl_groupOk.j0
      repeat' first
      | (with_reducible exact ih0 _ _ _ _ _)
      | (with_reducible exact ih1 _ _ _ _ _ _ _)
      | (with_reducible exact LeO.refl _)
      | (with_reducible exact LeO.none _)
      | (with_reducible refine LeO.ite ?_ ?_)
      | (with_reducible refine LeO.bind ?_ (fun _=>?_))
      | exact ih0 _ _ _ _ _
      | exact ih1 _ _ _ _ _ _ _
      | exact LeO.none _
      | refine LeO.ite ?_ ?_
      | refine LeO.bind ?_ (fun _=>?_)
    · intro y0 y1 y2 y3 y4 y5 y6
      unfold impl_groupOk.l0
      repeat' first
      | (with_reducible exact ih0 _ _ _ _ _)
      | (with_reducible exact ih1 _ _ _ _ _ _ _)
      | (with_reducible exact LeO.refl _)
      | (with_reducible exact LeO.none _)
      | (with_reducible refine LeO.ite ?_ ?_)
      | (with_reducible refine LeO.bind ?_ (fun _=>?_))
      | exact ih0 _ _ _ _ _
      | exact ih1 _ _ _ _ _ _ _
      | exact LeO.none _
      | refine LeO.ite ?_ ?_
      | refine LeO.bind ?_ (fun _=>?_)
theorem impl_groupOk.mono : ∀ a0 a1 a2 a3 k,LeO (impl_groupOk.f k a0 a1 a2 a3) (impl_groupOk.f (k + 1) a0 a1 a2 a3):=by
  intro a0 a1 a2 a3 k
  obtain ⟨ih0,ih1⟩:=impl_groupOk.mono_l k
  unfold impl_groupOk.f
  repeat' first
      | (with_reducible exact ih0 _ _ _ _ _)
      | (with_reducible exact ih1 _ _ _ _ _ _ _)
      | (with_reducible exact LeO.refl _)
      | (with_reducible exact LeO.none _)
      | (with_reducible refine LeO.ite ?_ ?_)
      | (with_reducible refine LeO.bind ?_ (fun _=>?_))
      | exact ih0 _ _ _ _ _
      | exact ih1 _ _ _ _ _ _ _
      | exact LeO.none _
      | refine LeO.ite ?_ ?_
      | refine LeO.bind ?_ (fun _=>?_)
set_option maxHeartbeats 8000000 in
set_option maxRecDepth 100000 in
theorem impl_groupOk.calls (k : Nat) (a0_0 : Int) (A0_1 : Option Addr) (c0_1 : Nat) (l0_1 : List (S101)) (A1_0 : Option Addr) (c1_0 : Nat) (l1_0 : List Int) (a1_1 : Int) (r : Bool) (w : World) (hr0_1 : Kd.C k101 w A0_1 l0_1.length l0_1) (hc0_1 : l0_1.length ≤ c0_1) (hr1_0 : Kd.C (Kd.int .i64) w A1_0 l1_0.length l1_0) (hc1_0 : l1_0.length ≤ c1_0) (h : impl_groupOk.f k a0_0 l0_1 l1_0 a1_1 = some r) :
    Calls Try.prog 58 #[.agg #[.int .i64 a0_0,.slice A0_1 l0_1.length c0_1],.agg #[.slice A1_0 l1_0.length c1_0,.int .i64 a1_1]] w fun e w'=>e = .returned (.bool r) ∧ Below w.heap.size w w':=by
  have hu61:=Try.underlying61
  have hu97:=Try.underlying97
  have HR0_1:=qn.mk hr0_1
  have HC0_1:=qn.mk hc0_1
  clear hr0_1 hc0_1
  have HR1_0:=qn.mk hr1_0
  have HC1_0:=qn.mk hc1_0
  clear hr1_0 hc1_0
  have HB:=qn.mk (Below.refl w.heap.size w)
  have H : (if (l1_0.length : Int) < 3 then (impl_groupOk.j0 k true a0_0 l0_1 l1_0 a1_1) else (if ((l1_0.length : Int) % 2) = 0 then (impl_groupOk.j0 k true a0_0 l0_1 l1_0 a1_1) else ((impl_in.f a1_1 1 1000000000).bind fun t213=>(impl_groupOk.j0 k (!t213) a0_0 l0_1 l1_0 a1_1)))) = some r:=h
  clear h
  have HC3:=qn.mk H
  clear H
  go_enter Try.func58,Try.ntmps58
  go_upto_region 1 with (first|((with_reducible refine gate_dst (N:=2) rfl ?_);(try (refine gate_guard (by rfl) ?_;dsimp only));refine box_event ?hg (N:=2) ?hd (cs:=#[.int .i64 a0_0,.slice A0_1 l0_1.length c0_1]) (t:=61) ?hr ?_;(case hd=>rfl);(case hg=>rfl);(case hr=>first|(go_simp;done)|(go_simp;rfl));intro gb211 hg w4 hbox hb;have n0_:=hs_ HB hb;have n1_:=qn.mk (hbox);have n2_:=qn.mk ((by rw [hg];exact (qj (by repeat (first|(with_reducible first|exact HB.out|apply qf|apply qa|apply qd)|exact HB.out))) : w.heap.size ≤ gb211));have n3_:=qn.mk ((by rw [hg];exact (qj (by repeat (first|(with_reducible first|exact HB.out|apply qf|apply qa|apply qd)|exact HB.out))) : w.heap.size ≤ gb211));clear HB;have HB:=n0_;have BK211:=n1_;have GW211:=n2_;have GE211:=n3_;clear n0_ n1_ n2_ n3_;clear hb hbox hg)|((with_reducible refine gate_dst (N:=3) rfl ?_);(try (refine gate_guard (by rfl) ?_;dsimp only));refine box_event ?hg (N:=3) ?hd (cs:=#[.slice A1_0 l1_0.length c1_0,.int .i64 a1_1]) (t:=97) ?hr ?_;(case hd=>rfl);(case hg=>rfl);(case hr=>first|(go_simp;done)|(go_simp;rfl));intro gb212 hg w5 hbox hb;have n0_:=bb_ BK211 hb;have n1_:=hs_ HB hb;have n2_:=qn.mk (hbox);have n3_:=qn.mk ((by rw [hg];exact (qj (by repeat (first|(with_reducible first|exact HB.out|apply qf|apply qa|apply qd|refine qg ?_ GE211.out)|exact HB.out))) : w.heap.size ≤ gb212));have n4_:=qn.mk ((by rw [hg];exact (qj (by repeat (first|(with_reducible first|exact HB.out|apply qf|apply qa|apply qd|refine qg ?_ GE211.out)|exact HB.out))) : w.heap.size ≤ gb212));have n5_:=qn.mk ((by rw [hg];exact nl_ BK211 : gb211 ≠ gb212));have n6_:=qn.mk ((by rw [hg];exact ng_ BK211 : gb212 ≠ gb211));clear BK211;clear HB;have BK211:=n0_;have HB:=n1_;have BK212:=n2_;have GW212:=n3_;have GE212:=n4_;have NB211_212:=n5_;have NB212_211:=n6_;clear n0_ n1_ n2_ n3_ n4_ n5_ n6_;clear hb hbox hg))
  (try simp only [Act.put,List.setIfInBounds_toArray,List.set_cons_zero,List.set_cons_succ])
  go_cut [23] (fun v23 wc=>∃ (kq : Nat) (x23_2 : Bool),v23 = .bool x23_2 ∧ qn (impl_groupOk.j0 kq x23_2 a0_0 l0_1 l1_0 a1_1 = some r) ∧ qn (kq ≤ k) ∧ qn (wc.heap[gb211]? = some (.cells #[.int .i64 a0_0,(.slice A0_1 l0_1.length c0_1)] 61 (0,0))) ∧ qn (wc.heap[gb212]? = some (.cells #[(.slice A1_0 l1_0.length c1_0),.int .i64 a1_1] 97 (0,0))) ∧ qn (Below w.heap.size w wc))
  case first =>
    have H:=HC3.out
    clear HC3
    by_cases c6 : (l1_0.length : Int) < 3
    · rw [if_pos c6] at H
      have c6b0 : decide ((l1_0.length : Int) < 3) = true:=decide_eq_true c6
      have c6b1 : decide (l1_0.length < 3) = true:=decide_eq_true (by omega)
      clear c6
      (first|rw [c6b0]|(simp only [i64_w,i32_w];rw [c6b0])|skip)
      have H':=qn.mk H
      clear H
      have hnb7:=NB212_211.out
      have hnc7:=NB211_212.out
      have hcz8_0 : w5.cell? ⟨gb212,0,none⟩ = some (.slice A1_0 l1_0.length c1_0):=(qh BK212.out 0).trans rfl
      have hcz8_1 : w5.cell? ⟨gb212,1,none⟩ = some (.int .i64 a1_1):=(qh BK212.out 1).trans rfl
      have hfz8_0:=qi BK212.out 0
      have hfz8_1:=qi BK212.out 1
      go_wp2
      go_meet
      case rel=>exact ⟨_,(true),(by first|rfl|(simp;done)|(simp [*];done)),H',⟨by first|omega|exact Nat.le_refl _⟩,⟨by (with_reducible repeat (first|refine qb ?_ _|refine qe ?_|refine qc ?_ _));exact BK211.out⟩,⟨by (with_reducible repeat (first|refine qb ?_ _|refine qe ?_|refine qc ?_ _));exact BK212.out⟩,⟨by repeat (first|(with_reducible first|exact HB.out|apply qf|apply qa|apply qd|refine qg ?_ GE211.out|refine qg ?_ GE212.out)|exact HB.out)⟩⟩
    · rw [if_neg c6] at H
      have c6b0 : decide ((l1_0.length : Int) < 3) = false:=decide_eq_false c6
      have c6b1 : decide (l1_0.length < 3) = false:=decide_eq_false (by omega)
      clear c6
      (first|rw [c6b0]|(simp only [i64_w,i32_w];rw [c6b0])|skip)
      by_cases c9 : ((l1_0.length : Int) % 2) = 0
      · rw [if_pos c9] at H
        have c9b0 : (((l1_0.length : Int) % 2) == 0) = true:=beq_iff_eq.mpr c9
        have c9b1 : (((l1_0.length : Int) % 2) != 0) = false:=bne_eq_false_iff_eq.mpr c9
        clear c9
        have H':=qn.mk H
        clear H
        have hnb10:=NB212_211.out
        have hnc10:=NB211_212.out
        have hcz11_0 : w5.cell? ⟨gb212,0,none⟩ = some (.slice A1_0 l1_0.length c1_0):=(qh BK212.out 0).trans rfl
        have hcz11_1 : w5.cell? ⟨gb212,1,none⟩ = some (.int .i64 a1_1):=(qh BK212.out 1).trans rfl
        have hfz11_0:=qi BK212.out 0
        have hfz11_1:=qi BK212.out 1
        go_wp2
        go_meet
        case rel=>exact ⟨_,(true),(by first|rfl|(simp;done)|(simp [*];done)),H',⟨by first|omega|exact Nat.le_refl _⟩,⟨by (with_reducible repeat (first|refine qb ?_ _|refine qe ?_|refine qc ?_ _));exact BK211.out⟩,⟨by (with_reducible repeat (first|refine qb ?_ _|refine qe ?_|refine qc ?_ _));exact BK212.out⟩,⟨by repeat (first|(with_reducible first|exact HB.out|apply qf|apply qa|apply qd|refine qg ?_ GE211.out|refine qg ?_ GE212.out)|exact HB.out)⟩⟩
      · rw [if_neg c9] at H
        have c9b0 : (((l1_0.length : Int) % 2) == 0) = false:=beq_eq_false_iff_ne.mpr c9
        have c9b1 : (((l1_0.length : Int) % 2) != 0) = true:=bne_iff_ne.mpr c9
        replace H:=Option.bind_eq_some_iff.mp H
        obtain ⟨t213,A120,H⟩:=H
        replace H : (impl_groupOk.j0 k (!t213) a0_0 l0_1 l1_0 a1_1) = some r:=H
        have A12:=qn.mk A120
        clear A120
        have H':=qn.mk H
        clear H
        have hnb13:=NB212_211.out
        have hnc13:=NB211_212.out
        have hcz14_0 : w5.cell? ⟨gb212,0,none⟩ = some (.slice A1_0 l1_0.length c1_0):=(qh BK212.out 0).trans rfl
        have hcz14_1 : w5.cell? ⟨gb212,1,none⟩ = some (.int .i64 a1_1):=(qh BK212.out 1).trans rfl
        have hfz14_0:=qi BK212.out 0
        have hfz14_1:=qi BK212.out 1
        go_wp2_with (first|(go_at_call 28;(with_reducible refine (impl_in.calls a1_1 1 1000000000 t213 _ A12.out).mono ?_);rintro e w' ⟨rfl,⟨nd,rfl⟩⟩))
        go_meet
        case rel=>exact ⟨_,(!t213),(by first|rfl|(simp;done)|(simp [*];done)),H',⟨by first|omega|exact Nat.le_refl _⟩,⟨by (with_reducible repeat (first|refine qb ?_ _|refine qe ?_|refine qc ?_ _));exact BK211.out⟩,⟨by (with_reducible repeat (first|refine qb ?_ _|refine qe ?_|refine qc ?_ _));exact BK212.out⟩,⟨by repeat (first|(with_reducible first|exact HB.out|apply qf|apply qa|apply qd|refine qg ?_ GE211.out|refine qg ?_ GE212.out)|exact HB.out)⟩⟩
  case rest =>
    clear HC3
    try clear c1
    try clear p2
    try clear c5
    try clear c6
    try clear c6b0
    try clear c6b1
    try clear c7
    try clear c9
    try clear c9b0
    try clear c9b1
    try clear c10
    try clear c13
    try clear hcz11_0
    try clear hcz11_1
    try clear hcz14_0
    try clear hcz14_1
    try clear hcz8_0
    try clear hcz8_1
    try clear hfz11_0
    try clear hfz11_1
    try clear hfz14_0
    try clear hfz14_1
    try clear hfz8_0
    try clear hfz8_1
    obtain ⟨kq,x23_2,rfl,HA,HJ2,BK211,BK212,HB⟩:=hcut
    cases kq with
    | zero=>exact absurd HA.out (by simp [impl_groupOk.j0])
    | succ kj2 =>
      have H:=HA.out
      clear HA
      simp only [impl_groupOk.j0] at H
      by_cases c15 : x23_2 = true
      · subst c15
        have H1 : (some false) = some r:=by rw [if_pos rfl] at H;exact H
        clear H
        have H:=H1
        clear H1
        obtain rfl:=Option.some.inj H
        go_wp2
        go_ret
        exact ⟨by first|rfl|(simp [errW_none,errW_some] <;> rfl)|(simp [*,errW_none,errW_some] <;> rfl),by repeat (first|(with_reducible first|exact HB.out|apply qf|apply qa|apply qd|refine qg ?_ GE211.out|refine qg ?_ GE212.out)|exact HB.out)⟩
      · replace c15:=Bool.eq_false_iff.mpr c15
        subst c15
        have H1 : (impl_groupOk.l0 kj2 l1_0 (l1_0.length : Int) 0 a0_0 l0_1 l1_0 a1_1) = some r:=by rw [if_neg (show ¬ (false = true) by decide)] at H;exact H
        clear H
        have H:=H1
        clear H1
        have H':=qn.mk H
        clear H
        have hnb16:=NB212_211.out
        have hnc16:=NB211_212.out
        have hcz17_0 : wc.cell? ⟨gb212,0,none⟩ = some (.slice A1_0 l1_0.length c1_0):=(qh BK212.out 0).trans rfl
        have hcz17_1 : wc.cell? ⟨gb212,1,none⟩ = some (.int .i64 a1_1):=(qh BK212.out 1).trans rfl
        have hfz17_0:=qi BK212.out 0
        have hfz17_1:=qi BK212.out 1
        go_wp2
        go_loopg [27] kj2 (fun kq v27 w'=>∃ (x27_2 : Int),v27 = .int .i64 x27_2 ∧ qn (impl_groupOk.l0 kq l1_0 (l1_0.length : Int) x27_2 a0_0 l0_1 l1_0 a1_1 = some r) ∧ qn (kq ≤ kj2) ∧ qn (w'.heap[gb211]? = some (.cells #[.int .i64 a0_0,(.slice A0_1 l0_1.length c0_1)] 61 (0,0))) ∧ qn (w'.heap[gb212]? = some (.cells #[(.slice A1_0 l1_0.length c1_0),.int .i64 a1_1] 97 (0,0))) ∧ qn (Below w.heap.size w w'))
        case atStart=>exact ⟨(0),(by first|rfl|(simp;done)|(simp [*];done)),H',⟨Nat.le_refl _⟩,⟨by (with_reducible repeat (first|refine qb ?_ _|refine qe ?_|refine qc ?_ _));exact BK211.out⟩,⟨by (with_reducible repeat (first|refine qb ?_ _|refine qe ?_|refine qc ?_ _));exact BK212.out⟩,⟨by repeat (first|(with_reducible first|exact HB.out|apply qf|apply qa|apply qd|refine qg ?_ GE211.out|refine qg ?_ GE212.out)|exact HB.out)⟩⟩
        case round =>
          clear H'
          try clear c1
          try clear p2
          try clear c5
          try clear c6
          try clear c6b0
          try clear c6b1
          try clear c7
          try clear c9
          try clear c9b0
          try clear c9b1
          try clear c10
          try clear c13
          try clear c15
          try clear c16
          try clear hcz11_0
          try clear hcz11_1
          try clear hcz14_0
          try clear hcz14_1
          try clear hcz17_0
          try clear hcz17_1
          try clear hcz8_0
          try clear hcz8_1
          try clear hfz11_0
          try clear hfz11_1
          try clear hfz14_0
          try clear hfz14_1
          try clear hfz17_0
          try clear hfz17_1
          try clear hfz8_0
          try clear hfz8_1
          try clear p2
          obtain ⟨x27_2,rfl,HA,HK2,BK211,BK212,HB⟩:=hrel
          cases gk with
          | zero=>exact absurd HA.out (by simp [impl_groupOk.l0])
          | succ k2 =>
            have H:=HA.out
            clear HA
            simp only [impl_groupOk.l0] at H
            by_cases c18 : x27_2 < (l1_0.length : Int)
            · rw [if_pos c18] at H
              have c18b0 : decide (x27_2 < (l1_0.length : Int)) = true:=decide_eq_true c18
              clear c18
              by_cases c19 : 0 ≤ x27_2
              · rw [if_pos c19] at H
                have c19b0 : decide (0 ≤ x27_2) = true:=decide_eq_true c19
                clear c19
                by_cases c20 : x27_2 < (l1_0.length : Int)
                · rw [if_pos c20] at H
                  have c20b0 : decide (x27_2 < (l1_0.length : Int)) = true:=decide_eq_true c20
                  clear c20
                  replace H:=Option.bind_eq_some_iff.mp H
                  obtain ⟨t215,A210,H⟩:=H
                  replace H : (if t215 = true then (if x27_2 > 0 then (if 0 ≤ (wrap64 (x27_2 - 1)) then (if (wrap64 (x27_2 - 1)) < (l1_0.length : Int) then (if (rd l1_0 (wrap64 (x27_2 - 1))) ≥ (rd l1_0 x27_2) then (some false) else (impl_groupOk.l0 k2 l1_0 (l1_0.length : Int) (wrap64 (x27_2 + 1)) a0_0 l0_1 l1_0 a1_1)) else (none)) else (none)) else (impl_groupOk.l0 k2 l1_0 (l1_0.length : Int) (wrap64 (x27_2 + 1)) a0_0 l0_1 l1_0 a1_1)) else (some false)) = some r:=H
                  have A21:=qn.mk A210
                  clear A210
                  by_cases c22 : t215 = true
                  · subst c22
                    have H1 : (if x27_2 > 0 then (if 0 ≤ (wrap64 (x27_2 - 1)) then (if (wrap64 (x27_2 - 1)) < (l1_0.length : Int) then (if (rd l1_0 (wrap64 (x27_2 - 1))) ≥ (rd l1_0 x27_2) then (some false) else (impl_groupOk.l0 k2 l1_0 (l1_0.length : Int) (wrap64 (x27_2 + 1)) a0_0 l0_1 l1_0 a1_1)) else (none)) else (none)) else (impl_groupOk.l0 k2 l1_0 (l1_0.length : Int) (wrap64 (x27_2 + 1)) a0_0 l0_1 l1_0 a1_1)) = some r:=by rw [if_pos rfl] at H;exact H
                    clear H
                    have H:=H1
                    clear H1
                    by_cases c23 : x27_2 > 0
                    · rw [if_pos c23] at H
                      have c23b0 : decide (0 < x27_2) = true:=decide_eq_true c23
                      clear c23
                      obtain ⟨ji24,hji24⟩ : ∃ j_ : Int,(wrap64 (x27_2 - 1)) = j_:=⟨_,rfl⟩
                      replace H : (if 0 ≤ (ji24) then (if (ji24) < (l1_0.length : Int) then (if (rd l1_0 (ji24)) ≥ (rd l1_0 x27_2) then (some false) else (impl_groupOk.l0 k2 l1_0 (l1_0.length : Int) (wrap64 (x27_2 + 1)) a0_0 l0_1 l1_0 a1_1)) else (none)) else (none)) = some r:=by first|(rw [hji24] at H;exact H)|(simp only [hji24] at H ⊢;exact H)
                      (try rw [hji24] at A21)
                      have hji24w : (IntKind.i64.wrap (x27_2 - 1)) = ji24:=(i64_w _).trans hji24
                      by_cases c25 : 0 ≤ (ji24)
                      · rw [if_pos c25] at H
                        have c25b0 : decide (0 ≤ (ji24)) = true:=decide_eq_true c25
                        clear c25
                        by_cases c26 : (ji24) < (l1_0.length : Int)
                        · rw [if_pos c26] at H
                          have c26b0 : decide ((ji24) < (l1_0.length : Int)) = true:=decide_eq_true c26
                          clear c26
                          by_cases c27 : (rd l1_0 (ji24)) ≥ (rd l1_0 x27_2)
                          · rw [if_pos c27] at H
                            have c27b0 : decide ((rd l1_0 x27_2) ≤ (rd l1_0 (ji24))) = true:=decide_eq_true c27
                            clear c27
                            obtain rfl:=Option.some.inj H
                            have p214 : 0 ≤ (x27_2 : Int):=of_decide_eq_true (by first|(with_reducible assumption)|assumption)
                            have q214 : x27_2 < (l1_0.length : Int):=of_decide_eq_true (by first|(with_reducible assumption)|assumption)
                            obtain ⟨ad214,e214,hx214_0⟩:=Kd.at_int HR1_0.out x27_2 p214 q214
                            cases e214
                            replace hx214_0:=cb_ HB hx214_0
                            replace p214:=eq_true p214
                            replace q214:=eq_true q214
                            have hnb28:=NB211_212.out
                            have hnc28:=NB212_211.out
                            have hcz29_0 : wr.cell? ⟨gb211,0,none⟩ = some (.int .i64 a0_0):=(qh BK211.out 0).trans rfl
                            have hcz29_1 : wr.cell? ⟨gb211,1,none⟩ = some (.slice A0_1 l0_1.length c0_1):=(qh BK211.out 1).trans rfl
                            have hfz29_0:=qi BK211.out 0
                            have hfz29_1:=qi BK211.out 1
                            go_wp2_with (first|((with_reducible refine gate_callee (f:=28) rfl ?_);refine goesL_ (some 36) rfl rfl Try.func28 (by kernel_rfl) rfl #[.int .i64 (rd l1_0 x27_2),.int .i64 0,.int .i64 (wrap64 (a0_0 - 1))] rfl (by (try simp only [List.map_toArray,List.map_cons,List.map_nil]);first|done|rfl|(simp only [List.length_drop,List.length_take];rfl)) ?_;(with_reducible refine (impl_in.calls (rd l1_0 x27_2) 0 (wrap64 (a0_0 - 1)) true _ A21.out).mono ?_);rintro e w' ⟨rfl,⟨nd,rfl⟩⟩;refine ⟨_,rfl,?_⟩;have hcz30_0 : wr.cell? ⟨gb212,0,none⟩ = some (.slice (some ad214) l1_0.length c1_0):=(qh BK212.out 0).trans rfl;have hcz30_1 : wr.cell? ⟨gb212,1,none⟩ = some (.int .i64 a1_1):=(qh BK212.out 1).trans rfl;have hfz30_0:=qi BK212.out 0;have hfz30_1:=qi BK212.out 1;have p216 : 0 ≤ ((ji24) : Int):=of_decide_eq_true (by first|(with_reducible assumption)|assumption);have q216 : (ji24) < (l1_0.length : Int):=of_decide_eq_true (by first|(with_reducible assumption)|assumption);obtain ⟨ad216,e216,hx216_0⟩:=Kd.at_int HR1_0.out (ji24) p216 q216;obtain rfl : ad214 = ad216:=(by injection e216);replace hx216_0:=cb_ HB hx216_0;replace p216:=eq_true p216;replace q216:=eq_true q216))
                            go_ret
                            exact ⟨by first|rfl|(simp [errW_none,errW_some] <;> rfl)|(simp only [← hji24];first|rfl|(simp [errW_none,errW_some] <;> rfl))|(simp [*,errW_none,errW_some] <;> rfl),by repeat (first|(with_reducible first|exact HB.out|apply qf|apply qa|apply qd|refine qg ?_ GE211.out|refine qg ?_ GE212.out)|exact HB.out)⟩
                          · rw [if_neg c27] at H
                            have c27b0 : decide ((rd l1_0 x27_2) ≤ (rd l1_0 (ji24))) = false:=decide_eq_false c27
                            clear c27
                            have H':=qn.mk H
                            clear H
                            have p214 : 0 ≤ (x27_2 : Int):=of_decide_eq_true (by first|(with_reducible assumption)|assumption)
                            have q214 : x27_2 < (l1_0.length : Int):=of_decide_eq_true (by first|(with_reducible assumption)|assumption)
                            obtain ⟨ad214,e214,hx214_0⟩:=Kd.at_int HR1_0.out x27_2 p214 q214
                            cases e214
                            replace hx214_0:=cb_ HB hx214_0
                            replace p214:=eq_true p214
                            replace q214:=eq_true q214
                            have hnb31:=NB211_212.out
                            have hnc31:=NB212_211.out
                            have hcz32_0 : wr.cell? ⟨gb211,0,none⟩ = some (.int .i64 a0_0):=(qh BK211.out 0).trans rfl
                            have hcz32_1 : wr.cell? ⟨gb211,1,none⟩ = some (.slice A0_1 l0_1.length c0_1):=(qh BK211.out 1).trans rfl
                            have hfz32_0:=qi BK211.out 0
                            have hfz32_1:=qi BK211.out 1
                            go_wp2_with (first|((with_reducible refine gate_callee (f:=28) rfl ?_);refine goesL_ (some 36) rfl rfl Try.func28 (by kernel_rfl) rfl #[.int .i64 (rd l1_0 x27_2),.int .i64 0,.int .i64 (wrap64 (a0_0 - 1))] rfl (by (try simp only [List.map_toArray,List.map_cons,List.map_nil]);first|done|rfl|(simp only [List.length_drop,List.length_take];rfl)) ?_;(with_reducible refine (impl_in.calls (rd l1_0 x27_2) 0 (wrap64 (a0_0 - 1)) true _ A21.out).mono ?_);rintro e w' ⟨rfl,⟨nd,rfl⟩⟩;refine ⟨_,rfl,?_⟩;have hcz33_0 : wr.cell? ⟨gb212,0,none⟩ = some (.slice (some ad214) l1_0.length c1_0):=(qh BK212.out 0).trans rfl;have hcz33_1 : wr.cell? ⟨gb212,1,none⟩ = some (.int .i64 a1_1):=(qh BK212.out 1).trans rfl;have hfz33_0:=qi BK212.out 0;have hfz33_1:=qi BK212.out 1;have p216 : 0 ≤ ((ji24) : Int):=of_decide_eq_true (by first|(with_reducible assumption)|assumption);have q216 : (ji24) < (l1_0.length : Int):=of_decide_eq_true (by first|(with_reducible assumption)|assumption);obtain ⟨ad216,e216,hx216_0⟩:=Kd.at_int HR1_0.out (ji24) p216 q216;obtain rfl : ad214 = ad216:=(by injection e216);replace hx216_0:=cb_ HB hx216_0;replace p216:=eq_true p216;replace q216:=eq_true q216))
                            go_roundg k2
                            case measure=>have:=HJ2.out;have:=HK2.out;omega
                            case rel=>exact ⟨(wrap64 (x27_2 + 1)),(by first|rfl|(simp;done)|(simp [*];done)),H',⟨by have:=HJ2.out;have:=HK2.out;omega⟩,⟨by (with_reducible repeat (first|refine qb ?_ _|refine qe ?_|refine qc ?_ _));exact BK211.out⟩,⟨by (with_reducible repeat (first|refine qb ?_ _|refine qe ?_|refine qc ?_ _));exact BK212.out⟩,⟨by repeat (first|(with_reducible first|exact HB.out|apply qf|apply qa|apply qd|refine qg ?_ GE211.out|refine qg ?_ GE212.out)|exact HB.out)⟩⟩
                        · rw [if_neg c26] at H
                          exact absurd H (by simp)
                      · rw [if_neg c25] at H
                        exact absurd H (by simp)
                    · rw [if_neg c23] at H
                      have c23b0 : decide (0 < x27_2) = false:=decide_eq_false c23
                      clear c23
                      have H':=qn.mk H
                      clear H
                      have p214 : 0 ≤ (x27_2 : Int):=of_decide_eq_true (by first|(with_reducible assumption)|assumption)
                      have q214 : x27_2 < (l1_0.length : Int):=of_decide_eq_true (by first|(with_reducible assumption)|assumption)
                      obtain ⟨ad214,e214,hx214_0⟩:=Kd.at_int HR1_0.out x27_2 p214 q214
                      cases e214
                      replace hx214_0:=cb_ HB hx214_0
                      replace p214:=eq_true p214
                      replace q214:=eq_true q214
                      have hnb34:=NB211_212.out
                      have hnc34:=NB212_211.out
                      have hcz35_0 : wr.cell? ⟨gb211,0,none⟩ = some (.int .i64 a0_0):=(qh BK211.out 0).trans rfl
                      have hcz35_1 : wr.cell? ⟨gb211,1,none⟩ = some (.slice A0_1 l0_1.length c0_1):=(qh BK211.out 1).trans rfl
                      have hfz35_0:=qi BK211.out 0
                      have hfz35_1:=qi BK211.out 1
                      go_wp2_with (first|((with_reducible refine gate_callee (f:=28) rfl ?_);refine goesL_ (some 36) rfl rfl Try.func28 (by kernel_rfl) rfl #[.int .i64 (rd l1_0 x27_2),.int .i64 0,.int .i64 (wrap64 (a0_0 - 1))] rfl (by (try simp only [List.map_toArray,List.map_cons,List.map_nil]);first|done|rfl|(simp only [List.length_drop,List.length_take];rfl)) ?_;(with_reducible refine (impl_in.calls (rd l1_0 x27_2) 0 (wrap64 (a0_0 - 1)) true _ A21.out).mono ?_);rintro e w' ⟨rfl,⟨nd,rfl⟩⟩;refine ⟨_,rfl,?_⟩))
                      go_roundg k2
                      case measure=>have:=HJ2.out;have:=HK2.out;omega
                      case rel=>exact ⟨(wrap64 (x27_2 + 1)),(by first|rfl|(simp;done)|(simp [*];done)),H',⟨by have:=HJ2.out;have:=HK2.out;omega⟩,⟨by (with_reducible repeat (first|refine qb ?_ _|refine qe ?_|refine qc ?_ _));exact BK211.out⟩,⟨by (with_reducible repeat (first|refine qb ?_ _|refine qe ?_|refine qc ?_ _));exact BK212.out⟩,⟨by repeat (first|(with_reducible first|exact HB.out|apply qf|apply qa|apply qd|refine qg ?_ GE211.out|refine qg ?_ GE212.out)|exact HB.out)⟩⟩
                  · replace c22:=Bool.eq_false_iff.mpr c22
                    subst c22
                    have H1 : (some false) = some r:=by rw [if_neg (show ¬ (false = true) by decide)] at H;exact H
                    clear H
                    have H:=H1
                    clear H1
                    obtain rfl:=Option.some.inj H
                    have p214 : 0 ≤ (x27_2 : Int):=of_decide_eq_true (by first|(with_reducible assumption)|assumption)
                    have q214 : x27_2 < (l1_0.length : Int):=of_decide_eq_true (by first|(with_reducible assumption)|assumption)
                    obtain ⟨ad214,e214,hx214_0⟩:=Kd.at_int HR1_0.out x27_2 p214 q214
                    cases e214
                    replace hx214_0:=cb_ HB hx214_0
                    replace p214:=eq_true p214
                    replace q214:=eq_true q214
                    have hnb36:=NB211_212.out
                    have hnc36:=NB212_211.out
                    have hcz37_0 : wr.cell? ⟨gb211,0,none⟩ = some (.int .i64 a0_0):=(qh BK211.out 0).trans rfl
                    have hcz37_1 : wr.cell? ⟨gb211,1,none⟩ = some (.slice A0_1 l0_1.length c0_1):=(qh BK211.out 1).trans rfl
                    have hfz37_0:=qi BK211.out 0
                    have hfz37_1:=qi BK211.out 1
                    go_wp2_with (first|((with_reducible refine gate_callee (f:=28) rfl ?_);refine goesL_ (some 36) rfl rfl Try.func28 (by kernel_rfl) rfl #[.int .i64 (rd l1_0 x27_2),.int .i64 0,.int .i64 (wrap64 (a0_0 - 1))] rfl (by (try simp only [List.map_toArray,List.map_cons,List.map_nil]);first|done|rfl|(simp only [List.length_drop,List.length_take];rfl)) ?_;(with_reducible refine (impl_in.calls (rd l1_0 x27_2) 0 (wrap64 (a0_0 - 1)) false _ A21.out).mono ?_);rintro e w' ⟨rfl,⟨nd,rfl⟩⟩;refine ⟨_,rfl,?_⟩))
                    go_ret
                    exact ⟨by first|rfl|(simp [errW_none,errW_some] <;> rfl)|(simp [*,errW_none,errW_some] <;> rfl),by repeat (first|(with_reducible first|exact HB.out|apply qf|apply qa|apply qd|refine qg ?_ GE211.out|refine qg ?_ GE212.out)|exact HB.out)⟩
                · rw [if_neg c20] at H
                  exact absurd H (by simp)
              · rw [if_neg c19] at H
                exact absurd H (by simp)
            · rw [if_neg c18] at H
              have c18b0 : decide (x27_2 < (l1_0.length : Int)) = false:=decide_eq_false c18
              clear c18
              obtain rfl:=Option.some.inj H
              go_wp2
              go_ret
              exact ⟨by first|rfl|(simp [errW_none,errW_some] <;> rfl)|(simp [*,errW_none,errW_some] <;> rfl),by repeat (first|(with_reducible first|exact HB.out|apply qf|apply qa|apply qd|refine qg ?_ GE211.out|refine qg ?_ GE212.out)|exact HB.out)⟩

/-! ### impl_hasInt: function 78 -/
def impl_hasInt.l0 : Nat → Int → List Int → Int → Int → Option (Bool)
  | 0,_,_,_,_=>none
  | k + 1,x1,x7,x8,x9=>if x9 < x8 then (if 0 ≤ x9 then (if x9 < (x7.length : Int) then (if (rd x7 x9) = x1 then (some true) else (impl_hasInt.l0 k x1 x7 x8 (wrap64 (x9 + 1)))) else (none)) else (none)) else (some false)
def impl_hasInt.f (k : Nat) (l0 : List Int) (a1 : Int) : Option (Bool):=impl_hasInt.l0 k a1 l0 (l0.length : Int) 0
theorem impl_hasInt.mono_l : ∀ k,(∀ y0 y1 y2 y3,LeO (impl_hasInt.l0 k y0 y1 y2 y3) (impl_hasInt.l0 (k + 1) y0 y1 y2 y3))
  | 0=>fun _ _ _ _ r h=>by simp [impl_hasInt.l0] at h
  | k + 1=>by
    have ih0:=impl_hasInt.mono_l k
    · intro y0 y1 y2 y3
      unfold impl_hasInt.l0
      repeat' first
      | (with_reducible exact ih0 _ _ _ _)
      | (with_reducible exact LeO.refl _)
      | (with_reducible exact LeO.none _)
      | (with_reducible refine LeO.ite ?_ ?_)
      | (with_reducible refine LeO.bind ?_ (fun _=>?_))
      | exact ih0 _ _ _ _
      | exact LeO.none _
      | refine LeO.ite ?_ ?_
      | refine LeO.bind ?_ (fun _=>?_)
theorem impl_hasInt.mono : ∀ a0 a1 k,LeO (impl_hasInt.f k a0 a1) (impl_hasInt.f (k + 1) a0 a1):=by
  intro a0 a1 k
  have ih0:=impl_hasInt.mono_l k
  unfold impl_hasInt.f
  repeat' first
      | (with_reducible exact ih0 _ _ _ _)
      | (with_reducible exact LeO.refl _)
      | (with_reducible exact LeO.none _)
      | (with_reducible refine LeO.ite ?_ ?_)
      | (with_reducible refine LeO.bind ?_ (fun _=>?_))
      | exact ih0 _ _ _ _
      | exact LeO.none _
      | refine LeO.ite ?_ ?_
      | refine LeO.bind ?_ (fun _=>?_)
set_option maxHeartbeats 8000000 in
set_option maxRecDepth 100000 in
theorem impl_hasInt.calls (k : Nat) (A0 : Option Addr) (c0 : Nat) (l0 : List Int) (a1 : Int) (r : Bool) (w : World) (hr0 : Kd.C (Kd.int .i64) w A0 l0.length l0) (hc0 : l0.length ≤ c0) (h : impl_hasInt.f k l0 a1 = some r) :
    Calls Try.prog 78 #[.slice A0 l0.length c0,.int .i64 a1] w fun e w'=>e = .returned (.bool r) ∧ Drawn0 w w':=by
  have HR0:=qn.mk hr0
  have HC0:=qn.mk hc0
  clear hr0 hc0
  have H : (impl_hasInt.l0 k a1 l0 (l0.length : Int) 0) = some r:=h
  clear h
  have H':=qn.mk H
  clear H
  go_enter Try.func78,Try.ntmps78
  go_wp2
  go_loopg [9] k (fun kq v9 w'=>∃ (x9_1 : Int),v9 = .int .i64 x9_1 ∧ qn (impl_hasInt.l0 kq a1 l0 (l0.length : Int) x9_1 = some r) ∧ qn (kq ≤ k) ∧ Drawn0 w w')
  case atStart=>exact ⟨(0),(by first|rfl|(simp;done)|(simp [*];done)),H',⟨Nat.le_refl _⟩,by repeat (first|exact Drawn0.refl _|apply Drawn0.step)⟩
  case round =>
    clear H'
    try clear p2
    obtain ⟨x9_1,rfl,HA,HK1,⟨m1,rfl⟩⟩:=hrel
    cases gk with
    | zero=>exact absurd HA.out (by simp [impl_hasInt.l0])
    | succ k1 =>
      have H:=HA.out
      clear HA
      simp only [impl_hasInt.l0] at H
      by_cases c3 : x9_1 < (l0.length : Int)
      · rw [if_pos c3] at H
        have c3b0 : decide (x9_1 < (l0.length : Int)) = true:=decide_eq_true c3
        clear c3
        by_cases c4 : 0 ≤ x9_1
        · rw [if_pos c4] at H
          have c4b0 : decide (0 ≤ x9_1) = true:=decide_eq_true c4
          clear c4
          by_cases c5 : x9_1 < (l0.length : Int)
          · rw [if_pos c5] at H
            have c5b0 : decide (x9_1 < (l0.length : Int)) = true:=decide_eq_true c5
            clear c5
            by_cases c6 : (rd l0 x9_1) = a1
            · rw [if_pos c6] at H
              have c6b0 : ((rd l0 x9_1) == a1) = true:=beq_iff_eq.mpr c6
              have c6b1 : ((rd l0 x9_1) != a1) = false:=bne_eq_false_iff_eq.mpr c6
              clear c6
              obtain rfl:=Option.some.inj H
              have p217 : 0 ≤ (x9_1 : Int):=of_decide_eq_true (by first|(with_reducible assumption)|assumption)
              have q217 : x9_1 < (l0.length : Int):=of_decide_eq_true (by first|(with_reducible assumption)|assumption)
              obtain ⟨ad217,e217,hx217_0⟩:=Kd.at_int HR0.out x9_1 p217 q217
              cases e217
              replace p217:=eq_true p217
              replace q217:=eq_true q217
              go_wp2
              go_ret
              exact ⟨by first|rfl|(simp;done)|(simp [*];done),by repeat (first|exact Drawn0.refl _|apply Drawn0.step)⟩
            · rw [if_neg c6] at H
              have c6b0 : ((rd l0 x9_1) == a1) = false:=beq_eq_false_iff_ne.mpr c6
              have c6b1 : ((rd l0 x9_1) != a1) = true:=bne_iff_ne.mpr c6
              have H':=qn.mk H
              clear H
              have p217 : 0 ≤ (x9_1 : Int):=of_decide_eq_true (by first|(with_reducible assumption)|assumption)
              have q217 : x9_1 < (l0.length : Int):=of_decide_eq_true (by first|(with_reducible assumption)|assumption)
              obtain ⟨ad217,e217,hx217_0⟩:=Kd.at_int HR0.out x9_1 p217 q217
              cases e217
              replace p217:=eq_true p217
              replace q217:=eq_true q217
              go_wp2
              go_roundg k1
              case measure=>have:=HK1.out;omega
              case rel=>exact ⟨(wrap64 (x9_1 + 1)),(by first|rfl|(simp;done)|(simp [*];done)),H',⟨by have:=HK1.out;omega⟩,by repeat (first|exact Drawn0.refl _|apply Drawn0.step)⟩
          · rw [if_neg c5] at H
            exact absurd H (by simp)
        · rw [if_neg c4] at H
          exact absurd H (by simp)
      · rw [if_neg c3] at H
        have c3b0 : decide (x9_1 < (l0.length : Int)) = false:=decide_eq_false c3
        clear c3
        obtain rfl:=Option.some.inj H
        go_wp2
        go_ret
        exact ⟨by first|rfl|(simp;done)|(simp [*];done),by repeat (first|exact Drawn0.refl _|apply Drawn0.step)⟩

/-! ### impl_within: function 59 -/
def impl_within.l0 : Nat → List Int → Bool → Bool → List Int → Int → Int → Option (Bool × Bool)
  | 0,_,_,_,_,_,_=>none
  | k + 1,x1,x6,x7,x11,x12,x13=>if x13 < x12 then (if 0 ≤ x13 then (if x13 < (x11.length : Int) then ((impl_hasInt.f k x1 (rd x11 x13)).bind fun t219=>(if x6 = true then (if x7 = true then (impl_within.l0 k x1 t219 (!t219) x11 x12 (wrap64 (x13 + 1))) else (impl_within.l0 k x1 t219 false x11 x12 (wrap64 (x13 + 1)))) else (if x7 = true then (impl_within.l0 k x1 false (!t219) x11 x12 (wrap64 (x13 + 1))) else (impl_within.l0 k x1 false false x11 x12 (wrap64 (x13 + 1)))))) else (none)) else (none)) else (some (x6,x7))
def impl_within.f (k : Nat) (l0 : List Int) (l1 : List Int) : Option (Bool × Bool):=impl_within.l0 k l1 true true l0 (l0.length : Int) 0
theorem impl_within.mono_l : ∀ k,(∀ y0 y1 y2 y3 y4 y5,LeO (impl_within.l0 k y0 y1 y2 y3 y4 y5) (impl_within.l0 (k + 1) y0 y1 y2 y3 y4 y5))
  | 0=>fun _ _ _ _ _ _ r h=>by simp [impl_within.l0] at h
  | k + 1=>by
    have ih0:=impl_within.mono_l k
    · intro y0 y1 y2 y3 y4 y5
      unfold impl_within.l0
      repeat' first
      | (with_reducible exact ih0 _ _ _ _ _ _)
      | (with_reducible exact impl_hasInt.mono _ _ _)
      | (with_reducible exact LeO.refl _)
      | (with_reducible exact LeO.none _)
      | (with_reducible refine LeO.ite ?_ ?_)
      | (with_reducible refine LeO.bind ?_ (fun _=>?_))
      | exact ih0 _ _ _ _ _ _
      | exact impl_hasInt.mono _ _ _
      | exact LeO.none _
      | refine LeO.ite ?_ ?_
      | refine LeO.bind ?_ (fun _=>?_)
theorem impl_within.mono : ∀ a0 a1 k,LeO (impl_within.f k a0 a1) (impl_within.f (k + 1) a0 a1):=by
  intro a0 a1 k
  have ih0:=impl_within.mono_l k
  unfold impl_within.f
  repeat' first
      | (with_reducible exact ih0 _ _ _ _ _ _)
      | (with_reducible exact impl_hasInt.mono _ _ _)
      | (with_reducible exact LeO.refl _)
      | (with_reducible exact LeO.none _)
      | (with_reducible refine LeO.ite ?_ ?_)
      | (with_reducible refine LeO.bind ?_ (fun _=>?_))
      | exact ih0 _ _ _ _ _ _
      | exact impl_hasInt.mono _ _ _
      | exact LeO.none _
      | refine LeO.ite ?_ ?_
      | refine LeO.bind ?_ (fun _=>?_)
set_option maxHeartbeats 8000000 in
set_option maxRecDepth 100000 in
theorem impl_within.calls (k : Nat) (A0 : Option Addr) (c0 : Nat) (l0 : List Int) (A1 : Option Addr) (c1 : Nat) (l1 : List Int) (r1 : Bool) (r2 : Bool) (w : World) (hr0 : Kd.C (Kd.int .i64) w A0 l0.length l0) (hc0 : l0.length ≤ c0) (hr1 : Kd.C (Kd.int .i64) w A1 l1.length l1) (hc1 : l1.length ≤ c1) (h : impl_within.f k l0 l1 = some (r1,r2)) :
    Calls Try.prog 59 #[.slice A0 l0.length c0,.slice A1 l1.length c1] w fun e w'=>e = .returned (.tuple #[.bool r1,.bool r2]) ∧ Drawn0 w w':=by
  have HR0:=qn.mk hr0
  have HC0:=qn.mk hc0
  clear hr0 hc0
  have HR1:=qn.mk hr1
  have HC1:=qn.mk hc1
  clear hr1 hc1
  have H : (impl_within.l0 k l1 true true l0 (l0.length : Int) 0) = some (r1,r2):=h
  clear h
  have H':=qn.mk H
  clear H
  go_enter Try.func59,Try.ntmps59
  go_wp2
  go_loopg [6,7,13] k (fun kq v6 v7 v13 w'=>∃ (x6_1 : Bool) (x7_1 : Bool) (x13_1 : Int),v6 = .bool x6_1 ∧ v7 = .bool x7_1 ∧ v13 = .int .i64 x13_1 ∧ qn (impl_within.l0 kq l1 x6_1 x7_1 l0 (l0.length : Int) x13_1 = some (r1,r2)) ∧ qn (kq ≤ k) ∧ Drawn0 w w')
  case atStart=>exact ⟨(true),(true),(0),(by first|rfl|(simp;done)|(simp [*];done)),(by first|rfl|(simp;done)|(simp [*];done)),(by first|rfl|(simp;done)|(simp [*];done)),H',⟨Nat.le_refl _⟩,by repeat (first|exact Drawn0.refl _|apply Drawn0.step)⟩
  case round =>
    clear H'
    try clear c1
    try clear p2
    obtain ⟨x6_1,x7_1,x13_1,rfl,rfl,rfl,HA,HK1,⟨m1,rfl⟩⟩:=hrel
    cases gk with
    | zero=>exact absurd HA.out (by simp [impl_within.l0])
    | succ k1 =>
      have H:=HA.out
      clear HA
      simp only [impl_within.l0] at H
      by_cases c3 : x13_1 < (l0.length : Int)
      · rw [if_pos c3] at H
        have c3b0 : decide (x13_1 < (l0.length : Int)) = true:=decide_eq_true c3
        clear c3
        by_cases c4 : 0 ≤ x13_1
        · rw [if_pos c4] at H
          have c4b0 : decide (0 ≤ x13_1) = true:=decide_eq_true c4
          clear c4
          by_cases c5 : x13_1 < (l0.length : Int)
          · rw [if_pos c5] at H
            have c5b0 : decide (x13_1 < (l0.length : Int)) = true:=decide_eq_true c5
            clear c5
            replace H:=Option.bind_eq_some_iff.mp H
            obtain ⟨t219,A60,H⟩:=H
            replace H : (if x6_1 = true then (if x7_1 = true then (impl_within.l0 k1 l1 t219 (!t219) l0 (l0.length : Int) (wrap64 (x13_1 + 1))) else (impl_within.l0 k1 l1 t219 false l0 (l0.length : Int) (wrap64 (x13_1 + 1)))) else (if x7_1 = true then (impl_within.l0 k1 l1 false (!t219) l0 (l0.length : Int) (wrap64 (x13_1 + 1))) else (impl_within.l0 k1 l1 false false l0 (l0.length : Int) (wrap64 (x13_1 + 1))))) = some (r1,r2):=H
            have A6:=qn.mk A60
            clear A60
            by_cases c7 : x6_1 = true
            · subst c7
              have H1 : (if x7_1 = true then (impl_within.l0 k1 l1 t219 (!t219) l0 (l0.length : Int) (wrap64 (x13_1 + 1))) else (impl_within.l0 k1 l1 t219 false l0 (l0.length : Int) (wrap64 (x13_1 + 1)))) = some (r1,r2):=by rw [if_pos rfl] at H;exact H
              clear H
              have H:=H1
              clear H1
              by_cases c8 : x7_1 = true
              · subst c8
                have H1 : (impl_within.l0 k1 l1 t219 (!t219) l0 (l0.length : Int) (wrap64 (x13_1 + 1))) = some (r1,r2):=by rw [if_pos rfl] at H;exact H
                clear H
                have H:=H1
                clear H1
                have H':=qn.mk H
                clear H
                have p218 : 0 ≤ (x13_1 : Int):=of_decide_eq_true (by first|(with_reducible assumption)|assumption)
                have q218 : x13_1 < (l0.length : Int):=of_decide_eq_true (by first|(with_reducible assumption)|assumption)
                obtain ⟨ad218,e218,hx218_0⟩:=Kd.at_int HR0.out x13_1 p218 q218
                cases e218
                replace p218:=eq_true p218
                replace q218:=eq_true q218
                go_wp2_with (first|((with_reducible refine gate_callee (f:=78) rfl ?_);refine goesL_ (some 19) rfl rfl Try.func78 (by kernel_rfl) rfl #[.slice A1 l1.length c1,.int .i64 (rd l0 x13_1)] rfl (by (try simp only [List.map_toArray,List.map_cons,List.map_nil]);first|done|rfl|(simp only [List.length_drop,List.length_take];rfl)) ?_;(with_reducible refine (impl_hasInt.calls k1 _ _ l1 (rd l0 x13_1) t219 _ ?side1 ?side2 A6.out).mono ?_);(case side1=>repeat (first|exact HR1.out|(with_reducible refine Kd.C_alloc ?_ _)|(with_reducible refine Kd.C_drewN ?_ _)|(with_reducible refine Kd.C_drew ?_)));(case side2=>exact HC1.out);rintro e w' ⟨rfl,⟨nd,rfl⟩⟩;refine ⟨_,rfl,?_⟩))
                go_roundg k1
                case measure=>have:=HK1.out;omega
                case rel=>exact ⟨(t219),(!t219),(wrap64 (x13_1 + 1)),(by first|rfl|(simp;done)|(simp [*];done)),(by first|rfl|(simp;done)|(simp [*];done)),(by first|rfl|(simp;done)|(simp [*];done)),H',⟨by have:=HK1.out;omega⟩,by repeat (first|exact Drawn0.refl _|apply Drawn0.step)⟩
              · replace c8:=Bool.eq_false_iff.mpr c8
                subst c8
                have H1 : (impl_within.l0 k1 l1 t219 false l0 (l0.length : Int) (wrap64 (x13_1 + 1))) = some (r1,r2):=by rw [if_neg (show ¬ (false = true) by decide)] at H;exact H
                clear H
                have H:=H1
                clear H1
                have H':=qn.mk H
                clear H
                have p218 : 0 ≤ (x13_1 : Int):=of_decide_eq_true (by first|(with_reducible assumption)|assumption)
                have q218 : x13_1 < (l0.length : Int):=of_decide_eq_true (by first|(with_reducible assumption)|assumption)
                obtain ⟨ad218,e218,hx218_0⟩:=Kd.at_int HR0.out x13_1 p218 q218
                cases e218
                replace p218:=eq_true p218
                replace q218:=eq_true q218
                go_wp2_with (first|((with_reducible refine gate_callee (f:=78) rfl ?_);refine goesL_ (some 19) rfl rfl Try.func78 (by kernel_rfl) rfl #[.slice A1 l1.length c1,.int .i64 (rd l0 x13_1)] rfl (by (try simp only [List.map_toArray,List.map_cons,List.map_nil]);first|done|rfl|(simp only [List.length_drop,List.length_take];rfl)) ?_;(with_reducible refine (impl_hasInt.calls k1 _ _ l1 (rd l0 x13_1) t219 _ ?side1 ?side2 A6.out).mono ?_);(case side1=>repeat (first|exact HR1.out|(with_reducible refine Kd.C_alloc ?_ _)|(with_reducible refine Kd.C_drewN ?_ _)|(with_reducible refine Kd.C_drew ?_)));(case side2=>exact HC1.out);rintro e w' ⟨rfl,⟨nd,rfl⟩⟩;refine ⟨_,rfl,?_⟩))
                go_roundg k1
                case measure=>have:=HK1.out;omega
                case rel=>exact ⟨(t219),(false),(wrap64 (x13_1 + 1)),(by first|rfl|(simp;done)|(simp [*];done)),(by first|rfl|(simp;done)|(simp [*];done)),(by first|rfl|(simp;done)|(simp [*];done)),H',⟨by have:=HK1.out;omega⟩,by repeat (first|exact Drawn0.refl _|apply Drawn0.step)⟩
            · replace c7:=Bool.eq_false_iff.mpr c7
              subst c7
              have H1 : (if x7_1 = true then (impl_within.l0 k1 l1 false (!t219) l0 (l0.length : Int) (wrap64 (x13_1 + 1))) else (impl_within.l0 k1 l1 false false l0 (l0.length : Int) (wrap64 (x13_1 + 1)))) = some (r1,r2):=by rw [if_neg (show ¬ (false = true) by decide)] at H;exact H
              clear H
              have H:=H1
              clear H1
              by_cases c9 : x7_1 = true
              · subst c9
                have H1 : (impl_within.l0 k1 l1 false (!t219) l0 (l0.length : Int) (wrap64 (x13_1 + 1))) = some (r1,r2):=by rw [if_pos rfl] at H;exact H
                clear H
                have H:=H1
                clear H1
                have H':=qn.mk H
                clear H
                have p218 : 0 ≤ (x13_1 : Int):=of_decide_eq_true (by first|(with_reducible assumption)|assumption)
                have q218 : x13_1 < (l0.length : Int):=of_decide_eq_true (by first|(with_reducible assumption)|assumption)
                obtain ⟨ad218,e218,hx218_0⟩:=Kd.at_int HR0.out x13_1 p218 q218
                cases e218
                replace p218:=eq_true p218
                replace q218:=eq_true q218
                go_wp2_with (first|((with_reducible refine gate_callee (f:=78) rfl ?_);refine goesL_ (some 19) rfl rfl Try.func78 (by kernel_rfl) rfl #[.slice A1 l1.length c1,.int .i64 (rd l0 x13_1)] rfl (by (try simp only [List.map_toArray,List.map_cons,List.map_nil]);first|done|rfl|(simp only [List.length_drop,List.length_take];rfl)) ?_;(with_reducible refine (impl_hasInt.calls k1 _ _ l1 (rd l0 x13_1) t219 _ ?side1 ?side2 A6.out).mono ?_);(case side1=>repeat (first|exact HR1.out|(with_reducible refine Kd.C_alloc ?_ _)|(with_reducible refine Kd.C_drewN ?_ _)|(with_reducible refine Kd.C_drew ?_)));(case side2=>exact HC1.out);rintro e w' ⟨rfl,⟨nd,rfl⟩⟩;refine ⟨_,rfl,?_⟩))
                go_roundg k1
                case measure=>have:=HK1.out;omega
                case rel=>exact ⟨(false),(!t219),(wrap64 (x13_1 + 1)),(by first|rfl|(simp;done)|(simp [*];done)),(by first|rfl|(simp;done)|(simp [*];done)),(by first|rfl|(simp;done)|(simp [*];done)),H',⟨by have:=HK1.out;omega⟩,by repeat (first|exact Drawn0.refl _|apply Drawn0.step)⟩
              · replace c9:=Bool.eq_false_iff.mpr c9
                subst c9
                have H1 : (impl_within.l0 k1 l1 false false l0 (l0.length : Int) (wrap64 (x13_1 + 1))) = some (r1,r2):=by rw [if_neg (show ¬ (false = true) by decide)] at H;exact H
                clear H
                have H:=H1
                clear H1
                have H':=qn.mk H
                clear H
                have p218 : 0 ≤ (x13_1 : Int):=of_decide_eq_true (by first|(with_reducible assumption)|assumption)
                have q218 : x13_1 < (l0.length : Int):=of_decide_eq_true (by first|(with_reducible assumption)|assumption)
                obtain ⟨ad218,e218,hx218_0⟩:=Kd.at_int HR0.out x13_1 p218 q218
                cases e218
                replace p218:=eq_true p218
                replace q218:=eq_true q218
                go_wp2_with (first|((with_reducible refine gate_callee (f:=78) rfl ?_);refine goesL_ (some 19) rfl rfl Try.func78 (by kernel_rfl) rfl #[.slice A1 l1.length c1,.int .i64 (rd l0 x13_1)] rfl (by (try simp only [List.map_toArray,List.map_cons,List.map_nil]);first|done|rfl|(simp only [List.length_drop,List.length_take];rfl)) ?_;(with_reducible refine (impl_hasInt.calls k1 _ _ l1 (rd l0 x13_1) t219 _ ?side1 ?side2 A6.out).mono ?_);(case side1=>repeat (first|exact HR1.out|(with_reducible refine Kd.C_alloc ?_ _)|(with_reducible refine Kd.C_drewN ?_ _)|(with_reducible refine Kd.C_drew ?_)));(case side2=>exact HC1.out);rintro e w' ⟨rfl,⟨nd,rfl⟩⟩;refine ⟨_,rfl,?_⟩))
                go_roundg k1
                case measure=>have:=HK1.out;omega
                case rel=>exact ⟨(false),(false),(wrap64 (x13_1 + 1)),(by first|rfl|(simp;done)|(simp [*];done)),(by first|rfl|(simp;done)|(simp [*];done)),(by first|rfl|(simp;done)|(simp [*];done)),H',⟨by have:=HK1.out;omega⟩,by repeat (first|exact Drawn0.refl _|apply Drawn0.step)⟩
          · rw [if_neg c5] at H
            exact absurd H (by simp)
        · rw [if_neg c4] at H
          exact absurd H (by simp)
      · rw [if_neg c3] at H
        have c3b0 : decide (x13_1 < (l0.length : Int)) = false:=decide_eq_false c3
        clear c3
        simp only [Option.some.injEq,Prod.mk.injEq] at H
        obtain ⟨rfl,rfl⟩:=H
        go_wp2
        go_ret2
        exact ⟨by first|rfl|(simp;done)|(simp [*];done),by repeat (first|exact Drawn0.refl _|apply Drawn0.step)⟩

/-! ### impl_Scalar: function 79 -/
def impl_Scalar.f (a0_0 : Int) (a0_1 : Int) (a0_2 : Int) (a0_3 : Int) (a0_4 : Int) : Option (Int):=some (wrap64 ((wrap64 ((wrap64 (90000 * a0_2)) + (wrap64 (300 * a0_3)))) + a0_4))
set_option maxHeartbeats 8000000 in
set_option maxRecDepth 100000 in
theorem impl_Scalar.calls (a0_0 : Int) (a0_1 : Int) (a0_2 : Int) (a0_3 : Int) (a0_4 : Int) (r : Int) (w : World) (h : impl_Scalar.f a0_0 a0_1 a0_2 a0_3 a0_4 = some r) :
    Calls Try.prog 79 #[.agg #[.int .i64 a0_0,.int .i64 a0_1,.int .i64 a0_2,.int .i64 a0_3,.int .i64 a0_4]] w fun e w'=>e = .returned (.int .i64 r) ∧ Below w.heap.size w w':=by
  have hu101:=Try.underlying101
  have HB:=qn.mk (Below.refl w.heap.size w)
  have H : (some (wrap64 ((wrap64 ((wrap64 (90000 * a0_2)) + (wrap64 (300 * a0_3)))) + a0_4))) = some r:=h
  clear h
  obtain rfl:=Option.some.inj H
  go_enter Try.func79,Try.ntmps79
  go_wp2_with (first|((with_reducible refine gate_dst (N:=1) rfl ?_);refine box_event ?hg (N:=1) ?hd (cs:=#[.int .i64 a0_0,.int .i64 a0_1,.int .i64 a0_2,.int .i64 a0_3,.int .i64 a0_4]) (t:=101) ?hr ?_;(case hd=>rfl);(case hg=>rfl);(case hr=>first|(go_simp;done)|(go_simp;rfl));intro gb220 hg w2 hbox hb;have n0_:=hs_ HB hb;have n1_:=qn.mk (hbox);have n2_:=qn.mk ((by rw [hg];exact (qj (by repeat (first|(with_reducible first|exact HB.out|apply qf|apply qa|apply qd)|exact HB.out))) : w.heap.size ≤ gb220));have n3_:=qn.mk ((by rw [hg];exact (qj (by repeat (first|(with_reducible first|exact HB.out|apply qf|apply qa|apply qd)|exact HB.out))) : w.heap.size ≤ gb220));clear HB;have HB:=n0_;have BK220:=n1_;have GW220:=n2_;have GE220:=n3_;clear n0_ n1_ n2_ n3_;clear hb hbox hg;have hcz3_0 : w2.cell? ⟨gb220,0,none⟩ = some (.int .i64 a0_0):=(qh BK220.out 0).trans rfl;have hcz3_1 : w2.cell? ⟨gb220,1,none⟩ = some (.int .i64 a0_1):=(qh BK220.out 1).trans rfl;have hcz3_2 : w2.cell? ⟨gb220,2,none⟩ = some (.int .i64 a0_2):=(qh BK220.out 2).trans rfl;have hcz3_3 : w2.cell? ⟨gb220,3,none⟩ = some (.int .i64 a0_3):=(qh BK220.out 3).trans rfl;have hcz3_4 : w2.cell? ⟨gb220,4,none⟩ = some (.int .i64 a0_4):=(qh BK220.out 4).trans rfl;have hfz3_0:=qi BK220.out 0;have hfz3_1:=qi BK220.out 1;have hfz3_2:=qi BK220.out 2;have hfz3_3:=qi BK220.out 3;have hfz3_4:=qi BK220.out 4))
  go_ret
  exact ⟨by first|rfl|(simp [errW_none,errW_some] <;> rfl)|(simp [*,errW_none,errW_some] <;> rfl),by repeat (first|(with_reducible first|exact HB.out|apply qf|apply qa|apply qd|refine qg ?_ GE220.out)|exact HB.out)⟩

end Go.Proofs.Ytcdofljgeiohgaa.QFnExactProofOk
