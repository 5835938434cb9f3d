/- Lean functions for the Go functions that the law FnRoots reaches, and that each Go function comes to just its Lean function's answer; by a program of this session. -/
import Derived.Test.YtcdofljgeiohgaaZFnRootsx0
import Derived.Test.YtcdofljgeiohgaaZFnRootsx2
import Derived.Test.YtcdofljgeiohgaaZFnRootsx3
namespace Go.Proofs.Ytcdofljgeiohgaa.QFnRoots
open Go.RowKit Go.Proofs.YtcdofljgeiohgaaW.PrintWords Go.Proofs.YtcdofljgeiohgaaW.PrintLast Go.Proofs.YtcdofljgeiohgaaW.PrintMore
attribute [local go_sem] max2_int min2_int max_two min_two max_three min_three max_four min_four   -- for this text's walks alone
set_option linter.unusedVariables false
set_option linter.unusedSimpArgs false

/-! ### impl_ReadRoot: function 10 -/
def impl_ReadRoot.j0 : Nat → ByteArray → ByteArray → Bool → Option (Int × Int × Bool)
  | 0,_,_,_=>none
  | k + 1,x0,x4,x25=>if x25 = true then (some (0,0,false)) else (if 1 < (x4.size : Int) then (if 2 < (x4.size : Int) then (if 3 < (x4.size : Int) then (if 4 < (x4.size : Int) then (if 5 < (x4.size : Int) then (if 6 < (x4.size : Int) then ((impl_RootText.f k (Go.bits .or .i64 (Go.bits .or .i64 (Go.bits .or .i64 (wrap64 ((wrap64 (bt x4 1)) * 16777216)) (wrap64 ((wrap64 (bt x4 2)) * 65536))) (wrap64 ((wrap64 (bt x4 3)) * 256))) (wrap64 (bt x4 4))) (wrap64 ((wrap64 ((wrap64 ((wrap64 (bt x4 5)) * 256)) + (wrap64 (bt x4 6)))) - 1))).bind fun bt191=>(if bt191.2 = true then (if bt191.1.toList = x0.toList then (some (Go.bits .or .i64 (Go.bits .or .i64 (Go.bits .or .i64 (wrap64 ((wrap64 (bt x4 1)) * 16777216)) (wrap64 ((wrap64 (bt x4 2)) * 65536))) (wrap64 ((wrap64 (bt x4 3)) * 256))) (wrap64 (bt x4 4)),wrap64 ((wrap64 ((wrap64 ((wrap64 (bt x4 5)) * 256)) + (wrap64 (bt x4 6)))) - 1),true)) else (some (0,0,false))) else (some (0,0,false)))) else (none)) else (none)) else (none)) else (none)) else (none)) else (none))
def impl_ReadRoot.f (k : Nat) (a0 : ByteArray) : Option (Int × Int × Bool):=(impl_Unsealed.f k a0).bind fun bt188=>(if bt188.2 = true then (if (bt188.1.size : Int) = 7 then (if 0 < (bt188.1.size : Int) then (impl_ReadRoot.j0 k a0 bt188.1 ((bt bt188.1 0) != 82)) else (none)) else (impl_ReadRoot.j0 k a0 bt188.1 true)) else (impl_ReadRoot.j0 k a0 bt188.1 true))
theorem impl_ReadRoot.mono_l : ∀ k,(∀ y0 y1 y2,LeO (impl_ReadRoot.j0 k y0 y1 y2) (impl_ReadRoot.j0 (k + 1) y0 y1 y2))
  | 0=>fun _ _ _ r h=>by simp [impl_ReadRoot.j0] at h
  | k + 1=>by
    have ih0:=impl_ReadRoot.mono_l k
    · intro y0 y1 y2
      unfold impl_ReadRoot.j0
      repeat' first
      | (with_reducible exact ih0 _ _ _)
      | (with_reducible exact impl_RootText.mono _ _ _)
      | (with_reducible exact impl_Unsealed.mono _ _)
      | (with_reducible exact LeO.refl _)
      | (with_reducible exact LeO.none _)
      | (with_reducible refine LeO.ite ?_ ?_)
      | (with_reducible refine LeO.bind ?_ (fun _=>?_))
      | exact ih0 _ _ _
      | exact impl_RootText.mono _ _ _
      | exact impl_Unsealed.mono _ _
      | exact LeO.none _
      | refine LeO.ite ?_ ?_
      | refine LeO.bind ?_ (fun _=>?_)
theorem impl_ReadRoot.mono : ∀ a0 k,LeO (impl_ReadRoot.f k a0) (impl_ReadRoot.f (k + 1) a0):=by
  intro a0 k
  have ih0:=impl_ReadRoot.mono_l k
  unfold impl_ReadRoot.f
  repeat' first
      | (with_reducible exact ih0 _ _ _)
      | (with_reducible exact impl_RootText.mono _ _ _)
      | (with_reducible exact impl_Unsealed.mono _ _)
      | (with_reducible exact LeO.refl _)
      | (with_reducible exact LeO.none _)
      | (with_reducible refine LeO.ite ?_ ?_)
      | (with_reducible refine LeO.bind ?_ (fun _=>?_))
      | exact ih0 _ _ _
      | exact impl_RootText.mono _ _ _
      | exact impl_Unsealed.mono _ _
      | exact LeO.none _
      | refine LeO.ite ?_ ?_
      | refine LeO.bind ?_ (fun _=>?_)
def impl_ReadRoot.T4 : Bool × List (List Nat × List Nat):=(true,[([],[]),([0],[0]),([1],[1]),([2],[2]),([],[]),([4],[4]),([5],[5]),([6],[6]),([3,7],[3,7]),([],[]),([9],[9]),([10],[10]),([11],[11]),([8,12],[8,12]),([],[]),([14],[14]),([15],[15]),([13,16],[13,16]),([17],[17]),([],[]),([19,18,0,1,2,3,4,5,6,7,8,9,10,11,12,13,14,15,16,17,18,19],[18,19])])
def impl_ReadRoot.B4 : List Nat:=[0,1,3,7,0,16,48,112,255,0,512,1536,3584,8191,0,16384,49152,131071,262143,0,1048575]
theorem impl_ReadRoot.tab4 : rtab .any (opsOf Try.f10 4) = impl_ReadRoot.T4:=by kernel_rfl
theorem impl_ReadRoot.bits4 : waitsOk impl_ReadRoot.T4.2 impl_ReadRoot.B4 = true:=by kernel_rfl
def impl_ReadRoot.T5 : Bool × List (List Nat × List Nat):=(true,[([],[]),([0],[0]),([1],[1]),([2],[2]),([],[]),([4],[4]),([5],[5]),([3,6],[3,6]),([7],[7]),([0,1,2,3,4,5,6,7,8],[]),([9,8,0,1,2,3,4,5,6,7,8],[8,9])])
def impl_ReadRoot.B5 : List Nat:=[0,1,3,7,0,16,48,127,255,511,1023]
theorem impl_ReadRoot.tab5 : rtab .any (opsOf Try.f10 5) = impl_ReadRoot.T5:=by kernel_rfl
theorem impl_ReadRoot.bits5 : waitsOk impl_ReadRoot.T5.2 impl_ReadRoot.B5 = true:=by kernel_rfl
set_option maxHeartbeats 8000000 in
set_option maxRecDepth 100000 in
theorem impl_ReadRoot.calls (k : Nat) (a0 : ByteArray) (r1 : Int) (r2 : Int) (r3 : Bool) (w : World) (h : impl_ReadRoot.f k a0 = some (r1,r2,r3)) :
    Calls Try.prog 10 #[.string a0] w fun e w'=>e = .returned (.tuple #[.agg #[.int .i64 r1,.int .i64 r2],.bool r3]) ∧ Below w.heap.size w w':=by
  have hu25:=Try.underlying25
  have HB:=qn.mk (Below.refl w.heap.size w)
  have H : ((impl_Unsealed.f k a0).bind fun bt188=>(if bt188.2 = true then (if (bt188.1.size : Int) = 7 then (if 0 < (bt188.1.size : Int) then (impl_ReadRoot.j0 k a0 bt188.1 ((bt bt188.1 0) != 82)) else (none)) else (impl_ReadRoot.j0 k a0 bt188.1 true)) else (impl_ReadRoot.j0 k a0 bt188.1 true))) = some (r1,r2,r3):=h
  clear h
  replace H:=Option.bind_eq_some_iff.mp H
  obtain ⟨⟨t188,t189⟩,A20,H⟩:=H
  replace H : (if t189 = true then (if (t188.size : Int) = 7 then (if 0 < (t188.size : Int) then (impl_ReadRoot.j0 k a0 t188 ((bt t188 0) != 82)) else (none)) else (impl_ReadRoot.j0 k a0 t188 true)) else (impl_ReadRoot.j0 k a0 t188 true)) = some (r1,r2,r3):=H
  have A2:=qn.mk A20
  clear A20
  have HC3:=qn.mk H
  clear H
  go_enter Try.func10,Try.ntmps10
  go_upto_region 2 with (first|((with_reducible refine gate_dst (N:=2) rfl ?_);(try (refine gate_guard (by rfl) ?_;dsimp only));refine box_event ?hg (N:=2) ?hd (cs:=#[.int .i64 0,.int .i64 0]) (t:=25) ?hr ?_;(case hd=>rfl);(case hg=>rfl);(case hr=>first|(go_simp;done)|(go_simp;rfl));intro gb187 hg w4 hbox hb;have n0_:=hs_ HB hb;have n1_:=qn.mk (hbox);have n2_:=qn.mk ((by rw [hg];exact (qj (by repeat (first|(with_reducible first|exact HB.out|apply qf|apply qa|apply qd)|exact HB.out))) : w.heap.size ≤ gb187));have n3_:=qn.mk ((by rw [hg];exact (qj (by repeat (first|(with_reducible first|exact HB.out|apply qf|apply qa|apply qd)|exact HB.out))) : w.heap.size ≤ gb187));clear HB;have HB:=n0_;have BK187:=n1_;have GW187:=n2_;have GE187:=n3_;clear n0_ n1_ n2_ n3_;clear hb hbox hg)|((with_reducible refine gate_callee (f:=33) rfl ?_);refine goesL_ (some 11) rfl rfl Try.func33 (by kernel_rfl) rfl #[.string a0] rfl (by (try simp only [List.map_toArray,List.map_cons,List.map_nil]);first|done|rfl|(simp only [List.length_drop,List.length_take];rfl)) ?_;(with_reducible refine (impl_Unsealed.calls k a0 t188 t189 _ A2.out).mono ?_);rintro e w5 ⟨rfl,hb⟩;refine ⟨_,rfl,?_⟩;have n0_:=bb_ BK187 hb;have n1_:=hs_ HB hb;clear BK187;clear HB;have BK187:=n0_;have HB:=n1_;clear n0_ n1_;(try clear hb);(try clear hb2);(try clear hk);(try clear hi)))
  (try simp only [Act.put,List.setIfInBounds_toArray,List.set_cons_zero,List.set_cons_succ])
  go_cut [25] (fun v25 wc=>∃ (kq : Nat) (x25_2 : Bool),v25 = .bool x25_2 ∧ qn (impl_ReadRoot.j0 kq a0 t188 x25_2 = some (r1,r2,r3)) ∧ qn (kq ≤ k) ∧ qn (wc.heap[gb187]? = some (.cells #[.int .i64 0,.int .i64 0] 25 (0,0))) ∧ qn (Below w.heap.size w wc))
  case first =>
    have H:=HC3.out
    clear HC3
    by_cases c6 : t189 = true
    · subst c6
      have H1 : (if (t188.size : Int) = 7 then (if 0 < (t188.size : Int) then (impl_ReadRoot.j0 k a0 t188 ((bt t188 0) != 82)) else (none)) else (impl_ReadRoot.j0 k a0 t188 true)) = some (r1,r2,r3):=by rw [if_pos rfl] at H;exact H
      clear H
      have H:=H1
      clear H1
      by_cases c7 : (t188.size : Int) = 7
      · rw [if_pos c7] at H
        have c7b0 : ((t188.size : Int) == 7) = true:=beq_iff_eq.mpr c7
        have c7b1 : ((t188.size : Int) != 7) = false:=bne_eq_false_iff_eq.mpr c7
        clear c7
        (first|rw [c7b0]|(simp only [i64_w,i32_w];rw [c7b0])|skip)
        by_cases c8 : 0 < (t188.size : Int)
        · rw [if_pos c8] at H
          have c8b0 : decide (0 < (t188.size : Int)) = true:=decide_eq_true c8
          have c8b1 : decide (0 < t188.size) = true:=decide_eq_true (by omega)
          clear c8
          have H':=qn.mk H
          clear H
          have p9 : 0 ≤ (0 : Int):=(by omega)
          have q9 : 0 < t188.size:=(by have : (0 : Int) < (t188.size : Int):=of_decide_eq_true (by first|(with_reducible assumption)|assumption);omega)
          have hx9 : ∀ h : 0 < t188.size,((t188[0]'h).toNat : Int) = bt t188 0:=bt_at t188 0
          clear p9
          have qi9 : (0 < (t188.size : Int)) = True:=eq_true (of_decide_eq_true (by first|(with_reducible assumption)|assumption))
          replace q9:=eq_true q9
          go_wp2
          go_meet
          case rel=>exact ⟨_,(((bt t188 0) != 82)),(by first|rfl|(simp;done)|(simp [*];done)),H',⟨by first|omega|exact Nat.le_refl _⟩,⟨by (with_reducible repeat (first|refine qb ?_ _|refine qe ?_|refine qc ?_ _));exact BK187.out⟩,⟨by repeat (first|(with_reducible first|exact HB.out|apply qf|apply qa|apply qd|refine qg ?_ GE187.out)|exact HB.out)⟩⟩
        · rw [if_neg c8] at H
          exact absurd H (by simp)
      · rw [if_neg c7] at H
        have c7b0 : ((t188.size : Int) == 7) = false:=beq_eq_false_iff_ne.mpr c7
        have c7b1 : ((t188.size : Int) != 7) = true:=bne_iff_ne.mpr c7
        (first|rw [c7b0]|(simp only [i64_w,i32_w];rw [c7b0])|skip)
        have H':=qn.mk H
        clear H
        go_wp2
        go_meet
        case rel=>exact ⟨_,(true),(by first|rfl|(simp;done)|(simp [*];done)),H',⟨by first|omega|exact Nat.le_refl _⟩,⟨by (with_reducible repeat (first|refine qb ?_ _|refine qe ?_|refine qc ?_ _));exact BK187.out⟩,⟨by repeat (first|(with_reducible first|exact HB.out|apply qf|apply qa|apply qd|refine qg ?_ GE187.out)|exact HB.out)⟩⟩
    · replace c6:=Bool.eq_false_iff.mpr c6
      subst c6
      have H1 : (impl_ReadRoot.j0 k a0 t188 true) = some (r1,r2,r3):=by rw [if_neg (show ¬ (false = true) by decide)] at H;exact H
      clear H
      have H:=H1
      clear H1
      have H':=qn.mk H
      clear H
      go_wp2
      go_meet
      case rel=>exact ⟨_,(true),(by first|rfl|(simp;done)|(simp [*];done)),H',⟨by first|omega|exact Nat.le_refl _⟩,⟨by (with_reducible repeat (first|refine qb ?_ _|refine qe ?_|refine qc ?_ _));exact BK187.out⟩,⟨by repeat (first|(with_reducible first|exact HB.out|apply qf|apply qa|apply qd|refine qg ?_ GE187.out)|exact HB.out)⟩⟩
  case rest =>
    clear HC3
    try clear c1
    try clear p2
    try clear c3
    try clear c6
    try clear c7
    try clear c7b0
    try clear c7b1
    try clear c8
    try clear c8b0
    try clear c8b1
    try clear p9
    try clear q9
    try clear hx9
    try clear qi9
    try clear p9
    try clear q9
    obtain ⟨kq,x25_2,rfl,HA,HJ2,BK187,HB⟩:=hcut
    cases kq with
    | zero=>exact absurd HA.out (by simp [impl_ReadRoot.j0])
    | succ kj2 =>
      have H:=HA.out
      clear HA
      simp only [impl_ReadRoot.j0] at H
      by_cases c10 : x25_2 = true
      · subst c10
        have H1 : (some (0,0,false)) = some (r1,r2,r3):=by rw [if_pos rfl] at H;exact H
        clear H
        have H:=H1
        clear H1
        simp only [Option.some.injEq,Prod.mk.injEq] at H
        obtain ⟨rfl,rfl,rfl⟩:=H
        have hcz11_0 : wc.cell? ⟨gb187,0,none⟩ = some (.int .i64 0):=(qh BK187.out 0).trans rfl
        have hcz11_1 : wc.cell? ⟨gb187,1,none⟩ = some (.int .i64 0):=(qh BK187.out 1).trans rfl
        have hfz11_0:=qi BK187.out 0
        have hfz11_1:=qi BK187.out 1
        go_wp2
        refine bodyPost_ret (results_ct rfl _ _ gb187 25 #[.int .i64 0,.int .i64 0] (0,0) _ rfl (by (with_reducible repeat (first|refine qb ?_ _|refine qe ?_|refine qc ?_ _));refine blk_put (cs:=#[.int .i64 0,.int .i64 0]) ?_ 1 _ rfl;(with_reducible repeat (first|refine qb ?_ _|refine qe ?_|refine qc ?_ _));refine blk_put (cs:=#[.int .i64 0,.int .i64 0]) ?_ 0 _ rfl;(with_reducible repeat (first|refine qb ?_ _|refine qe ?_|refine qc ?_ _));exact BK187.out) Try.underlying25 rfl (by kernel_rfl)) rfl ?_
        exact ⟨by first|rfl|(simp [errW_none,errW_some] <;> rfl)|(simp [*,errW_none,errW_some] <;> rfl),by repeat (first|(with_reducible first|exact HB.out|apply qf|apply qa|apply qd|refine qg ?_ GE187.out)|exact HB.out)⟩
      · replace c10:=Bool.eq_false_iff.mpr c10
        subst c10
        have H1 : (if 1 < (t188.size : Int) then (if 2 < (t188.size : Int) then (if 3 < (t188.size : Int) then (if 4 < (t188.size : Int) then (if 5 < (t188.size : Int) then (if 6 < (t188.size : Int) then ((impl_RootText.f kj2 (Go.bits .or .i64 (Go.bits .or .i64 (Go.bits .or .i64 (wrap64 ((wrap64 (bt t188 1)) * 16777216)) (wrap64 ((wrap64 (bt t188 2)) * 65536))) (wrap64 ((wrap64 (bt t188 3)) * 256))) (wrap64 (bt t188 4))) (wrap64 ((wrap64 ((wrap64 ((wrap64 (bt t188 5)) * 256)) + (wrap64 (bt t188 6)))) - 1))).bind fun bt191=>(if bt191.2 = true then (if bt191.1.toList = a0.toList then (some (Go.bits .or .i64 (Go.bits .or .i64 (Go.bits .or .i64 (wrap64 ((wrap64 (bt t188 1)) * 16777216)) (wrap64 ((wrap64 (bt t188 2)) * 65536))) (wrap64 ((wrap64 (bt t188 3)) * 256))) (wrap64 (bt t188 4)),wrap64 ((wrap64 ((wrap64 ((wrap64 (bt t188 5)) * 256)) + (wrap64 (bt t188 6)))) - 1),true)) else (some (0,0,false))) else (some (0,0,false)))) else (none)) else (none)) else (none)) else (none)) else (none)) else (none)) = some (r1,r2,r3):=by rw [if_neg (show ¬ (false = true) by decide)] at H;exact H
        clear H
        have H:=H1
        clear H1
        by_cases c12 : 1 < (t188.size : Int)
        · rw [if_pos c12] at H
          have c12b0 : decide (1 < (t188.size : Int)) = true:=decide_eq_true c12
          have c12b1 : decide (1 < t188.size) = true:=decide_eq_true (by omega)
          clear c12
          by_cases c14 : 2 < (t188.size : Int)
          · rw [if_pos c14] at H
            have c14b0 : decide (2 < (t188.size : Int)) = true:=decide_eq_true c14
            have c14b1 : decide (2 < t188.size) = true:=decide_eq_true (by omega)
            clear c14
            by_cases c16 : 3 < (t188.size : Int)
            · rw [if_pos c16] at H
              have c16b0 : decide (3 < (t188.size : Int)) = true:=decide_eq_true c16
              have c16b1 : decide (3 < t188.size) = true:=decide_eq_true (by omega)
              clear c16
              by_cases c18 : 4 < (t188.size : Int)
              · rw [if_pos c18] at H
                have c18b0 : decide (4 < (t188.size : Int)) = true:=decide_eq_true c18
                have c18b1 : decide (4 < t188.size) = true:=decide_eq_true (by omega)
                clear c18
                by_cases c20 : 5 < (t188.size : Int)
                · rw [if_pos c20] at H
                  have c20b0 : decide (5 < (t188.size : Int)) = true:=decide_eq_true c20
                  have c20b1 : decide (5 < t188.size) = true:=decide_eq_true (by omega)
                  clear c20
                  by_cases c22 : 6 < (t188.size : Int)
                  · rw [if_pos c22] at H
                    have c22b0 : decide (6 < (t188.size : Int)) = true:=decide_eq_true c22
                    have c22b1 : decide (6 < t188.size) = true:=decide_eq_true (by omega)
                    clear c22
                    replace H:=Option.bind_eq_some_iff.mp H
                    obtain ⟨⟨t191,t192⟩,A240,H⟩:=H
                    replace H : (if t192 = true then (if t191.toList = a0.toList then (some (Go.bits .or .i64 (Go.bits .or .i64 (Go.bits .or .i64 (wrap64 ((wrap64 (bt t188 1)) * 16777216)) (wrap64 ((wrap64 (bt t188 2)) * 65536))) (wrap64 ((wrap64 (bt t188 3)) * 256))) (wrap64 (bt t188 4)),wrap64 ((wrap64 ((wrap64 ((wrap64 (bt t188 5)) * 256)) + (wrap64 (bt t188 6)))) - 1),true)) else (some (0,0,false))) else (some (0,0,false))) = some (r1,r2,r3):=H
                    have A24:=qn.mk A240
                    clear A240
                    by_cases c25 : t192 = true
                    · subst c25
                      have H1 : (if t191.toList = a0.toList then (some (Go.bits .or .i64 (Go.bits .or .i64 (Go.bits .or .i64 (wrap64 ((wrap64 (bt t188 1)) * 16777216)) (wrap64 ((wrap64 (bt t188 2)) * 65536))) (wrap64 ((wrap64 (bt t188 3)) * 256))) (wrap64 (bt t188 4)),wrap64 ((wrap64 ((wrap64 ((wrap64 (bt t188 5)) * 256)) + (wrap64 (bt t188 6)))) - 1),true)) else (some (0,0,false))) = some (r1,r2,r3):=by rw [if_pos rfl] at H;exact H
                      clear H
                      have H:=H1
                      clear H1
                      by_cases c26 : t191.toList = a0.toList
                      · rw [if_pos c26] at H
                        have c26b0 : (t191.toList == a0.toList) = true:=beq_iff_eq.mpr c26
                        have c26b1 : (t191.toList != a0.toList) = false:=bne_eq_false_iff_eq.mpr c26
                        clear c26
                        simp only [Option.some.injEq,Prod.mk.injEq] at H
                        obtain ⟨rfl,rfl,rfl⟩:=H
                        try go_wp2
                        have n0_:=qn.mk (qe BK187.out)
                        have n1_:=qn.mk (qd HB.out)
                        clear BK187
                        clear HB
                        have BK187:=n0_
                        have HB:=n1_
                        clear n0_ n1_
                        have p13 : 0 ≤ (1 : Int):=(by omega)
                        have q13 : 1 < t188.size:=(by have : (1 : Int) < (t188.size : Int):=of_decide_eq_true (by first|(with_reducible assumption)|assumption);omega)
                        have hx13 : ∀ h : 1 < t188.size,((t188[1]'h).toNat : Int) = bt t188 1:=bt_at t188 1
                        clear p13
                        have qi13 : (1 < (t188.size : Int)) = True:=eq_true (of_decide_eq_true (by first|(with_reducible assumption)|assumption))
                        replace q13:=eq_true q13
                        have p15 : 0 ≤ (2 : Int):=(by omega)
                        have q15 : 2 < t188.size:=(by have : (2 : Int) < (t188.size : Int):=of_decide_eq_true (by first|(with_reducible assumption)|assumption);omega)
                        have hx15 : ∀ h : 2 < t188.size,((t188[2]'h).toNat : Int) = bt t188 2:=bt_at t188 2
                        clear p15
                        have qi15 : (2 < (t188.size : Int)) = True:=eq_true (of_decide_eq_true (by first|(with_reducible assumption)|assumption))
                        replace q15:=eq_true q15
                        have p17 : 0 ≤ (3 : Int):=(by omega)
                        have q17 : 3 < t188.size:=(by have : (3 : Int) < (t188.size : Int):=of_decide_eq_true (by first|(with_reducible assumption)|assumption);omega)
                        have hx17 : ∀ h : 3 < t188.size,((t188[3]'h).toNat : Int) = bt t188 3:=bt_at t188 3
                        clear p17
                        have qi17 : (3 < (t188.size : Int)) = True:=eq_true (of_decide_eq_true (by first|(with_reducible assumption)|assumption))
                        replace q17:=eq_true q17
                        have p19 : 0 ≤ (4 : Int):=(by omega)
                        have q19 : 4 < t188.size:=(by have : (4 : Int) < (t188.size : Int):=of_decide_eq_true (by first|(with_reducible assumption)|assumption);omega)
                        have hx19 : ∀ h : 4 < t188.size,((t188[4]'h).toNat : Int) = bt t188 4:=bt_at t188 4
                        clear p19
                        have qi19 : (4 < (t188.size : Int)) = True:=eq_true (of_decide_eq_true (by first|(with_reducible assumption)|assumption))
                        replace q19:=eq_true q19
                        refine start_ (n:=21) (S:=fun w'=>True) (ds:=[]) #[false,false,false,false,false,false,false,false,false,false,false,false,false,false,false,false,false,false,false,false,false] (by kernel_rfl) rfl rfl trivial (fun hHeld=>?_);refine with_tabW impl_ReadRoot.tab4 impl_ReadRoot.bits4 (fun HT_ HW_=>?_)
                        generalize wc.drew = w27 at BK187 HB hHeld ⊢
                        refine pure_ (i:=0) (N:=some 27) (v:=?_) (a':=?_) #[true,false,false,false,false,false,false,false,false,false,false,false,false,false,false,false,false,false,false,false,false] rfl rfl (any_of HT_.out (by kernel_rfl)) (fun _ _ _ h=>h) (Or.inl ⟨by rfl,?_⟩) ?_ ?_
                        rotate_left
                        · intro w'
                          go_simp
                          with_reducible rfl
                        rotate_left
                        · simp only [Act.put,List.setIfInBounds_toArray,List.set_cons_zero,List.set_cons_succ,i64_w,i32_w]
                          rfl
                        refine pure_ (i:=4) (N:=some 31) (v:=?_) (a':=?_) #[true,false,false,false,true,false,false,false,false,false,false,false,false,false,false,false,false,false,false,false,false] rfl rfl (any_of HT_.out (by kernel_rfl)) (fun _ _ _ h=>h) (Or.inl ⟨by rfl,?_⟩) ?_ ?_
                        rotate_left
                        · intro w'
                          go_simp
                          with_reducible rfl
                        rotate_left
                        · simp only [Act.put,List.setIfInBounds_toArray,List.set_cons_zero,List.set_cons_succ,i64_w,i32_w]
                          rfl
                        refine pure_ (i:=9) (N:=some 36) (v:=?_) (a':=?_) #[true,false,false,false,true,false,false,false,false,true,false,false,false,false,false,false,false,false,false,false,false] rfl rfl (any_of HT_.out (by kernel_rfl)) (fun _ _ _ h=>h) (Or.inl ⟨by rfl,?_⟩) ?_ ?_
                        rotate_left
                        · intro w'
                          go_simp
                          with_reducible rfl
                        rotate_left
                        · simp only [Act.put,List.setIfInBounds_toArray,List.set_cons_zero,List.set_cons_succ,i64_w,i32_w]
                          rfl
                        refine pure_ (i:=14) (N:=some 41) (v:=?_) (a':=?_) #[true,false,false,false,true,false,false,false,false,true,false,false,false,false,true,false,false,false,false,false,false] rfl rfl (any_of HT_.out (by kernel_rfl)) (fun _ _ _ h=>h) (Or.inl ⟨by rfl,?_⟩) ?_ ?_
                        rotate_left
                        · intro w'
                          go_simp
                          with_reducible rfl
                        rotate_left
                        · simp only [Act.put,List.setIfInBounds_toArray,List.set_cons_zero,List.set_cons_succ,i64_w,i32_w]
                          rfl
                        refine take_ (i:=1) (N:=some 28) (v:=?_) (a':=?_) #[true,true,false,false,true,false,false,false,false,true,false,false,false,false,true,false,false,false,false,false,false] rfl rfl (take_ofW HT_.out HW_.out (by kernel_rfl)) (fun _ _ _ h=>h) (Or.inl ⟨by rfl,?_⟩) hHeld ?_ ?_
                        rotate_left
                        · intro w' _
                          go_simp
                          with_reducible rfl
                        rotate_left
                        · simp only [Act.put,List.setIfInBounds_toArray,List.set_cons_zero,List.set_cons_succ,i64_w,i32_w]
                          rfl
                        refine pure_ (i:=2) (N:=some 29) (v:=?_) (a':=?_) #[true,true,true,false,true,false,false,false,false,true,false,false,false,false,true,false,false,false,false,false,false] rfl rfl (any_of HT_.out (by kernel_rfl)) (fun _ _ _ h=>h) (Or.inl ⟨by rfl,?_⟩) ?_ ?_
                        rotate_left
                        · intro w'
                          go_simp
                          with_reducible rfl
                        rotate_left
                        · simp only [Act.put,List.setIfInBounds_toArray,List.set_cons_zero,List.set_cons_succ,i64_w,i32_w]
                          rfl
                        refine pure_ (i:=3) (N:=some 30) (v:=?_) (a':=?_) #[true,true,true,true,true,false,false,false,false,true,false,false,false,false,true,false,false,false,false,false,false] rfl rfl (any_of HT_.out (by kernel_rfl)) (fun _ _ _ h=>h) (Or.inl ⟨by rfl,?_⟩) ?_ ?_
                        rotate_left
                        · intro w'
                          go_simp
                          with_reducible rfl
                        rotate_left
                        · simp only [Act.put,List.setIfInBounds_toArray,List.set_cons_zero,List.set_cons_succ,i64_w,i32_w]
                          rfl
                        refine take_ (i:=5) (N:=some 32) (v:=?_) (a':=?_) #[true,true,true,true,true,true,false,false,false,true,false,false,false,false,true,false,false,false,false,false,false] rfl rfl (take_ofW HT_.out HW_.out (by kernel_rfl)) (fun _ _ _ h=>h) (Or.inl ⟨by rfl,?_⟩) hHeld ?_ ?_
                        rotate_left
                        · intro w' _
                          go_simp
                          with_reducible rfl
                        rotate_left
                        · simp only [Act.put,List.setIfInBounds_toArray,List.set_cons_zero,List.set_cons_succ,i64_w,i32_w]
                          rfl
                        refine pure_ (i:=6) (N:=some 33) (v:=?_) (a':=?_) #[true,true,true,true,true,true,true,false,false,true,false,false,false,false,true,false,false,false,false,false,false] rfl rfl (any_of HT_.out (by kernel_rfl)) (fun _ _ _ h=>h) (Or.inl ⟨by rfl,?_⟩) ?_ ?_
                        rotate_left
                        · intro w'
                          go_simp
                          with_reducible rfl
                        rotate_left
                        · simp only [Act.put,List.setIfInBounds_toArray,List.set_cons_zero,List.set_cons_succ,i64_w,i32_w]
                          rfl
                        refine pure_ (i:=7) (N:=some 34) (v:=?_) (a':=?_) #[true,true,true,true,true,true,true,true,false,true,false,false,false,false,true,false,false,false,false,false,false] rfl rfl (any_of HT_.out (by kernel_rfl)) (fun _ _ _ h=>h) (Or.inl ⟨by rfl,?_⟩) ?_ ?_
                        rotate_left
                        · intro w'
                          go_simp
                          with_reducible rfl
                        rotate_left
                        · simp only [Act.put,List.setIfInBounds_toArray,List.set_cons_zero,List.set_cons_succ,i64_w,i32_w]
                          rfl
                        refine pure_ (i:=8) (N:=some 35) (v:=?_) (a':=?_) #[true,true,true,true,true,true,true,true,true,true,false,false,false,false,true,false,false,false,false,false,false] rfl rfl (any_of HT_.out (by kernel_rfl)) (fun _ _ _ h=>h) (Or.inl ⟨by rfl,?_⟩) ?_ ?_
                        rotate_left
                        · intro w'
                          go_simp
                          with_reducible rfl
                        rotate_left
                        · simp only [Act.put,List.setIfInBounds_toArray,List.set_cons_zero,List.set_cons_succ,i64_w,i32_w]
                          rfl
                        refine take_ (i:=10) (N:=some 37) (v:=?_) (a':=?_) #[true,true,true,true,true,true,true,true,true,true,true,false,false,false,true,false,false,false,false,false,false] rfl rfl (take_ofW HT_.out HW_.out (by kernel_rfl)) (fun _ _ _ h=>h) (Or.inl ⟨by rfl,?_⟩) hHeld ?_ ?_
                        rotate_left
                        · intro w' _
                          go_simp
                          with_reducible rfl
                        rotate_left
                        · simp only [Act.put,List.setIfInBounds_toArray,List.set_cons_zero,List.set_cons_succ,i64_w,i32_w]
                          rfl
                        refine pure_ (i:=11) (N:=some 38) (v:=?_) (a':=?_) #[true,true,true,true,true,true,true,true,true,true,true,true,false,false,true,false,false,false,false,false,false] rfl rfl (any_of HT_.out (by kernel_rfl)) (fun _ _ _ h=>h) (Or.inl ⟨by rfl,?_⟩) ?_ ?_
                        rotate_left
                        · intro w'
                          go_simp
                          with_reducible rfl
                        rotate_left
                        · simp only [Act.put,List.setIfInBounds_toArray,List.set_cons_zero,List.set_cons_succ,i64_w,i32_w]
                          rfl
                        refine pure_ (i:=12) (N:=some 39) (v:=?_) (a':=?_) #[true,true,true,true,true,true,true,true,true,true,true,true,true,false,true,false,false,false,false,false,false] rfl rfl (any_of HT_.out (by kernel_rfl)) (fun _ _ _ h=>h) (Or.inl ⟨by rfl,?_⟩) ?_ ?_
                        rotate_left
                        · intro w'
                          go_simp
                          with_reducible rfl
                        rotate_left
                        · simp only [Act.put,List.setIfInBounds_toArray,List.set_cons_zero,List.set_cons_succ,i64_w,i32_w]
                          rfl
                        refine pure_ (i:=13) (N:=some 40) (v:=?_) (a':=?_) #[true,true,true,true,true,true,true,true,true,true,true,true,true,true,true,false,false,false,false,false,false] rfl rfl (any_of HT_.out (by kernel_rfl)) (fun _ _ _ h=>h) (Or.inl ⟨by rfl,?_⟩) ?_ ?_
                        rotate_left
                        · intro w'
                          go_simp
                          with_reducible rfl
                        rotate_left
                        · simp only [Act.put,List.setIfInBounds_toArray,List.set_cons_zero,List.set_cons_succ,i64_w,i32_w]
                          rfl
                        refine take_ (i:=15) (N:=some 42) (v:=?_) (a':=?_) #[true,true,true,true,true,true,true,true,true,true,true,true,true,true,true,true,false,false,false,false,false] rfl rfl (take_ofW HT_.out HW_.out (by kernel_rfl)) (fun _ _ _ h=>h) (Or.inl ⟨by rfl,?_⟩) hHeld ?_ ?_
                        rotate_left
                        · intro w' _
                          go_simp
                          with_reducible rfl
                        rotate_left
                        · simp only [Act.put,List.setIfInBounds_toArray,List.set_cons_zero,List.set_cons_succ,i64_w,i32_w]
                          rfl
                        refine pure_ (i:=16) (N:=some 43) (v:=?_) (a':=?_) #[true,true,true,true,true,true,true,true,true,true,true,true,true,true,true,true,true,false,false,false,false] rfl rfl (any_of HT_.out (by kernel_rfl)) (fun _ _ _ h=>h) (Or.inl ⟨by rfl,?_⟩) ?_ ?_
                        rotate_left
                        · intro w'
                          go_simp
                          with_reducible rfl
                        rotate_left
                        · simp only [Act.put,List.setIfInBounds_toArray,List.set_cons_zero,List.set_cons_succ,i64_w,i32_w]
                          rfl
                        refine pure_ (i:=17) (N:=some 44) (v:=?_) (a':=?_) #[true,true,true,true,true,true,true,true,true,true,true,true,true,true,true,true,true,true,false,false,false] rfl rfl (any_of HT_.out (by kernel_rfl)) (fun _ _ _ h=>h) (Or.inl ⟨by rfl,?_⟩) ?_ ?_
                        rotate_left
                        · intro w'
                          go_simp
                          with_reducible rfl
                        rotate_left
                        · simp only [Act.put,List.setIfInBounds_toArray,List.set_cons_zero,List.set_cons_succ,i64_w,i32_w]
                          rfl
                        refine pure_ (i:=18) (N:=some 45) (v:=?_) (a':=?_) #[true,true,true,true,true,true,true,true,true,true,true,true,true,true,true,true,true,true,true,false,false] rfl rfl (any_of HT_.out (by kernel_rfl)) (fun _ _ _ h=>h) (Or.inl ⟨by rfl,?_⟩) ?_ ?_
                        rotate_left
                        · intro w'
                          go_simp
                          with_reducible rfl
                        rotate_left
                        · simp only [Act.put,List.setIfInBounds_toArray,List.set_cons_zero,List.set_cons_succ,i64_w,i32_w]
                          rfl
                        refine one_ (i:=19) (N:=some 6) #[true,true,true,true,true,true,true,true,true,true,true,true,true,true,true,true,true,true,true,true,false] rfl rfl (one_of HT_.out (by kernel_rfl)) (by decide) (fun K hK=>?_)
                        refine box_step ?hg (N:=6) ?hd (cs:=#[.int .i64 0,.int .i64 0]) (t:=25) ?hr ?_;(case hd=>rfl);(case hg=>rfl);(case hr=>first|(go_simp;done)|(go_simp;rfl))
                        intro gb190 hg w28 hbox hb
                        have n0_:=bb_ BK187 hb
                        have n1_:=hs_ HB hb
                        have n2_:=qn.mk (hbox)
                        have n3_:=qn.mk ((by rw [hg];exact (qj (by repeat (first|(with_reducible first|exact HB.out|apply qf|apply qa|apply qd|refine qg ?_ GE187.out)|exact HB.out))) : w.heap.size ≤ gb190))
                        have n4_:=qn.mk ((by rw [hg];exact (qj (by repeat (first|(with_reducible first|exact HB.out|apply qf|apply qa|apply qd|refine qg ?_ GE187.out)|exact HB.out))) : w.heap.size ≤ gb190))
                        have n5_:=qn.mk ((by rw [hg];exact nl_ BK187 : gb187 ≠ gb190))
                        have n6_:=qn.mk ((by rw [hg];exact ng_ BK187 : gb190 ≠ gb187))
                        clear BK187
                        clear HB
                        have BK187:=n0_
                        have HB:=n1_
                        have BK190:=n2_
                        have GW190:=n3_
                        have GE190:=n4_
                        have NB187_190:=n5_
                        have NB190_187:=n6_
                        clear n0_ n1_ n2_ n3_ n4_ n5_ n6_
                        clear hb hbox hg
                        refine hK.out _ _ trivial (fun hHeld=>?_)
                        clear hK K
                        refine norm_ (a':=?_) ?_ ?_
                        rotate_left
                        · show Act.put _ (some 6) _ = _
                          simp only [Act.put,List.setIfInBounds_toArray,List.set_cons_zero,List.set_cons_succ,i64_w,i32_w]
                          rfl
                        refine one_ (i:=20) (N:=none) #[true,true,true,true,true,true,true,true,true,true,true,true,true,true,true,true,true,true,true,true,true] rfl rfl (one_of HT_.out (by kernel_rfl)) (by decide) (fun K hK=>?_)
                        have hs29 : w28.cell? ⟨gb190,0,none⟩ = some (.int .i64 0):=(qh BK190.out 0).trans rfl
                        have hfs29:=qi BK190.out 0
                        have hns29_0:=NB187_190.out
                        have hms29_0:=NB190_187.out
                        have hs30 : w28.cell? ⟨gb190,1,none⟩ = some (.int .i64 0):=(qh BK190.out 1).trans rfl
                        have hfs30:=qi BK190.out 1
                        have hns30_0:=NB187_190.out
                        have hms30_0:=NB190_187.out
                        refine skip_ (w1:=?_) (by rfl) rfl ?_ ?_
                        rotate_left
                        · go_simp
                          rfl
                        refine hK.out _ _ trivial (fun hHeld=>?_)
                        clear hK K
                        refine done_ (done_of HT_.out (by kernel_rfl)) ?_
                        try go_wp2
                        have n0_ : qn (((w28.setCell ⟨gb190,0,none⟩ (.int .i64 (Go.bits .or .i64 (Go.bits .or .i64 (Go.bits .or .i64 (wrap64 ((wrap64 (bt t188 1)) * 16777216)) (wrap64 ((wrap64 (bt t188 2)) * 65536))) (wrap64 ((wrap64 (bt t188 3)) * 256))) (wrap64 (bt t188 4))))).setCell ⟨gb190,1,none⟩ (.int .i64 0)).heap[gb187]? = some (.cells #[.int .i64 0,.int .i64 0] 25 (0,0))):=⟨by (with_reducible repeat (first|refine qb ?_ _|refine qe ?_|refine qc ?_ _));refine blk_far ?_ NB187_190.out _;(with_reducible repeat (first|refine qb ?_ _|refine qe ?_|refine qc ?_ _));refine blk_far ?_ NB187_190.out _;(with_reducible repeat (first|refine qb ?_ _|refine qe ?_|refine qc ?_ _));exact BK187.out⟩
                        have n1_ : qn (((w28.setCell ⟨gb190,0,none⟩ (.int .i64 (Go.bits .or .i64 (Go.bits .or .i64 (Go.bits .or .i64 (wrap64 ((wrap64 (bt t188 1)) * 16777216)) (wrap64 ((wrap64 (bt t188 2)) * 65536))) (wrap64 ((wrap64 (bt t188 3)) * 256))) (wrap64 (bt t188 4))))).setCell ⟨gb190,1,none⟩ (.int .i64 0)).heap[gb190]? = some (.cells #[.int .i64 (Go.bits .or .i64 (Go.bits .or .i64 (Go.bits .or .i64 (wrap64 ((wrap64 (bt t188 1)) * 16777216)) (wrap64 ((wrap64 (bt t188 2)) * 65536))) (wrap64 ((wrap64 (bt t188 3)) * 256))) (wrap64 (bt t188 4))),.int .i64 0] 25 (0,0))):=⟨by (with_reducible repeat (first|refine qb ?_ _|refine qe ?_|refine qc ?_ _));refine blk_put (cs:=#[.int .i64 (Go.bits .or .i64 (Go.bits .or .i64 (Go.bits .or .i64 (wrap64 ((wrap64 (bt t188 1)) * 16777216)) (wrap64 ((wrap64 (bt t188 2)) * 65536))) (wrap64 ((wrap64 (bt t188 3)) * 256))) (wrap64 (bt t188 4))),.int .i64 0]) ?_ 1 _ rfl;(with_reducible repeat (first|refine qb ?_ _|refine qe ?_|refine qc ?_ _));refine blk_put (cs:=#[.int .i64 0,.int .i64 0]) ?_ 0 _ rfl;(with_reducible repeat (first|refine qb ?_ _|refine qe ?_|refine qc ?_ _));exact BK190.out⟩
                        have n2_ : qn (Below w.heap.size w ((w28.setCell ⟨gb190,0,none⟩ (.int .i64 (Go.bits .or .i64 (Go.bits .or .i64 (Go.bits .or .i64 (wrap64 ((wrap64 (bt t188 1)) * 16777216)) (wrap64 ((wrap64 (bt t188 2)) * 65536))) (wrap64 ((wrap64 (bt t188 3)) * 256))) (wrap64 (bt t188 4))))).setCell ⟨gb190,1,none⟩ (.int .i64 0))):=⟨by repeat (first|(with_reducible first|exact HB.out|apply qf|apply qa|apply qd|refine qg ?_ GE187.out|refine qg ?_ GE190.out)|exact HB.out)⟩
                        (try clear BK187)
                        (try clear BK190)
                        (try clear HB)
                        generalize ((w28.setCell ⟨gb190,0,none⟩ (.int .i64 (Go.bits .or .i64 (Go.bits .or .i64 (Go.bits .or .i64 (wrap64 ((wrap64 (bt t188 1)) * 16777216)) (wrap64 ((wrap64 (bt t188 2)) * 65536))) (wrap64 ((wrap64 (bt t188 3)) * 256))) (wrap64 (bt t188 4))))).setCell ⟨gb190,1,none⟩ (.int .i64 0)) = w31 at n0_ n1_ n2_ ⊢
                        have BK187:=n0_
                        have BK190:=n1_
                        have HB:=n2_
                        clear n0_ n1_ n2_
                        have n0_:=qn.mk (qe BK187.out)
                        have n1_:=qn.mk (qe BK190.out)
                        have n2_:=qn.mk (qd HB.out)
                        clear BK187
                        clear BK190
                        clear HB
                        have BK187:=n0_
                        have BK190:=n1_
                        have HB:=n2_
                        clear n0_ n1_ n2_
                        have p21 : 0 ≤ (5 : Int):=(by omega)
                        have q21 : 5 < t188.size:=(by have : (5 : Int) < (t188.size : Int):=of_decide_eq_true (by first|(with_reducible assumption)|assumption);omega)
                        have hx21 : ∀ h : 5 < t188.size,((t188[5]'h).toNat : Int) = bt t188 5:=bt_at t188 5
                        clear p21
                        have qi21 : (5 < (t188.size : Int)) = True:=eq_true (of_decide_eq_true (by first|(with_reducible assumption)|assumption))
                        replace q21:=eq_true q21
                        have p23 : 0 ≤ (6 : Int):=(by omega)
                        have q23 : 6 < t188.size:=(by have : (6 : Int) < (t188.size : Int):=of_decide_eq_true (by first|(with_reducible assumption)|assumption);omega)
                        have hx23 : ∀ h : 6 < t188.size,((t188[6]'h).toNat : Int) = bt t188 6:=bt_at t188 6
                        clear p23
                        have qi23 : (6 < (t188.size : Int)) = True:=eq_true (of_decide_eq_true (by first|(with_reducible assumption)|assumption))
                        replace q23:=eq_true q23
                        refine start_ (n:=11) (S:=fun w'=>True) (ds:=[]) #[false,false,false,false,false,false,false,false,false,false,false] (by kernel_rfl) rfl rfl trivial (fun hHeld=>?_);refine with_tabW impl_ReadRoot.tab5 impl_ReadRoot.bits5 (fun HT_ HW_=>?_)
                        generalize w31.drew = w32 at BK187 BK190 HB hHeld ⊢
                        refine pure_ (i:=0) (N:=some 46) (v:=?_) (a':=?_) #[true,false,false,false,false,false,false,false,false,false,false] rfl rfl (any_of HT_.out (by kernel_rfl)) (fun _ _ _ h=>h) (Or.inl ⟨by rfl,?_⟩) ?_ ?_
                        rotate_left
                        · intro w'
                          go_simp
                          with_reducible rfl
                        rotate_left
                        · simp only [Act.put,List.setIfInBounds_toArray,List.set_cons_zero,List.set_cons_succ,i64_w,i32_w]
                          rfl
                        refine pure_ (i:=4) (N:=some 50) (v:=?_) (a':=?_) #[true,false,false,false,true,false,false,false,false,false,false] rfl rfl (any_of HT_.out (by kernel_rfl)) (fun _ _ _ h=>h) (Or.inl ⟨by rfl,?_⟩) ?_ ?_
                        rotate_left
                        · intro w'
                          go_simp
                          with_reducible rfl
                        rotate_left
                        · simp only [Act.put,List.setIfInBounds_toArray,List.set_cons_zero,List.set_cons_succ,i64_w,i32_w]
                          rfl
                        refine take_ (i:=1) (N:=some 47) (v:=?_) (a':=?_) #[true,true,false,false,true,false,false,false,false,false,false] rfl rfl (take_ofW HT_.out HW_.out (by kernel_rfl)) (fun _ _ _ h=>h) (Or.inl ⟨by rfl,?_⟩) hHeld ?_ ?_
                        rotate_left
                        · intro w' _
                          go_simp
                          with_reducible rfl
                        rotate_left
                        · simp only [Act.put,List.setIfInBounds_toArray,List.set_cons_zero,List.set_cons_succ,i64_w,i32_w]
                          rfl
                        refine pure_ (i:=2) (N:=some 48) (v:=?_) (a':=?_) #[true,true,true,false,true,false,false,false,false,false,false] rfl rfl (any_of HT_.out (by kernel_rfl)) (fun _ _ _ h=>h) (Or.inl ⟨by rfl,?_⟩) ?_ ?_
                        rotate_left
                        · intro w'
                          go_simp
                          with_reducible rfl
                        rotate_left
                        · simp only [Act.put,List.setIfInBounds_toArray,List.set_cons_zero,List.set_cons_succ,i64_w,i32_w]
                          rfl
                        refine pure_ (i:=3) (N:=some 49) (v:=?_) (a':=?_) #[true,true,true,true,true,false,false,false,false,false,false] rfl rfl (any_of HT_.out (by kernel_rfl)) (fun _ _ _ h=>h) (Or.inl ⟨by rfl,?_⟩) ?_ ?_
                        rotate_left
                        · intro w'
                          go_simp
                          with_reducible rfl
                        rotate_left
                        · simp only [Act.put,List.setIfInBounds_toArray,List.set_cons_zero,List.set_cons_succ,i64_w,i32_w]
                          rfl
                        refine take_ (i:=5) (N:=some 51) (v:=?_) (a':=?_) #[true,true,true,true,true,true,false,false,false,false,false] rfl rfl (take_ofW HT_.out HW_.out (by kernel_rfl)) (fun _ _ _ h=>h) (Or.inl ⟨by rfl,?_⟩) hHeld ?_ ?_
                        rotate_left
                        · intro w' _
                          go_simp
                          with_reducible rfl
                        rotate_left
                        · simp only [Act.put,List.setIfInBounds_toArray,List.set_cons_zero,List.set_cons_succ,i64_w,i32_w]
                          rfl
                        refine pure_ (i:=6) (N:=some 52) (v:=?_) (a':=?_) #[true,true,true,true,true,true,true,false,false,false,false] rfl rfl (any_of HT_.out (by kernel_rfl)) (fun _ _ _ h=>h) (Or.inl ⟨by rfl,?_⟩) ?_ ?_
                        rotate_left
                        · intro w'
                          go_simp
                          with_reducible rfl
                        rotate_left
                        · simp only [Act.put,List.setIfInBounds_toArray,List.set_cons_zero,List.set_cons_succ,i64_w,i32_w]
                          rfl
                        refine pure_ (i:=7) (N:=some 53) (v:=?_) (a':=?_) #[true,true,true,true,true,true,true,true,false,false,false] rfl rfl (any_of HT_.out (by kernel_rfl)) (fun _ _ _ h=>h) (Or.inl ⟨by rfl,?_⟩) ?_ ?_
                        rotate_left
                        · intro w'
                          go_simp
                          with_reducible rfl
                        rotate_left
                        · simp only [Act.put,List.setIfInBounds_toArray,List.set_cons_zero,List.set_cons_succ,i64_w,i32_w]
                          rfl
                        refine pure_ (i:=8) (N:=some 54) (v:=?_) (a':=?_) #[true,true,true,true,true,true,true,true,true,false,false] rfl rfl (any_of HT_.out (by kernel_rfl)) (fun _ _ _ h=>h) (Or.inl ⟨by rfl,?_⟩) ?_ ?_
                        rotate_left
                        · intro w'
                          go_simp
                          with_reducible rfl
                        rotate_left
                        · simp only [Act.put,List.setIfInBounds_toArray,List.set_cons_zero,List.set_cons_succ,i64_w,i32_w]
                          rfl
                        refine pure_ (i:=9) (N:=some 55) (v:=?_) (a':=?_) #[true,true,true,true,true,true,true,true,true,true,false] rfl rfl (any_of HT_.out (by kernel_rfl)) (fun _ _ _ h=>h) (Or.inl ⟨by rfl,?_⟩) ?_ ?_
                        rotate_left
                        · intro w'
                          go_simp
                          with_reducible rfl
                        rotate_left
                        · simp only [Act.put,List.setIfInBounds_toArray,List.set_cons_zero,List.set_cons_succ,i64_w,i32_w]
                          rfl
                        refine one_ (i:=10) (N:=none) #[true,true,true,true,true,true,true,true,true,true,true] rfl rfl (one_of HT_.out (by kernel_rfl)) (by decide) (fun K hK=>?_)
                        have hs33 : w32.cell? ⟨gb190,1,none⟩ = some (.int .i64 0):=(qh BK190.out 1).trans rfl
                        have hfs33:=qi BK190.out 1
                        have hns33_0:=NB187_190.out
                        have hms33_0:=NB190_187.out
                        refine skip_ (w1:=?_) (by rfl) rfl ?_ ?_
                        rotate_left
                        · go_simp
                          rfl
                        refine hK.out _ _ trivial (fun hHeld=>?_)
                        clear hK K
                        refine done_ (done_of HT_.out (by kernel_rfl)) ?_
                        have hnb34:=NB190_187.out
                        have hnc34:=NB187_190.out
                        have hcz35_0 : w32.cell? ⟨gb190,0,none⟩ = some (.int .i64 (Go.bits .or .i64 (Go.bits .or .i64 (Go.bits .or .i64 (wrap64 ((wrap64 (bt t188 1)) * 16777216)) (wrap64 ((wrap64 (bt t188 2)) * 65536))) (wrap64 ((wrap64 (bt t188 3)) * 256))) (wrap64 (bt t188 4)))):=(qh BK190.out 0).trans rfl
                        have hcz35_1 : w32.cell? ⟨gb190,1,none⟩ = some (.int .i64 0):=(qh BK190.out 1).trans rfl
                        have hfz35_0:=qi BK190.out 0
                        have hfz35_1:=qi BK190.out 1
                        try go_wp2_with (first|((with_reducible refine gate_callee (f:=8) rfl ?_);refine goesL_ (some 58) rfl rfl Try.func8 (by kernel_rfl) rfl #[.agg #[.int .i64 (Go.bits .or .i64 (Go.bits .or .i64 (Go.bits .or .i64 (wrap64 ((wrap64 (bt t188 1)) * 16777216)) (wrap64 ((wrap64 (bt t188 2)) * 65536))) (wrap64 ((wrap64 (bt t188 3)) * 256))) (wrap64 (bt t188 4))),.int .i64 (wrap64 ((wrap64 ((wrap64 ((wrap64 (bt t188 5)) * 256)) + (wrap64 (bt t188 6)))) - 1))]] rfl (by (try simp only [List.map_toArray,List.map_cons,List.map_nil]);first|done|rfl|(simp only [List.length_drop,List.length_take];rfl)) ?_;(with_reducible refine (impl_RootText.calls kj2 (Go.bits .or .i64 (Go.bits .or .i64 (Go.bits .or .i64 (wrap64 ((wrap64 (bt t188 1)) * 16777216)) (wrap64 ((wrap64 (bt t188 2)) * 65536))) (wrap64 ((wrap64 (bt t188 3)) * 256))) (wrap64 (bt t188 4))) (wrap64 ((wrap64 ((wrap64 ((wrap64 (bt t188 5)) * 256)) + (wrap64 (bt t188 6)))) - 1)) t191 true _ A24.out).mono ?_);rintro e w36 ⟨rfl,hb⟩;refine ⟨_,rfl,?_⟩;have n0_:=qn.mk (ql (g:=gb187) (o:=.cells #[.int .i64 0,.int .i64 0] 25 (0,0)) (by (with_reducible repeat (first|refine qb ?_ _|refine qe ?_|refine qc ?_ _));refine blk_far ?_ NB187_190.out _;(with_reducible repeat (first|refine qb ?_ _|refine qe ?_|refine qc ?_ _));exact BK187.out) hb);have n1_:=qn.mk (ql (g:=gb190) (o:=.cells #[.int .i64 (Go.bits .or .i64 (Go.bits .or .i64 (Go.bits .or .i64 (wrap64 ((wrap64 (bt t188 1)) * 16777216)) (wrap64 ((wrap64 (bt t188 2)) * 65536))) (wrap64 ((wrap64 (bt t188 3)) * 256))) (wrap64 (bt t188 4))),.int .i64 (wrap64 ((wrap64 ((wrap64 ((wrap64 (bt t188 5)) * 256)) + (wrap64 (bt t188 6)))) - 1))] 25 (0,0)) (by (with_reducible repeat (first|refine qb ?_ _|refine qe ?_|refine qc ?_ _));refine blk_put (cs:=#[.int .i64 (Go.bits .or .i64 (Go.bits .or .i64 (Go.bits .or .i64 (wrap64 ((wrap64 (bt t188 1)) * 16777216)) (wrap64 ((wrap64 (bt t188 2)) * 65536))) (wrap64 ((wrap64 (bt t188 3)) * 256))) (wrap64 (bt t188 4))),.int .i64 0]) ?_ 1 _ rfl;(with_reducible repeat (first|refine qb ?_ _|refine qe ?_|refine qc ?_ _));exact BK190.out) hb);have n2_:=hs_ HB hb;clear BK187;clear BK190;clear HB;have BK187:=n0_;have BK190:=n1_;have HB:=n2_;clear n0_ n1_ n2_;(try clear hb);(try clear hb2);(try clear hk);(try clear hi);have hcz37_0 : w36.cell? ⟨gb190,0,none⟩ = some (.int .i64 (Go.bits .or .i64 (Go.bits .or .i64 (Go.bits .or .i64 (wrap64 ((wrap64 (bt t188 1)) * 16777216)) (wrap64 ((wrap64 (bt t188 2)) * 65536))) (wrap64 ((wrap64 (bt t188 3)) * 256))) (wrap64 (bt t188 4)))):=(qh BK190.out 0).trans rfl;have hcz37_1 : w36.cell? ⟨gb190,1,none⟩ = some (.int .i64 (wrap64 ((wrap64 ((wrap64 ((wrap64 (bt t188 5)) * 256)) + (wrap64 (bt t188 6)))) - 1))):=(qh BK190.out 1).trans rfl;have hfz37_0:=qi BK190.out 0;have hfz37_1:=qi BK190.out 1;have hcz38_0 : w36.cell? ⟨gb187,0,none⟩ = some (.int .i64 0):=(qh BK187.out 0).trans rfl;have hcz38_1 : w36.cell? ⟨gb187,1,none⟩ = some (.int .i64 0):=(qh BK187.out 1).trans rfl;have hfz38_0:=qi BK187.out 0;have hfz38_1:=qi BK187.out 1))
                        refine bodyPost_ret (results_ct rfl _ _ gb187 25 #[.int .i64 (Go.bits .or .i64 (Go.bits .or .i64 (Go.bits .or .i64 (wrap64 ((wrap64 (bt t188 1)) * 16777216)) (wrap64 ((wrap64 (bt t188 2)) * 65536))) (wrap64 ((wrap64 (bt t188 3)) * 256))) (wrap64 (bt t188 4))),.int .i64 (wrap64 ((wrap64 ((wrap64 ((wrap64 (bt t188 5)) * 256)) + (wrap64 (bt t188 6)))) - 1))] (0,0) _ rfl (by (with_reducible repeat (first|refine qb ?_ _|refine qe ?_|refine qc ?_ _));refine blk_put (cs:=#[.int .i64 (Go.bits .or .i64 (Go.bits .or .i64 (Go.bits .or .i64 (wrap64 ((wrap64 (bt t188 1)) * 16777216)) (wrap64 ((wrap64 (bt t188 2)) * 65536))) (wrap64 ((wrap64 (bt t188 3)) * 256))) (wrap64 (bt t188 4))),.int .i64 0]) ?_ 1 _ rfl;(with_reducible repeat (first|refine qb ?_ _|refine qe ?_|refine qc ?_ _));refine blk_put (cs:=#[.int .i64 0,.int .i64 0]) ?_ 0 _ rfl;(with_reducible repeat (first|refine qb ?_ _|refine qe ?_|refine qc ?_ _));exact BK187.out) Try.underlying25 rfl (by kernel_rfl)) rfl ?_
                        exact ⟨by first|rfl|(simp [errW_none,errW_some] <;> rfl)|(simp [*,errW_none,errW_some] <;> rfl),by repeat (first|(with_reducible first|exact HB.out|apply qf|apply qa|apply qd|refine qg ?_ GE187.out|refine qg ?_ GE190.out)|exact HB.out)⟩
                      · rw [if_neg c26] at H
                        have c26b0 : (t191.toList == a0.toList) = false:=beq_eq_false_iff_ne.mpr c26
                        have c26b1 : (t191.toList != a0.toList) = true:=bne_iff_ne.mpr c26
                        simp only [Option.some.injEq,Prod.mk.injEq] at H
                        obtain ⟨rfl,rfl,rfl⟩:=H
                        try go_wp2
                        have n0_:=qn.mk (qe BK187.out)
                        have n1_:=qn.mk (qd HB.out)
                        clear BK187
                        clear HB
                        have BK187:=n0_
                        have HB:=n1_
                        clear n0_ n1_
                        have p13 : 0 ≤ (1 : Int):=(by omega)
                        have q13 : 1 < t188.size:=(by have : (1 : Int) < (t188.size : Int):=of_decide_eq_true (by first|(with_reducible assumption)|assumption);omega)
                        have hx13 : ∀ h : 1 < t188.size,((t188[1]'h).toNat : Int) = bt t188 1:=bt_at t188 1
                        clear p13
                        have qi13 : (1 < (t188.size : Int)) = True:=eq_true (of_decide_eq_true (by first|(with_reducible assumption)|assumption))
                        replace q13:=eq_true q13
                        have p15 : 0 ≤ (2 : Int):=(by omega)
                        have q15 : 2 < t188.size:=(by have : (2 : Int) < (t188.size : Int):=of_decide_eq_true (by first|(with_reducible assumption)|assumption);omega)
                        have hx15 : ∀ h : 2 < t188.size,((t188[2]'h).toNat : Int) = bt t188 2:=bt_at t188 2
                        clear p15
                        have qi15 : (2 < (t188.size : Int)) = True:=eq_true (of_decide_eq_true (by first|(with_reducible assumption)|assumption))
                        replace q15:=eq_true q15
                        have p17 : 0 ≤ (3 : Int):=(by omega)
                        have q17 : 3 < t188.size:=(by have : (3 : Int) < (t188.size : Int):=of_decide_eq_true (by first|(with_reducible assumption)|assumption);omega)
                        have hx17 : ∀ h : 3 < t188.size,((t188[3]'h).toNat : Int) = bt t188 3:=bt_at t188 3
                        clear p17
                        have qi17 : (3 < (t188.size : Int)) = True:=eq_true (of_decide_eq_true (by first|(with_reducible assumption)|assumption))
                        replace q17:=eq_true q17
                        have p19 : 0 ≤ (4 : Int):=(by omega)
                        have q19 : 4 < t188.size:=(by have : (4 : Int) < (t188.size : Int):=of_decide_eq_true (by first|(with_reducible assumption)|assumption);omega)
                        have hx19 : ∀ h : 4 < t188.size,((t188[4]'h).toNat : Int) = bt t188 4:=bt_at t188 4
                        clear p19
                        have qi19 : (4 < (t188.size : Int)) = True:=eq_true (of_decide_eq_true (by first|(with_reducible assumption)|assumption))
                        replace q19:=eq_true q19
                        refine start_ (n:=21) (S:=fun w'=>True) (ds:=[]) #[false,false,false,false,false,false,false,false,false,false,false,false,false,false,false,false,false,false,false,false,false] (by kernel_rfl) rfl rfl trivial (fun hHeld=>?_);refine with_tabW impl_ReadRoot.tab4 impl_ReadRoot.bits4 (fun HT_ HW_=>?_)
                        generalize wc.drew = w39 at BK187 HB hHeld ⊢
                        refine pure_ (i:=0) (N:=some 27) (v:=?_) (a':=?_) #[true,false,false,false,false,false,false,false,false,false,false,false,false,false,false,false,false,false,false,false,false] rfl rfl (any_of HT_.out (by kernel_rfl)) (fun _ _ _ h=>h) (Or.inl ⟨by rfl,?_⟩) ?_ ?_
                        rotate_left
                        · intro w'
                          go_simp
                          with_reducible rfl
                        rotate_left
                        · simp only [Act.put,List.setIfInBounds_toArray,List.set_cons_zero,List.set_cons_succ,i64_w,i32_w]
                          rfl
                        refine pure_ (i:=4) (N:=some 31) (v:=?_) (a':=?_) #[true,false,false,false,true,false,false,false,false,false,false,false,false,false,false,false,false,false,false,false,false] rfl rfl (any_of HT_.out (by kernel_rfl)) (fun _ _ _ h=>h) (Or.inl ⟨by rfl,?_⟩) ?_ ?_
                        rotate_left
                        · intro w'
                          go_simp
                          with_reducible rfl
                        rotate_left
                        · simp only [Act.put,List.setIfInBounds_toArray,List.set_cons_zero,List.set_cons_succ,i64_w,i32_w]
                          rfl
                        refine pure_ (i:=9) (N:=some 36) (v:=?_) (a':=?_) #[true,false,false,false,true,false,false,false,false,true,false,false,false,false,false,false,false,false,false,false,false] rfl rfl (any_of HT_.out (by kernel_rfl)) (fun _ _ _ h=>h) (Or.inl ⟨by rfl,?_⟩) ?_ ?_
                        rotate_left
                        · intro w'
                          go_simp
                          with_reducible rfl
                        rotate_left
                        · simp only [Act.put,List.setIfInBounds_toArray,List.set_cons_zero,List.set_cons_succ,i64_w,i32_w]
                          rfl
                        refine pure_ (i:=14) (N:=some 41) (v:=?_) (a':=?_) #[true,false,false,false,true,false,false,false,false,true,false,false,false,false,true,false,false,false,false,false,false] rfl rfl (any_of HT_.out (by kernel_rfl)) (fun _ _ _ h=>h) (Or.inl ⟨by rfl,?_⟩) ?_ ?_
                        rotate_left
                        · intro w'
                          go_simp
                          with_reducible rfl
                        rotate_left
                        · simp only [Act.put,List.setIfInBounds_toArray,List.set_cons_zero,List.set_cons_succ,i64_w,i32_w]
                          rfl
                        refine take_ (i:=1) (N:=some 28) (v:=?_) (a':=?_) #[true,true,false,false,true,false,false,false,false,true,false,false,false,false,true,false,false,false,false,false,false] rfl rfl (take_ofW HT_.out HW_.out (by kernel_rfl)) (fun _ _ _ h=>h) (Or.inl ⟨by rfl,?_⟩) hHeld ?_ ?_
                        rotate_left
                        · intro w' _
                          go_simp
                          with_reducible rfl
                        rotate_left
                        · simp only [Act.put,List.setIfInBounds_toArray,List.set_cons_zero,List.set_cons_succ,i64_w,i32_w]
                          rfl
                        refine pure_ (i:=2) (N:=some 29) (v:=?_) (a':=?_) #[true,true,true,false,true,false,false,false,false,true,false,false,false,false,true,false,false,false,false,false,false] rfl rfl (any_of HT_.out (by kernel_rfl)) (fun _ _ _ h=>h) (Or.inl ⟨by rfl,?_⟩) ?_ ?_
                        rotate_left
                        · intro w'
                          go_simp
                          with_reducible rfl
                        rotate_left
                        · simp only [Act.put,List.setIfInBounds_toArray,List.set_cons_zero,List.set_cons_succ,i64_w,i32_w]
                          rfl
                        refine pure_ (i:=3) (N:=some 30) (v:=?_) (a':=?_) #[true,true,true,true,true,false,false,false,false,true,false,false,false,false,true,false,false,false,false,false,false] rfl rfl (any_of HT_.out (by kernel_rfl)) (fun _ _ _ h=>h) (Or.inl ⟨by rfl,?_⟩) ?_ ?_
                        rotate_left
                        · intro w'
                          go_simp
                          with_reducible rfl
                        rotate_left
                        · simp only [Act.put,List.setIfInBounds_toArray,List.set_cons_zero,List.set_cons_succ,i64_w,i32_w]
                          rfl
                        refine take_ (i:=5) (N:=some 32) (v:=?_) (a':=?_) #[true,true,true,true,true,true,false,false,false,true,false,false,false,false,true,false,false,false,false,false,false] rfl rfl (take_ofW HT_.out HW_.out (by kernel_rfl)) (fun _ _ _ h=>h) (Or.inl ⟨by rfl,?_⟩) hHeld ?_ ?_
                        rotate_left
                        · intro w' _
                          go_simp
                          with_reducible rfl
                        rotate_left
                        · simp only [Act.put,List.setIfInBounds_toArray,List.set_cons_zero,List.set_cons_succ,i64_w,i32_w]
                          rfl
                        refine pure_ (i:=6) (N:=some 33) (v:=?_) (a':=?_) #[true,true,true,true,true,true,true,false,false,true,false,false,false,false,true,false,false,false,false,false,false] rfl rfl (any_of HT_.out (by kernel_rfl)) (fun _ _ _ h=>h) (Or.inl ⟨by rfl,?_⟩) ?_ ?_
                        rotate_left
                        · intro w'
                          go_simp
                          with_reducible rfl
                        rotate_left
                        · simp only [Act.put,List.setIfInBounds_toArray,List.set_cons_zero,List.set_cons_succ,i64_w,i32_w]
                          rfl
                        refine pure_ (i:=7) (N:=some 34) (v:=?_) (a':=?_) #[true,true,true,true,true,true,true,true,false,true,false,false,false,false,true,false,false,false,false,false,false] rfl rfl (any_of HT_.out (by kernel_rfl)) (fun _ _ _ h=>h) (Or.inl ⟨by rfl,?_⟩) ?_ ?_
                        rotate_left
                        · intro w'
                          go_simp
                          with_reducible rfl
                        rotate_left
                        · simp only [Act.put,List.setIfInBounds_toArray,List.set_cons_zero,List.set_cons_succ,i64_w,i32_w]
                          rfl
                        refine pure_ (i:=8) (N:=some 35) (v:=?_) (a':=?_) #[true,true,true,true,true,true,true,true,true,true,false,false,false,false,true,false,false,false,false,false,false] rfl rfl (any_of HT_.out (by kernel_rfl)) (fun _ _ _ h=>h) (Or.inl ⟨by rfl,?_⟩) ?_ ?_
                        rotate_left
                        · intro w'
                          go_simp
                          with_reducible rfl
                        rotate_left
                        · simp only [Act.put,List.setIfInBounds_toArray,List.set_cons_zero,List.set_cons_succ,i64_w,i32_w]
                          rfl
                        refine take_ (i:=10) (N:=some 37) (v:=?_) (a':=?_) #[true,true,true,true,true,true,true,true,true,true,true,false,false,false,true,false,false,false,false,false,false] rfl rfl (take_ofW HT_.out HW_.out (by kernel_rfl)) (fun _ _ _ h=>h) (Or.inl ⟨by rfl,?_⟩) hHeld ?_ ?_
                        rotate_left
                        · intro w' _
                          go_simp
                          with_reducible rfl
                        rotate_left
                        · simp only [Act.put,List.setIfInBounds_toArray,List.set_cons_zero,List.set_cons_succ,i64_w,i32_w]
                          rfl
                        refine pure_ (i:=11) (N:=some 38) (v:=?_) (a':=?_) #[true,true,true,true,true,true,true,true,true,true,true,true,false,false,true,false,false,false,false,false,false] rfl rfl (any_of HT_.out (by kernel_rfl)) (fun _ _ _ h=>h) (Or.inl ⟨by rfl,?_⟩) ?_ ?_
                        rotate_left
                        · intro w'
                          go_simp
                          with_reducible rfl
                        rotate_left
                        · simp only [Act.put,List.setIfInBounds_toArray,List.set_cons_zero,List.set_cons_succ,i64_w,i32_w]
                          rfl
                        refine pure_ (i:=12) (N:=some 39) (v:=?_) (a':=?_) #[true,true,true,true,true,true,true,true,true,true,true,true,true,false,true,false,false,false,false,false,false] rfl rfl (any_of HT_.out (by kernel_rfl)) (fun _ _ _ h=>h) (Or.inl ⟨by rfl,?_⟩) ?_ ?_
                        rotate_left
                        · intro w'
                          go_simp
                          with_reducible rfl
                        rotate_left
                        · simp only [Act.put,List.setIfInBounds_toArray,List.set_cons_zero,List.set_cons_succ,i64_w,i32_w]
                          rfl
                        refine pure_ (i:=13) (N:=some 40) (v:=?_) (a':=?_) #[true,true,true,true,true,true,true,true,true,true,true,true,true,true,true,false,false,false,false,false,false] rfl rfl (any_of HT_.out (by kernel_rfl)) (fun _ _ _ h=>h) (Or.inl ⟨by rfl,?_⟩) ?_ ?_
                        rotate_left
                        · intro w'
                          go_simp
                          with_reducible rfl
                        rotate_left
                        · simp only [Act.put,List.setIfInBounds_toArray,List.set_cons_zero,List.set_cons_succ,i64_w,i32_w]
                          rfl
                        refine take_ (i:=15) (N:=some 42) (v:=?_) (a':=?_) #[true,true,true,true,true,true,true,true,true,true,true,true,true,true,true,true,false,false,false,false,false] rfl rfl (take_ofW HT_.out HW_.out (by kernel_rfl)) (fun _ _ _ h=>h) (Or.inl ⟨by rfl,?_⟩) hHeld ?_ ?_
                        rotate_left
                        · intro w' _
                          go_simp
                          with_reducible rfl
                        rotate_left
                        · simp only [Act.put,List.setIfInBounds_toArray,List.set_cons_zero,List.set_cons_succ,i64_w,i32_w]
                          rfl
                        refine pure_ (i:=16) (N:=some 43) (v:=?_) (a':=?_) #[true,true,true,true,true,true,true,true,true,true,true,true,true,true,true,true,true,false,false,false,false] rfl rfl (any_of HT_.out (by kernel_rfl)) (fun _ _ _ h=>h) (Or.inl ⟨by rfl,?_⟩) ?_ ?_
                        rotate_left
                        · intro w'
                          go_simp
                          with_reducible rfl
                        rotate_left
                        · simp only [Act.put,List.setIfInBounds_toArray,List.set_cons_zero,List.set_cons_succ,i64_w,i32_w]
                          rfl
                        refine pure_ (i:=17) (N:=some 44) (v:=?_) (a':=?_) #[true,true,true,true,true,true,true,true,true,true,true,true,true,true,true,true,true,true,false,false,false] rfl rfl (any_of HT_.out (by kernel_rfl)) (fun _ _ _ h=>h) (Or.inl ⟨by rfl,?_⟩) ?_ ?_
                        rotate_left
                        · intro w'
                          go_simp
                          with_reducible rfl
                        rotate_left
                        · simp only [Act.put,List.setIfInBounds_toArray,List.set_cons_zero,List.set_cons_succ,i64_w,i32_w]
                          rfl
                        refine pure_ (i:=18) (N:=some 45) (v:=?_) (a':=?_) #[true,true,true,true,true,true,true,true,true,true,true,true,true,true,true,true,true,true,true,false,false] rfl rfl (any_of HT_.out (by kernel_rfl)) (fun _ _ _ h=>h) (Or.inl ⟨by rfl,?_⟩) ?_ ?_
                        rotate_left
                        · intro w'
                          go_simp
                          with_reducible rfl
                        rotate_left
                        · simp only [Act.put,List.setIfInBounds_toArray,List.set_cons_zero,List.set_cons_succ,i64_w,i32_w]
                          rfl
                        refine one_ (i:=19) (N:=some 6) #[true,true,true,true,true,true,true,true,true,true,true,true,true,true,true,true,true,true,true,true,false] rfl rfl (one_of HT_.out (by kernel_rfl)) (by decide) (fun K hK=>?_)
                        refine box_step ?hg (N:=6) ?hd (cs:=#[.int .i64 0,.int .i64 0]) (t:=25) ?hr ?_;(case hd=>rfl);(case hg=>rfl);(case hr=>first|(go_simp;done)|(go_simp;rfl))
                        intro gb190 hg w40 hbox hb
                        have n0_:=bb_ BK187 hb
                        have n1_:=hs_ HB hb
                        have n2_:=qn.mk (hbox)
                        have n3_:=qn.mk ((by rw [hg];exact (qj (by repeat (first|(with_reducible first|exact HB.out|apply qf|apply qa|apply qd|refine qg ?_ GE187.out)|exact HB.out))) : w.heap.size ≤ gb190))
                        have n4_:=qn.mk ((by rw [hg];exact (qj (by repeat (first|(with_reducible first|exact HB.out|apply qf|apply qa|apply qd|refine qg ?_ GE187.out)|exact HB.out))) : w.heap.size ≤ gb190))
                        have n5_:=qn.mk ((by rw [hg];exact nl_ BK187 : gb187 ≠ gb190))
                        have n6_:=qn.mk ((by rw [hg];exact ng_ BK187 : gb190 ≠ gb187))
                        clear BK187
                        clear HB
                        have BK187:=n0_
                        have HB:=n1_
                        have BK190:=n2_
                        have GW190:=n3_
                        have GE190:=n4_
                        have NB187_190:=n5_
                        have NB190_187:=n6_
                        clear n0_ n1_ n2_ n3_ n4_ n5_ n6_
                        clear hb hbox hg
                        refine hK.out _ _ trivial (fun hHeld=>?_)
                        clear hK K
                        refine norm_ (a':=?_) ?_ ?_
                        rotate_left
                        · show Act.put _ (some 6) _ = _
                          simp only [Act.put,List.setIfInBounds_toArray,List.set_cons_zero,List.set_cons_succ,i64_w,i32_w]
                          rfl
                        refine one_ (i:=20) (N:=none) #[true,true,true,true,true,true,true,true,true,true,true,true,true,true,true,true,true,true,true,true,true] rfl rfl (one_of HT_.out (by kernel_rfl)) (by decide) (fun K hK=>?_)
                        have hs41 : w40.cell? ⟨gb190,0,none⟩ = some (.int .i64 0):=(qh BK190.out 0).trans rfl
                        have hfs41:=qi BK190.out 0
                        have hns41_0:=NB187_190.out
                        have hms41_0:=NB190_187.out
                        have hs42 : w40.cell? ⟨gb190,1,none⟩ = some (.int .i64 0):=(qh BK190.out 1).trans rfl
                        have hfs42:=qi BK190.out 1
                        have hns42_0:=NB187_190.out
                        have hms42_0:=NB190_187.out
                        refine skip_ (w1:=?_) (by rfl) rfl ?_ ?_
                        rotate_left
                        · go_simp
                          rfl
                        refine hK.out _ _ trivial (fun hHeld=>?_)
                        clear hK K
                        refine done_ (done_of HT_.out (by kernel_rfl)) ?_
                        try go_wp2
                        have n0_ : qn (((w40.setCell ⟨gb190,0,none⟩ (.int .i64 (Go.bits .or .i64 (Go.bits .or .i64 (Go.bits .or .i64 (wrap64 ((wrap64 (bt t188 1)) * 16777216)) (wrap64 ((wrap64 (bt t188 2)) * 65536))) (wrap64 ((wrap64 (bt t188 3)) * 256))) (wrap64 (bt t188 4))))).setCell ⟨gb190,1,none⟩ (.int .i64 0)).heap[gb187]? = some (.cells #[.int .i64 0,.int .i64 0] 25 (0,0))):=⟨by (with_reducible repeat (first|refine qb ?_ _|refine qe ?_|refine qc ?_ _));refine blk_far ?_ NB187_190.out _;(with_reducible repeat (first|refine qb ?_ _|refine qe ?_|refine qc ?_ _));refine blk_far ?_ NB187_190.out _;(with_reducible repeat (first|refine qb ?_ _|refine qe ?_|refine qc ?_ _));exact BK187.out⟩
                        have n1_ : qn (((w40.setCell ⟨gb190,0,none⟩ (.int .i64 (Go.bits .or .i64 (Go.bits .or .i64 (Go.bits .or .i64 (wrap64 ((wrap64 (bt t188 1)) * 16777216)) (wrap64 ((wrap64 (bt t188 2)) * 65536))) (wrap64 ((wrap64 (bt t188 3)) * 256))) (wrap64 (bt t188 4))))).setCell ⟨gb190,1,none⟩ (.int .i64 0)).heap[gb190]? = some (.cells #[.int .i64 (Go.bits .or .i64 (Go.bits .or .i64 (Go.bits .or .i64 (wrap64 ((wrap64 (bt t188 1)) * 16777216)) (wrap64 ((wrap64 (bt t188 2)) * 65536))) (wrap64 ((wrap64 (bt t188 3)) * 256))) (wrap64 (bt t188 4))),.int .i64 0] 25 (0,0))):=⟨by (with_reducible repeat (first|refine qb ?_ _|refine qe ?_|refine qc ?_ _));refine blk_put (cs:=#[.int .i64 (Go.bits .or .i64 (Go.bits .or .i64 (Go.bits .or .i64 (wrap64 ((wrap64 (bt t188 1)) * 16777216)) (wrap64 ((wrap64 (bt t188 2)) * 65536))) (wrap64 ((wrap64 (bt t188 3)) * 256))) (wrap64 (bt t188 4))),.int .i64 0]) ?_ 1 _ rfl;(with_reducible repeat (first|refine qb ?_ _|refine qe ?_|refine qc ?_ _));refine blk_put (cs:=#[.int .i64 0,.int .i64 0]) ?_ 0 _ rfl;(with_reducible repeat (first|refine qb ?_ _|refine qe ?_|refine qc ?_ _));exact BK190.out⟩
                        have n2_ : qn (Below w.heap.size w ((w40.setCell ⟨gb190,0,none⟩ (.int .i64 (Go.bits .or .i64 (Go.bits .or .i64 (Go.bits .or .i64 (wrap64 ((wrap64 (bt t188 1)) * 16777216)) (wrap64 ((wrap64 (bt t188 2)) * 65536))) (wrap64 ((wrap64 (bt t188 3)) * 256))) (wrap64 (bt t188 4))))).setCell ⟨gb190,1,none⟩ (.int .i64 0))):=⟨by repeat (first|(with_reducible first|exact HB.out|apply qf|apply qa|apply qd|refine qg ?_ GE187.out|refine qg ?_ GE190.out)|exact HB.out)⟩
                        (try clear BK187)
                        (try clear BK190)
                        (try clear HB)
                        generalize ((w40.setCell ⟨gb190,0,none⟩ (.int .i64 (Go.bits .or .i64 (Go.bits .or .i64 (Go.bits .or .i64 (wrap64 ((wrap64 (bt t188 1)) * 16777216)) (wrap64 ((wrap64 (bt t188 2)) * 65536))) (wrap64 ((wrap64 (bt t188 3)) * 256))) (wrap64 (bt t188 4))))).setCell ⟨gb190,1,none⟩ (.int .i64 0)) = w43 at n0_ n1_ n2_ ⊢
                        have BK187:=n0_
                        have BK190:=n1_
                        have HB:=n2_
                        clear n0_ n1_ n2_
                        have n0_:=qn.mk (qe BK187.out)
                        have n1_:=qn.mk (qe BK190.out)
                        have n2_:=qn.mk (qd HB.out)
                        clear BK187
                        clear BK190
                        clear HB
                        have BK187:=n0_
                        have BK190:=n1_
                        have HB:=n2_
                        clear n0_ n1_ n2_
                        have p21 : 0 ≤ (5 : Int):=(by omega)
                        have q21 : 5 < t188.size:=(by have : (5 : Int) < (t188.size : Int):=of_decide_eq_true (by first|(with_reducible assumption)|assumption);omega)
                        have hx21 : ∀ h : 5 < t188.size,((t188[5]'h).toNat : Int) = bt t188 5:=bt_at t188 5
                        clear p21
                        have qi21 : (5 < (t188.size : Int)) = True:=eq_true (of_decide_eq_true (by first|(with_reducible assumption)|assumption))
                        replace q21:=eq_true q21
                        have p23 : 0 ≤ (6 : Int):=(by omega)
                        have q23 : 6 < t188.size:=(by have : (6 : Int) < (t188.size : Int):=of_decide_eq_true (by first|(with_reducible assumption)|assumption);omega)
                        have hx23 : ∀ h : 6 < t188.size,((t188[6]'h).toNat : Int) = bt t188 6:=bt_at t188 6
                        clear p23
                        have qi23 : (6 < (t188.size : Int)) = True:=eq_true (of_decide_eq_true (by first|(with_reducible assumption)|assumption))
                        replace q23:=eq_true q23
                        refine start_ (n:=11) (S:=fun w'=>True) (ds:=[]) #[false,false,false,false,false,false,false,false,false,false,false] (by kernel_rfl) rfl rfl trivial (fun hHeld=>?_);refine with_tabW impl_ReadRoot.tab5 impl_ReadRoot.bits5 (fun HT_ HW_=>?_)
                        generalize w43.drew = w44 at BK187 BK190 HB hHeld ⊢
                        refine pure_ (i:=0) (N:=some 46) (v:=?_) (a':=?_) #[true,false,false,false,false,false,false,false,false,false,false] rfl rfl (any_of HT_.out (by kernel_rfl)) (fun _ _ _ h=>h) (Or.inl ⟨by rfl,?_⟩) ?_ ?_
                        rotate_left
                        · intro w'
                          go_simp
                          with_reducible rfl
                        rotate_left
                        · simp only [Act.put,List.setIfInBounds_toArray,List.set_cons_zero,List.set_cons_succ,i64_w,i32_w]
                          rfl
                        refine pure_ (i:=4) (N:=some 50) (v:=?_) (a':=?_) #[true,false,false,false,true,false,false,false,false,false,false] rfl rfl (any_of HT_.out (by kernel_rfl)) (fun _ _ _ h=>h) (Or.inl ⟨by rfl,?_⟩) ?_ ?_
                        rotate_left
                        · intro w'
                          go_simp
                          with_reducible rfl
                        rotate_left
                        · simp only [Act.put,List.setIfInBounds_toArray,List.set_cons_zero,List.set_cons_succ,i64_w,i32_w]
                          rfl
                        refine take_ (i:=1) (N:=some 47) (v:=?_) (a':=?_) #[true,true,false,false,true,false,false,false,false,false,false] rfl rfl (take_ofW HT_.out HW_.out (by kernel_rfl)) (fun _ _ _ h=>h) (Or.inl ⟨by rfl,?_⟩) hHeld ?_ ?_
                        rotate_left
                        · intro w' _
                          go_simp
                          with_reducible rfl
                        rotate_left
                        · simp only [Act.put,List.setIfInBounds_toArray,List.set_cons_zero,List.set_cons_succ,i64_w,i32_w]
                          rfl
                        refine pure_ (i:=2) (N:=some 48) (v:=?_) (a':=?_) #[true,true,true,false,true,false,false,false,false,false,false] rfl rfl (any_of HT_.out (by kernel_rfl)) (fun _ _ _ h=>h) (Or.inl ⟨by rfl,?_⟩) ?_ ?_
                        rotate_left
                        · intro w'
                          go_simp
                          with_reducible rfl
                        rotate_left
                        · simp only [Act.put,List.setIfInBounds_toArray,List.set_cons_zero,List.set_cons_succ,i64_w,i32_w]
                          rfl
                        refine pure_ (i:=3) (N:=some 49) (v:=?_) (a':=?_) #[true,true,true,true,true,false,false,false,false,false,false] rfl rfl (any_of HT_.out (by kernel_rfl)) (fun _ _ _ h=>h) (Or.inl ⟨by rfl,?_⟩) ?_ ?_
                        rotate_left
                        · intro w'
                          go_simp
                          with_reducible rfl
                        rotate_left
                        · simp only [Act.put,List.setIfInBounds_toArray,List.set_cons_zero,List.set_cons_succ,i64_w,i32_w]
                          rfl
                        refine take_ (i:=5) (N:=some 51) (v:=?_) (a':=?_) #[true,true,true,true,true,true,false,false,false,false,false] rfl rfl (take_ofW HT_.out HW_.out (by kernel_rfl)) (fun _ _ _ h=>h) (Or.inl ⟨by rfl,?_⟩) hHeld ?_ ?_
                        rotate_left
                        · intro w' _
                          go_simp
                          with_reducible rfl
                        rotate_left
                        · simp only [Act.put,List.setIfInBounds_toArray,List.set_cons_zero,List.set_cons_succ,i64_w,i32_w]
                          rfl
                        refine pure_ (i:=6) (N:=some 52) (v:=?_) (a':=?_) #[true,true,true,true,true,true,true,false,false,false,false] rfl rfl (any_of HT_.out (by kernel_rfl)) (fun _ _ _ h=>h) (Or.inl ⟨by rfl,?_⟩) ?_ ?_
                        rotate_left
                        · intro w'
                          go_simp
                          with_reducible rfl
                        rotate_left
                        · simp only [Act.put,List.setIfInBounds_toArray,List.set_cons_zero,List.set_cons_succ,i64_w,i32_w]
                          rfl
                        refine pure_ (i:=7) (N:=some 53) (v:=?_) (a':=?_) #[true,true,true,true,true,true,true,true,false,false,false] rfl rfl (any_of HT_.out (by kernel_rfl)) (fun _ _ _ h=>h) (Or.inl ⟨by rfl,?_⟩) ?_ ?_
                        rotate_left
                        · intro w'
                          go_simp
                          with_reducible rfl
                        rotate_left
                        · simp only [Act.put,List.setIfInBounds_toArray,List.set_cons_zero,List.set_cons_succ,i64_w,i32_w]
                          rfl
                        refine pure_ (i:=8) (N:=some 54) (v:=?_) (a':=?_) #[true,true,true,true,true,true,true,true,true,false,false] rfl rfl (any_of HT_.out (by kernel_rfl)) (fun _ _ _ h=>h) (Or.inl ⟨by rfl,?_⟩) ?_ ?_
                        rotate_left
                        · intro w'
                          go_simp
                          with_reducible rfl
                        rotate_left
                        · simp only [Act.put,List.setIfInBounds_toArray,List.set_cons_zero,List.set_cons_succ,i64_w,i32_w]
                          rfl
                        refine pure_ (i:=9) (N:=some 55) (v:=?_) (a':=?_) #[true,true,true,true,true,true,true,true,true,true,false] rfl rfl (any_of HT_.out (by kernel_rfl)) (fun _ _ _ h=>h) (Or.inl ⟨by rfl,?_⟩) ?_ ?_
                        rotate_left
                        · intro w'
                          go_simp
                          with_reducible rfl
                        rotate_left
                        · simp only [Act.put,List.setIfInBounds_toArray,List.set_cons_zero,List.set_cons_succ,i64_w,i32_w]
                          rfl
                        refine one_ (i:=10) (N:=none) #[true,true,true,true,true,true,true,true,true,true,true] rfl rfl (one_of HT_.out (by kernel_rfl)) (by decide) (fun K hK=>?_)
                        have hs45 : w44.cell? ⟨gb190,1,none⟩ = some (.int .i64 0):=(qh BK190.out 1).trans rfl
                        have hfs45:=qi BK190.out 1
                        have hns45_0:=NB187_190.out
                        have hms45_0:=NB190_187.out
                        refine skip_ (w1:=?_) (by rfl) rfl ?_ ?_
                        rotate_left
                        · go_simp
                          rfl
                        refine hK.out _ _ trivial (fun hHeld=>?_)
                        clear hK K
                        refine done_ (done_of HT_.out (by kernel_rfl)) ?_
                        have hnb46:=NB190_187.out
                        have hnc46:=NB187_190.out
                        have hcz47_0 : w44.cell? ⟨gb190,0,none⟩ = some (.int .i64 (Go.bits .or .i64 (Go.bits .or .i64 (Go.bits .or .i64 (wrap64 ((wrap64 (bt t188 1)) * 16777216)) (wrap64 ((wrap64 (bt t188 2)) * 65536))) (wrap64 ((wrap64 (bt t188 3)) * 256))) (wrap64 (bt t188 4)))):=(qh BK190.out 0).trans rfl
                        have hcz47_1 : w44.cell? ⟨gb190,1,none⟩ = some (.int .i64 0):=(qh BK190.out 1).trans rfl
                        have hfz47_0:=qi BK190.out 0
                        have hfz47_1:=qi BK190.out 1
                        try go_wp2_with (first|((with_reducible refine gate_callee (f:=8) rfl ?_);refine goesL_ (some 58) rfl rfl Try.func8 (by kernel_rfl) rfl #[.agg #[.int .i64 (Go.bits .or .i64 (Go.bits .or .i64 (Go.bits .or .i64 (wrap64 ((wrap64 (bt t188 1)) * 16777216)) (wrap64 ((wrap64 (bt t188 2)) * 65536))) (wrap64 ((wrap64 (bt t188 3)) * 256))) (wrap64 (bt t188 4))),.int .i64 (wrap64 ((wrap64 ((wrap64 ((wrap64 (bt t188 5)) * 256)) + (wrap64 (bt t188 6)))) - 1))]] rfl (by (try simp only [List.map_toArray,List.map_cons,List.map_nil]);first|done|rfl|(simp only [List.length_drop,List.length_take];rfl)) ?_;(with_reducible refine (impl_RootText.calls kj2 (Go.bits .or .i64 (Go.bits .or .i64 (Go.bits .or .i64 (wrap64 ((wrap64 (bt t188 1)) * 16777216)) (wrap64 ((wrap64 (bt t188 2)) * 65536))) (wrap64 ((wrap64 (bt t188 3)) * 256))) (wrap64 (bt t188 4))) (wrap64 ((wrap64 ((wrap64 ((wrap64 (bt t188 5)) * 256)) + (wrap64 (bt t188 6)))) - 1)) t191 true _ A24.out).mono ?_);rintro e w48 ⟨rfl,hb⟩;refine ⟨_,rfl,?_⟩;have n0_:=qn.mk (ql (g:=gb187) (o:=.cells #[.int .i64 0,.int .i64 0] 25 (0,0)) (by (with_reducible repeat (first|refine qb ?_ _|refine qe ?_|refine qc ?_ _));refine blk_far ?_ NB187_190.out _;(with_reducible repeat (first|refine qb ?_ _|refine qe ?_|refine qc ?_ _));exact BK187.out) hb);have n1_:=qn.mk (ql (g:=gb190) (o:=.cells #[.int .i64 (Go.bits .or .i64 (Go.bits .or .i64 (Go.bits .or .i64 (wrap64 ((wrap64 (bt t188 1)) * 16777216)) (wrap64 ((wrap64 (bt t188 2)) * 65536))) (wrap64 ((wrap64 (bt t188 3)) * 256))) (wrap64 (bt t188 4))),.int .i64 (wrap64 ((wrap64 ((wrap64 ((wrap64 (bt t188 5)) * 256)) + (wrap64 (bt t188 6)))) - 1))] 25 (0,0)) (by (with_reducible repeat (first|refine qb ?_ _|refine qe ?_|refine qc ?_ _));refine blk_put (cs:=#[.int .i64 (Go.bits .or .i64 (Go.bits .or .i64 (Go.bits .or .i64 (wrap64 ((wrap64 (bt t188 1)) * 16777216)) (wrap64 ((wrap64 (bt t188 2)) * 65536))) (wrap64 ((wrap64 (bt t188 3)) * 256))) (wrap64 (bt t188 4))),.int .i64 0]) ?_ 1 _ rfl;(with_reducible repeat (first|refine qb ?_ _|refine qe ?_|refine qc ?_ _));exact BK190.out) hb);have n2_:=hs_ HB hb;clear BK187;clear BK190;clear HB;have BK187:=n0_;have BK190:=n1_;have HB:=n2_;clear n0_ n1_ n2_;(try clear hb);(try clear hb2);(try clear hk);(try clear hi);have hcz49_0 : w48.cell? ⟨gb187,0,none⟩ = some (.int .i64 0):=(qh BK187.out 0).trans rfl;have hcz49_1 : w48.cell? ⟨gb187,1,none⟩ = some (.int .i64 0):=(qh BK187.out 1).trans rfl;have hfz49_0:=qi BK187.out 0;have hfz49_1:=qi BK187.out 1))
                        refine bodyPost_ret (results_ct rfl _ _ gb187 25 #[.int .i64 0,.int .i64 0] (0,0) _ rfl (by (with_reducible repeat (first|refine qb ?_ _|refine qe ?_|refine qc ?_ _));refine blk_put (cs:=#[.int .i64 0,.int .i64 0]) ?_ 1 _ rfl;(with_reducible repeat (first|refine qb ?_ _|refine qe ?_|refine qc ?_ _));refine blk_put (cs:=#[.int .i64 0,.int .i64 0]) ?_ 0 _ rfl;(with_reducible repeat (first|refine qb ?_ _|refine qe ?_|refine qc ?_ _));exact BK187.out) Try.underlying25 rfl (by kernel_rfl)) rfl ?_
                        exact ⟨by first|rfl|(simp [errW_none,errW_some] <;> rfl)|(simp [*,errW_none,errW_some] <;> rfl),by repeat (first|(with_reducible first|exact HB.out|apply qf|apply qa|apply qd|refine qg ?_ GE187.out|refine qg ?_ GE190.out)|exact HB.out)⟩
                    · replace c25:=Bool.eq_false_iff.mpr c25
                      subst c25
                      have H1 : (some (0,0,false)) = some (r1,r2,r3):=by rw [if_neg (show ¬ (false = true) by decide)] at H;exact H
                      clear H
                      have H:=H1
                      clear H1
                      simp only [Option.some.injEq,Prod.mk.injEq] at H
                      obtain ⟨rfl,rfl,rfl⟩:=H
                      try go_wp2
                      have n0_:=qn.mk (qe BK187.out)
                      have n1_:=qn.mk (qd HB.out)
                      clear BK187
                      clear HB
                      have BK187:=n0_
                      have HB:=n1_
                      clear n0_ n1_
                      have p13 : 0 ≤ (1 : Int):=(by omega)
                      have q13 : 1 < t188.size:=(by have : (1 : Int) < (t188.size : Int):=of_decide_eq_true (by first|(with_reducible assumption)|assumption);omega)
                      have hx13 : ∀ h : 1 < t188.size,((t188[1]'h).toNat : Int) = bt t188 1:=bt_at t188 1
                      clear p13
                      have qi13 : (1 < (t188.size : Int)) = True:=eq_true (of_decide_eq_true (by first|(with_reducible assumption)|assumption))
                      replace q13:=eq_true q13
                      have p15 : 0 ≤ (2 : Int):=(by omega)
                      have q15 : 2 < t188.size:=(by have : (2 : Int) < (t188.size : Int):=of_decide_eq_true (by first|(with_reducible assumption)|assumption);omega)
                      have hx15 : ∀ h : 2 < t188.size,((t188[2]'h).toNat : Int) = bt t188 2:=bt_at t188 2
                      clear p15
                      have qi15 : (2 < (t188.size : Int)) = True:=eq_true (of_decide_eq_true (by first|(with_reducible assumption)|assumption))
                      replace q15:=eq_true q15
                      have p17 : 0 ≤ (3 : Int):=(by omega)
                      have q17 : 3 < t188.size:=(by have : (3 : Int) < (t188.size : Int):=of_decide_eq_true (by first|(with_reducible assumption)|assumption);omega)
                      have hx17 : ∀ h : 3 < t188.size,((t188[3]'h).toNat : Int) = bt t188 3:=bt_at t188 3
                      clear p17
                      have qi17 : (3 < (t188.size : Int)) = True:=eq_true (of_decide_eq_true (by first|(with_reducible assumption)|assumption))
                      replace q17:=eq_true q17
                      have p19 : 0 ≤ (4 : Int):=(by omega)
                      have q19 : 4 < t188.size:=(by have : (4 : Int) < (t188.size : Int):=of_decide_eq_true (by first|(with_reducible assumption)|assumption);omega)
                      have hx19 : ∀ h : 4 < t188.size,((t188[4]'h).toNat : Int) = bt t188 4:=bt_at t188 4
                      clear p19
                      have qi19 : (4 < (t188.size : Int)) = True:=eq_true (of_decide_eq_true (by first|(with_reducible assumption)|assumption))
                      replace q19:=eq_true q19
                      refine start_ (n:=21) (S:=fun w'=>True) (ds:=[]) #[false,false,false,false,false,false,false,false,false,false,false,false,false,false,false,false,false,false,false,false,false] (by kernel_rfl) rfl rfl trivial (fun hHeld=>?_);refine with_tabW impl_ReadRoot.tab4 impl_ReadRoot.bits4 (fun HT_ HW_=>?_)
                      generalize wc.drew = w50 at BK187 HB hHeld ⊢
                      refine pure_ (i:=0) (N:=some 27) (v:=?_) (a':=?_) #[true,false,false,false,false,false,false,false,false,false,false,false,false,false,false,false,false,false,false,false,false] rfl rfl (any_of HT_.out (by kernel_rfl)) (fun _ _ _ h=>h) (Or.inl ⟨by rfl,?_⟩) ?_ ?_
                      rotate_left
                      · intro w'
                        go_simp
                        with_reducible rfl
                      rotate_left
                      · simp only [Act.put,List.setIfInBounds_toArray,List.set_cons_zero,List.set_cons_succ,i64_w,i32_w]
                        rfl
                      refine pure_ (i:=4) (N:=some 31) (v:=?_) (a':=?_) #[true,false,false,false,true,false,false,false,false,false,false,false,false,false,false,false,false,false,false,false,false] rfl rfl (any_of HT_.out (by kernel_rfl)) (fun _ _ _ h=>h) (Or.inl ⟨by rfl,?_⟩) ?_ ?_
                      rotate_left
                      · intro w'
                        go_simp
                        with_reducible rfl
                      rotate_left
                      · simp only [Act.put,List.setIfInBounds_toArray,List.set_cons_zero,List.set_cons_succ,i64_w,i32_w]
                        rfl
                      refine pure_ (i:=9) (N:=some 36) (v:=?_) (a':=?_) #[true,false,false,false,true,false,false,false,false,true,false,false,false,false,false,false,false,false,false,false,false] rfl rfl (any_of HT_.out (by kernel_rfl)) (fun _ _ _ h=>h) (Or.inl ⟨by rfl,?_⟩) ?_ ?_
                      rotate_left
                      · intro w'
                        go_simp
                        with_reducible rfl
                      rotate_left
                      · simp only [Act.put,List.setIfInBounds_toArray,List.set_cons_zero,List.set_cons_succ,i64_w,i32_w]
                        rfl
                      refine pure_ (i:=14) (N:=some 41) (v:=?_) (a':=?_) #[true,false,false,false,true,false,false,false,false,true,false,false,false,false,true,false,false,false,false,false,false] rfl rfl (any_of HT_.out (by kernel_rfl)) (fun _ _ _ h=>h) (Or.inl ⟨by rfl,?_⟩) ?_ ?_
                      rotate_left
                      · intro w'
                        go_simp
                        with_reducible rfl
                      rotate_left
                      · simp only [Act.put,List.setIfInBounds_toArray,List.set_cons_zero,List.set_cons_succ,i64_w,i32_w]
                        rfl
                      refine take_ (i:=1) (N:=some 28) (v:=?_) (a':=?_) #[true,true,false,false,true,false,false,false,false,true,false,false,false,false,true,false,false,false,false,false,false] rfl rfl (take_ofW HT_.out HW_.out (by kernel_rfl)) (fun _ _ _ h=>h) (Or.inl ⟨by rfl,?_⟩) hHeld ?_ ?_
                      rotate_left
                      · intro w' _
                        go_simp
                        with_reducible rfl
                      rotate_left
                      · simp only [Act.put,List.setIfInBounds_toArray,List.set_cons_zero,List.set_cons_succ,i64_w,i32_w]
                        rfl
                      refine pure_ (i:=2) (N:=some 29) (v:=?_) (a':=?_) #[true,true,true,false,true,false,false,false,false,true,false,false,false,false,true,false,false,false,false,false,false] rfl rfl (any_of HT_.out (by kernel_rfl)) (fun _ _ _ h=>h) (Or.inl ⟨by rfl,?_⟩) ?_ ?_
                      rotate_left
                      · intro w'
                        go_simp
                        with_reducible rfl
                      rotate_left
                      · simp only [Act.put,List.setIfInBounds_toArray,List.set_cons_zero,List.set_cons_succ,i64_w,i32_w]
                        rfl
                      refine pure_ (i:=3) (N:=some 30) (v:=?_) (a':=?_) #[true,true,true,true,true,false,false,false,false,true,false,false,false,false,true,false,false,false,false,false,false] rfl rfl (any_of HT_.out (by kernel_rfl)) (fun _ _ _ h=>h) (Or.inl ⟨by rfl,?_⟩) ?_ ?_
                      rotate_left
                      · intro w'
                        go_simp
                        with_reducible rfl
                      rotate_left
                      · simp only [Act.put,List.setIfInBounds_toArray,List.set_cons_zero,List.set_cons_succ,i64_w,i32_w]
                        rfl
                      refine take_ (i:=5) (N:=some 32) (v:=?_) (a':=?_) #[true,true,true,true,true,true,false,false,false,true,false,false,false,false,true,false,false,false,false,false,false] rfl rfl (take_ofW HT_.out HW_.out (by kernel_rfl)) (fun _ _ _ h=>h) (Or.inl ⟨by rfl,?_⟩) hHeld ?_ ?_
                      rotate_left
                      · intro w' _
                        go_simp
                        with_reducible rfl
                      rotate_left
                      · simp only [Act.put,List.setIfInBounds_toArray,List.set_cons_zero,List.set_cons_succ,i64_w,i32_w]
                        rfl
                      refine pure_ (i:=6) (N:=some 33) (v:=?_) (a':=?_) #[true,true,true,true,true,true,true,false,false,true,false,false,false,false,true,false,false,false,false,false,false] rfl rfl (any_of HT_.out (by kernel_rfl)) (fun _ _ _ h=>h) (Or.inl ⟨by rfl,?_⟩) ?_ ?_
                      rotate_left
                      · intro w'
                        go_simp
                        with_reducible rfl
                      rotate_left
                      · simp only [Act.put,List.setIfInBounds_toArray,List.set_cons_zero,List.set_cons_succ,i64_w,i32_w]
                        rfl
                      refine pure_ (i:=7) (N:=some 34) (v:=?_) (a':=?_) #[true,true,true,true,true,true,true,true,false,true,false,false,false,false,true,false,false,false,false,false,false] rfl rfl (any_of HT_.out (by kernel_rfl)) (fun _ _ _ h=>h) (Or.inl ⟨by rfl,?_⟩) ?_ ?_
                      rotate_left
                      · intro w'
                        go_simp
                        with_reducible rfl
                      rotate_left
                      · simp only [Act.put,List.setIfInBounds_toArray,List.set_cons_zero,List.set_cons_succ,i64_w,i32_w]
                        rfl
                      refine pure_ (i:=8) (N:=some 35) (v:=?_) (a':=?_) #[true,true,true,true,true,true,true,true,true,true,false,false,false,false,true,false,false,false,false,false,false] rfl rfl (any_of HT_.out (by kernel_rfl)) (fun _ _ _ h=>h) (Or.inl ⟨by rfl,?_⟩) ?_ ?_
                      rotate_left
                      · intro w'
                        go_simp
                        with_reducible rfl
                      rotate_left
                      · simp only [Act.put,List.setIfInBounds_toArray,List.set_cons_zero,List.set_cons_succ,i64_w,i32_w]
                        rfl
                      refine take_ (i:=10) (N:=some 37) (v:=?_) (a':=?_) #[true,true,true,true,true,true,true,true,true,true,true,false,false,false,true,false,false,false,false,false,false] rfl rfl (take_ofW HT_.out HW_.out (by kernel_rfl)) (fun _ _ _ h=>h) (Or.inl ⟨by rfl,?_⟩) hHeld ?_ ?_
                      rotate_left
                      · intro w' _
                        go_simp
                        with_reducible rfl
                      rotate_left
                      · simp only [Act.put,List.setIfInBounds_toArray,List.set_cons_zero,List.set_cons_succ,i64_w,i32_w]
                        rfl
                      refine pure_ (i:=11) (N:=some 38) (v:=?_) (a':=?_) #[true,true,true,true,true,true,true,true,true,true,true,true,false,false,true,false,false,false,false,false,false] rfl rfl (any_of HT_.out (by kernel_rfl)) (fun _ _ _ h=>h) (Or.inl ⟨by rfl,?_⟩) ?_ ?_
                      rotate_left
                      · intro w'
                        go_simp
                        with_reducible rfl
                      rotate_left
                      · simp only [Act.put,List.setIfInBounds_toArray,List.set_cons_zero,List.set_cons_succ,i64_w,i32_w]
                        rfl
                      refine pure_ (i:=12) (N:=some 39) (v:=?_) (a':=?_) #[true,true,true,true,true,true,true,true,true,true,true,true,true,false,true,false,false,false,false,false,false] rfl rfl (any_of HT_.out (by kernel_rfl)) (fun _ _ _ h=>h) (Or.inl ⟨by rfl,?_⟩) ?_ ?_
                      rotate_left
                      · intro w'
                        go_simp
                        with_reducible rfl
                      rotate_left
                      · simp only [Act.put,List.setIfInBounds_toArray,List.set_cons_zero,List.set_cons_succ,i64_w,i32_w]
                        rfl
                      refine pure_ (i:=13) (N:=some 40) (v:=?_) (a':=?_) #[true,true,true,true,true,true,true,true,true,true,true,true,true,true,true,false,false,false,false,false,false] rfl rfl (any_of HT_.out (by kernel_rfl)) (fun _ _ _ h=>h) (Or.inl ⟨by rfl,?_⟩) ?_ ?_
                      rotate_left
                      · intro w'
                        go_simp
                        with_reducible rfl
                      rotate_left
                      · simp only [Act.put,List.setIfInBounds_toArray,List.set_cons_zero,List.set_cons_succ,i64_w,i32_w]
                        rfl
                      refine take_ (i:=15) (N:=some 42) (v:=?_) (a':=?_) #[true,true,true,true,true,true,true,true,true,true,true,true,true,true,true,true,false,false,false,false,false] rfl rfl (take_ofW HT_.out HW_.out (by kernel_rfl)) (fun _ _ _ h=>h) (Or.inl ⟨by rfl,?_⟩) hHeld ?_ ?_
                      rotate_left
                      · intro w' _
                        go_simp
                        with_reducible rfl
                      rotate_left
                      · simp only [Act.put,List.setIfInBounds_toArray,List.set_cons_zero,List.set_cons_succ,i64_w,i32_w]
                        rfl
                      refine pure_ (i:=16) (N:=some 43) (v:=?_) (a':=?_) #[true,true,true,true,true,true,true,true,true,true,true,true,true,true,true,true,true,false,false,false,false] rfl rfl (any_of HT_.out (by kernel_rfl)) (fun _ _ _ h=>h) (Or.inl ⟨by rfl,?_⟩) ?_ ?_
                      rotate_left
                      · intro w'
                        go_simp
                        with_reducible rfl
                      rotate_left
                      · simp only [Act.put,List.setIfInBounds_toArray,List.set_cons_zero,List.set_cons_succ,i64_w,i32_w]
                        rfl
                      refine pure_ (i:=17) (N:=some 44) (v:=?_) (a':=?_) #[true,true,true,true,true,true,true,true,true,true,true,true,true,true,true,true,true,true,false,false,false] rfl rfl (any_of HT_.out (by kernel_rfl)) (fun _ _ _ h=>h) (Or.inl ⟨by rfl,?_⟩) ?_ ?_
                      rotate_left
                      · intro w'
                        go_simp
                        with_reducible rfl
                      rotate_left
                      · simp only [Act.put,List.setIfInBounds_toArray,List.set_cons_zero,List.set_cons_succ,i64_w,i32_w]
                        rfl
                      refine pure_ (i:=18) (N:=some 45) (v:=?_) (a':=?_) #[true,true,true,true,true,true,true,true,true,true,true,true,true,true,true,true,true,true,true,false,false] rfl rfl (any_of HT_.out (by kernel_rfl)) (fun _ _ _ h=>h) (Or.inl ⟨by rfl,?_⟩) ?_ ?_
                      rotate_left
                      · intro w'
                        go_simp
                        with_reducible rfl
                      rotate_left
                      · simp only [Act.put,List.setIfInBounds_toArray,List.set_cons_zero,List.set_cons_succ,i64_w,i32_w]
                        rfl
                      refine one_ (i:=19) (N:=some 6) #[true,true,true,true,true,true,true,true,true,true,true,true,true,true,true,true,true,true,true,true,false] rfl rfl (one_of HT_.out (by kernel_rfl)) (by decide) (fun K hK=>?_)
                      refine box_step ?hg (N:=6) ?hd (cs:=#[.int .i64 0,.int .i64 0]) (t:=25) ?hr ?_;(case hd=>rfl);(case hg=>rfl);(case hr=>first|(go_simp;done)|(go_simp;rfl))
                      intro gb190 hg w51 hbox hb
                      have n0_:=bb_ BK187 hb
                      have n1_:=hs_ HB hb
                      have n2_:=qn.mk (hbox)
                      have n3_:=qn.mk ((by rw [hg];exact (qj (by repeat (first|(with_reducible first|exact HB.out|apply qf|apply qa|apply qd|refine qg ?_ GE187.out)|exact HB.out))) : w.heap.size ≤ gb190))
                      have n4_:=qn.mk ((by rw [hg];exact (qj (by repeat (first|(with_reducible first|exact HB.out|apply qf|apply qa|apply qd|refine qg ?_ GE187.out)|exact HB.out))) : w.heap.size ≤ gb190))
                      have n5_:=qn.mk ((by rw [hg];exact nl_ BK187 : gb187 ≠ gb190))
                      have n6_:=qn.mk ((by rw [hg];exact ng_ BK187 : gb190 ≠ gb187))
                      clear BK187
                      clear HB
                      have BK187:=n0_
                      have HB:=n1_
                      have BK190:=n2_
                      have GW190:=n3_
                      have GE190:=n4_
                      have NB187_190:=n5_
                      have NB190_187:=n6_
                      clear n0_ n1_ n2_ n3_ n4_ n5_ n6_
                      clear hb hbox hg
                      refine hK.out _ _ trivial (fun hHeld=>?_)
                      clear hK K
                      refine norm_ (a':=?_) ?_ ?_
                      rotate_left
                      · show Act.put _ (some 6) _ = _
                        simp only [Act.put,List.setIfInBounds_toArray,List.set_cons_zero,List.set_cons_succ,i64_w,i32_w]
                        rfl
                      refine one_ (i:=20) (N:=none) #[true,true,true,true,true,true,true,true,true,true,true,true,true,true,true,true,true,true,true,true,true] rfl rfl (one_of HT_.out (by kernel_rfl)) (by decide) (fun K hK=>?_)
                      have hs52 : w51.cell? ⟨gb190,0,none⟩ = some (.int .i64 0):=(qh BK190.out 0).trans rfl
                      have hfs52:=qi BK190.out 0
                      have hns52_0:=NB187_190.out
                      have hms52_0:=NB190_187.out
                      have hs53 : w51.cell? ⟨gb190,1,none⟩ = some (.int .i64 0):=(qh BK190.out 1).trans rfl
                      have hfs53:=qi BK190.out 1
                      have hns53_0:=NB187_190.out
                      have hms53_0:=NB190_187.out
                      refine skip_ (w1:=?_) (by rfl) rfl ?_ ?_
                      rotate_left
                      · go_simp
                        rfl
                      refine hK.out _ _ trivial (fun hHeld=>?_)
                      clear hK K
                      refine done_ (done_of HT_.out (by kernel_rfl)) ?_
                      try go_wp2
                      have n0_ : qn (((w51.setCell ⟨gb190,0,none⟩ (.int .i64 (Go.bits .or .i64 (Go.bits .or .i64 (Go.bits .or .i64 (wrap64 ((wrap64 (bt t188 1)) * 16777216)) (wrap64 ((wrap64 (bt t188 2)) * 65536))) (wrap64 ((wrap64 (bt t188 3)) * 256))) (wrap64 (bt t188 4))))).setCell ⟨gb190,1,none⟩ (.int .i64 0)).heap[gb187]? = some (.cells #[.int .i64 0,.int .i64 0] 25 (0,0))):=⟨by (with_reducible repeat (first|refine qb ?_ _|refine qe ?_|refine qc ?_ _));refine blk_far ?_ NB187_190.out _;(with_reducible repeat (first|refine qb ?_ _|refine qe ?_|refine qc ?_ _));refine blk_far ?_ NB187_190.out _;(with_reducible repeat (first|refine qb ?_ _|refine qe ?_|refine qc ?_ _));exact BK187.out⟩
                      have n1_ : qn (((w51.setCell ⟨gb190,0,none⟩ (.int .i64 (Go.bits .or .i64 (Go.bits .or .i64 (Go.bits .or .i64 (wrap64 ((wrap64 (bt t188 1)) * 16777216)) (wrap64 ((wrap64 (bt t188 2)) * 65536))) (wrap64 ((wrap64 (bt t188 3)) * 256))) (wrap64 (bt t188 4))))).setCell ⟨gb190,1,none⟩ (.int .i64 0)).heap[gb190]? = some (.cells #[.int .i64 (Go.bits .or .i64 (Go.bits .or .i64 (Go.bits .or .i64 (wrap64 ((wrap64 (bt t188 1)) * 16777216)) (wrap64 ((wrap64 (bt t188 2)) * 65536))) (wrap64 ((wrap64 (bt t188 3)) * 256))) (wrap64 (bt t188 4))),.int .i64 0] 25 (0,0))):=⟨by (with_reducible repeat (first|refine qb ?_ _|refine qe ?_|refine qc ?_ _));refine blk_put (cs:=#[.int .i64 (Go.bits .or .i64 (Go.bits .or .i64 (Go.bits .or .i64 (wrap64 ((wrap64 (bt t188 1)) * 16777216)) (wrap64 ((wrap64 (bt t188 2)) * 65536))) (wrap64 ((wrap64 (bt t188 3)) * 256))) (wrap64 (bt t188 4))),.int .i64 0]) ?_ 1 _ rfl;(with_reducible repeat (first|refine qb ?_ _|refine qe ?_|refine qc ?_ _));refine blk_put (cs:=#[.int .i64 0,.int .i64 0]) ?_ 0 _ rfl;(with_reducible repeat (first|refine qb ?_ _|refine qe ?_|refine qc ?_ _));exact BK190.out⟩
                      have n2_ : qn (Below w.heap.size w ((w51.setCell ⟨gb190,0,none⟩ (.int .i64 (Go.bits .or .i64 (Go.bits .or .i64 (Go.bits .or .i64 (wrap64 ((wrap64 (bt t188 1)) * 16777216)) (wrap64 ((wrap64 (bt t188 2)) * 65536))) (wrap64 ((wrap64 (bt t188 3)) * 256))) (wrap64 (bt t188 4))))).setCell ⟨gb190,1,none⟩ (.int .i64 0))):=⟨by repeat (first|(with_reducible first|exact HB.out|apply qf|apply qa|apply qd|refine qg ?_ GE187.out|refine qg ?_ GE190.out)|exact HB.out)⟩
                      (try clear BK187)
                      (try clear BK190)
                      (try clear HB)
                      generalize ((w51.setCell ⟨gb190,0,none⟩ (.int .i64 (Go.bits .or .i64 (Go.bits .or .i64 (Go.bits .or .i64 (wrap64 ((wrap64 (bt t188 1)) * 16777216)) (wrap64 ((wrap64 (bt t188 2)) * 65536))) (wrap64 ((wrap64 (bt t188 3)) * 256))) (wrap64 (bt t188 4))))).setCell ⟨gb190,1,none⟩ (.int .i64 0)) = w54 at n0_ n1_ n2_ ⊢
                      have BK187:=n0_
                      have BK190:=n1_
                      have HB:=n2_
                      clear n0_ n1_ n2_
                      have n0_:=qn.mk (qe BK187.out)
                      have n1_:=qn.mk (qe BK190.out)
                      have n2_:=qn.mk (qd HB.out)
                      clear BK187
                      clear BK190
                      clear HB
                      have BK187:=n0_
                      have BK190:=n1_
                      have HB:=n2_
                      clear n0_ n1_ n2_
                      have p21 : 0 ≤ (5 : Int):=(by omega)
                      have q21 : 5 < t188.size:=(by have : (5 : Int) < (t188.size : Int):=of_decide_eq_true (by first|(with_reducible assumption)|assumption);omega)
                      have hx21 : ∀ h : 5 < t188.size,((t188[5]'h).toNat : Int) = bt t188 5:=bt_at t188 5
                      clear p21
                      have qi21 : (5 < (t188.size : Int)) = True:=eq_true (of_decide_eq_true (by first|(with_reducible assumption)|assumption))
                      replace q21:=eq_true q21
                      have p23 : 0 ≤ (6 : Int):=(by omega)
                      have q23 : 6 < t188.size:=(by have : (6 : Int) < (t188.size : Int):=of_decide_eq_true (by first|(with_reducible assumption)|assumption);omega)
                      have hx23 : ∀ h : 6 < t188.size,((t188[6]'h).toNat : Int) = bt t188 6:=bt_at t188 6
                      clear p23
                      have qi23 : (6 < (t188.size : Int)) = True:=eq_true (of_decide_eq_true (by first|(with_reducible assumption)|assumption))
                      replace q23:=eq_true q23
                      refine start_ (n:=11) (S:=fun w'=>True) (ds:=[]) #[false,false,false,false,false,false,false,false,false,false,false] (by kernel_rfl) rfl rfl trivial (fun hHeld=>?_);refine with_tabW impl_ReadRoot.tab5 impl_ReadRoot.bits5 (fun HT_ HW_=>?_)
                      generalize w54.drew = w55 at BK187 BK190 HB hHeld ⊢
                      refine pure_ (i:=0) (N:=some 46) (v:=?_) (a':=?_) #[true,false,false,false,false,false,false,false,false,false,false] rfl rfl (any_of HT_.out (by kernel_rfl)) (fun _ _ _ h=>h) (Or.inl ⟨by rfl,?_⟩) ?_ ?_
                      rotate_left
                      · intro w'
                        go_simp
                        with_reducible rfl
                      rotate_left
                      · simp only [Act.put,List.setIfInBounds_toArray,List.set_cons_zero,List.set_cons_succ,i64_w,i32_w]
                        rfl
                      refine pure_ (i:=4) (N:=some 50) (v:=?_) (a':=?_) #[true,false,false,false,true,false,false,false,false,false,false] rfl rfl (any_of HT_.out (by kernel_rfl)) (fun _ _ _ h=>h) (Or.inl ⟨by rfl,?_⟩) ?_ ?_
                      rotate_left
                      · intro w'
                        go_simp
                        with_reducible rfl
                      rotate_left
                      · simp only [Act.put,List.setIfInBounds_toArray,List.set_cons_zero,List.set_cons_succ,i64_w,i32_w]
                        rfl
                      refine take_ (i:=1) (N:=some 47) (v:=?_) (a':=?_) #[true,true,false,false,true,false,false,false,false,false,false] rfl rfl (take_ofW HT_.out HW_.out (by kernel_rfl)) (fun _ _ _ h=>h) (Or.inl ⟨by rfl,?_⟩) hHeld ?_ ?_
                      rotate_left
                      · intro w' _
                        go_simp
                        with_reducible rfl
                      rotate_left
                      · simp only [Act.put,List.setIfInBounds_toArray,List.set_cons_zero,List.set_cons_succ,i64_w,i32_w]
                        rfl
                      refine pure_ (i:=2) (N:=some 48) (v:=?_) (a':=?_) #[true,true,true,false,true,false,false,false,false,false,false] rfl rfl (any_of HT_.out (by kernel_rfl)) (fun _ _ _ h=>h) (Or.inl ⟨by rfl,?_⟩) ?_ ?_
                      rotate_left
                      · intro w'
                        go_simp
                        with_reducible rfl
                      rotate_left
                      · simp only [Act.put,List.setIfInBounds_toArray,List.set_cons_zero,List.set_cons_succ,i64_w,i32_w]
                        rfl
                      refine pure_ (i:=3) (N:=some 49) (v:=?_) (a':=?_) #[true,true,true,true,true,false,false,false,false,false,false] rfl rfl (any_of HT_.out (by kernel_rfl)) (fun _ _ _ h=>h) (Or.inl ⟨by rfl,?_⟩) ?_ ?_
                      rotate_left
                      · intro w'
                        go_simp
                        with_reducible rfl
                      rotate_left
                      · simp only [Act.put,List.setIfInBounds_toArray,List.set_cons_zero,List.set_cons_succ,i64_w,i32_w]
                        rfl
                      refine take_ (i:=5) (N:=some 51) (v:=?_) (a':=?_) #[true,true,true,true,true,true,false,false,false,false,false] rfl rfl (take_ofW HT_.out HW_.out (by kernel_rfl)) (fun _ _ _ h=>h) (Or.inl ⟨by rfl,?_⟩) hHeld ?_ ?_
                      rotate_left
                      · intro w' _
                        go_simp
                        with_reducible rfl
                      rotate_left
                      · simp only [Act.put,List.setIfInBounds_toArray,List.set_cons_zero,List.set_cons_succ,i64_w,i32_w]
                        rfl
                      refine pure_ (i:=6) (N:=some 52) (v:=?_) (a':=?_) #[true,true,true,true,true,true,true,false,false,false,false] rfl rfl (any_of HT_.out (by kernel_rfl)) (fun _ _ _ h=>h) (Or.inl ⟨by rfl,?_⟩) ?_ ?_
                      rotate_left
                      · intro w'
                        go_simp
                        with_reducible rfl
                      rotate_left
                      · simp only [Act.put,List.setIfInBounds_toArray,List.set_cons_zero,List.set_cons_succ,i64_w,i32_w]
                        rfl
                      refine pure_ (i:=7) (N:=some 53) (v:=?_) (a':=?_) #[true,true,true,true,true,true,true,true,false,false,false] rfl rfl (any_of HT_.out (by kernel_rfl)) (fun _ _ _ h=>h) (Or.inl ⟨by rfl,?_⟩) ?_ ?_
                      rotate_left
                      · intro w'
                        go_simp
                        with_reducible rfl
                      rotate_left
                      · simp only [Act.put,List.setIfInBounds_toArray,List.set_cons_zero,List.set_cons_succ,i64_w,i32_w]
                        rfl
                      refine pure_ (i:=8) (N:=some 54) (v:=?_) (a':=?_) #[true,true,true,true,true,true,true,true,true,false,false] rfl rfl (any_of HT_.out (by kernel_rfl)) (fun _ _ _ h=>h) (Or.inl ⟨by rfl,?_⟩) ?_ ?_
                      rotate_left
                      · intro w'
                        go_simp
                        with_reducible rfl
                      rotate_left
                      · simp only [Act.put,List.setIfInBounds_toArray,List.set_cons_zero,List.set_cons_succ,i64_w,i32_w]
                        rfl
                      refine pure_ (i:=9) (N:=some 55) (v:=?_) (a':=?_) #[true,true,true,true,true,true,true,true,true,true,false] rfl rfl (any_of HT_.out (by kernel_rfl)) (fun _ _ _ h=>h) (Or.inl ⟨by rfl,?_⟩) ?_ ?_
                      rotate_left
                      · intro w'
                        go_simp
                        with_reducible rfl
                      rotate_left
                      · simp only [Act.put,List.setIfInBounds_toArray,List.set_cons_zero,List.set_cons_succ,i64_w,i32_w]
                        rfl
                      refine one_ (i:=10) (N:=none) #[true,true,true,true,true,true,true,true,true,true,true] rfl rfl (one_of HT_.out (by kernel_rfl)) (by decide) (fun K hK=>?_)
                      have hs56 : w55.cell? ⟨gb190,1,none⟩ = some (.int .i64 0):=(qh BK190.out 1).trans rfl
                      have hfs56:=qi BK190.out 1
                      have hns56_0:=NB187_190.out
                      have hms56_0:=NB190_187.out
                      refine skip_ (w1:=?_) (by rfl) rfl ?_ ?_
                      rotate_left
                      · go_simp
                        rfl
                      refine hK.out _ _ trivial (fun hHeld=>?_)
                      clear hK K
                      refine done_ (done_of HT_.out (by kernel_rfl)) ?_
                      have hnb57:=NB190_187.out
                      have hnc57:=NB187_190.out
                      have hcz58_0 : w55.cell? ⟨gb190,0,none⟩ = some (.int .i64 (Go.bits .or .i64 (Go.bits .or .i64 (Go.bits .or .i64 (wrap64 ((wrap64 (bt t188 1)) * 16777216)) (wrap64 ((wrap64 (bt t188 2)) * 65536))) (wrap64 ((wrap64 (bt t188 3)) * 256))) (wrap64 (bt t188 4)))):=(qh BK190.out 0).trans rfl
                      have hcz58_1 : w55.cell? ⟨gb190,1,none⟩ = some (.int .i64 0):=(qh BK190.out 1).trans rfl
                      have hfz58_0:=qi BK190.out 0
                      have hfz58_1:=qi BK190.out 1
                      try go_wp2_with (first|((with_reducible refine gate_callee (f:=8) rfl ?_);refine goesL_ (some 58) rfl rfl Try.func8 (by kernel_rfl) rfl #[.agg #[.int .i64 (Go.bits .or .i64 (Go.bits .or .i64 (Go.bits .or .i64 (wrap64 ((wrap64 (bt t188 1)) * 16777216)) (wrap64 ((wrap64 (bt t188 2)) * 65536))) (wrap64 ((wrap64 (bt t188 3)) * 256))) (wrap64 (bt t188 4))),.int .i64 (wrap64 ((wrap64 ((wrap64 ((wrap64 (bt t188 5)) * 256)) + (wrap64 (bt t188 6)))) - 1))]] rfl (by (try simp only [List.map_toArray,List.map_cons,List.map_nil]);first|done|rfl|(simp only [List.length_drop,List.length_take];rfl)) ?_;(with_reducible refine (impl_RootText.calls kj2 (Go.bits .or .i64 (Go.bits .or .i64 (Go.bits .or .i64 (wrap64 ((wrap64 (bt t188 1)) * 16777216)) (wrap64 ((wrap64 (bt t188 2)) * 65536))) (wrap64 ((wrap64 (bt t188 3)) * 256))) (wrap64 (bt t188 4))) (wrap64 ((wrap64 ((wrap64 ((wrap64 (bt t188 5)) * 256)) + (wrap64 (bt t188 6)))) - 1)) t191 false _ A24.out).mono ?_);rintro e w59 ⟨rfl,hb⟩;refine ⟨_,rfl,?_⟩;have n0_:=qn.mk (ql (g:=gb187) (o:=.cells #[.int .i64 0,.int .i64 0] 25 (0,0)) (by (with_reducible repeat (first|refine qb ?_ _|refine qe ?_|refine qc ?_ _));refine blk_far ?_ NB187_190.out _;(with_reducible repeat (first|refine qb ?_ _|refine qe ?_|refine qc ?_ _));exact BK187.out) hb);have n1_:=qn.mk (ql (g:=gb190) (o:=.cells #[.int .i64 (Go.bits .or .i64 (Go.bits .or .i64 (Go.bits .or .i64 (wrap64 ((wrap64 (bt t188 1)) * 16777216)) (wrap64 ((wrap64 (bt t188 2)) * 65536))) (wrap64 ((wrap64 (bt t188 3)) * 256))) (wrap64 (bt t188 4))),.int .i64 (wrap64 ((wrap64 ((wrap64 ((wrap64 (bt t188 5)) * 256)) + (wrap64 (bt t188 6)))) - 1))] 25 (0,0)) (by (with_reducible repeat (first|refine qb ?_ _|refine qe ?_|refine qc ?_ _));refine blk_put (cs:=#[.int .i64 (Go.bits .or .i64 (Go.bits .or .i64 (Go.bits .or .i64 (wrap64 ((wrap64 (bt t188 1)) * 16777216)) (wrap64 ((wrap64 (bt t188 2)) * 65536))) (wrap64 ((wrap64 (bt t188 3)) * 256))) (wrap64 (bt t188 4))),.int .i64 0]) ?_ 1 _ rfl;(with_reducible repeat (first|refine qb ?_ _|refine qe ?_|refine qc ?_ _));exact BK190.out) hb);have n2_:=hs_ HB hb;clear BK187;clear BK190;clear HB;have BK187:=n0_;have BK190:=n1_;have HB:=n2_;clear n0_ n1_ n2_;(try clear hb);(try clear hb2);(try clear hk);(try clear hi);have hcz60_0 : w59.cell? ⟨gb187,0,none⟩ = some (.int .i64 0):=(qh BK187.out 0).trans rfl;have hcz60_1 : w59.cell? ⟨gb187,1,none⟩ = some (.int .i64 0):=(qh BK187.out 1).trans rfl;have hfz60_0:=qi BK187.out 0;have hfz60_1:=qi BK187.out 1))
                      refine bodyPost_ret (results_ct rfl _ _ gb187 25 #[.int .i64 0,.int .i64 0] (0,0) _ rfl (by (with_reducible repeat (first|refine qb ?_ _|refine qe ?_|refine qc ?_ _));refine blk_put (cs:=#[.int .i64 0,.int .i64 0]) ?_ 1 _ rfl;(with_reducible repeat (first|refine qb ?_ _|refine qe ?_|refine qc ?_ _));refine blk_put (cs:=#[.int .i64 0,.int .i64 0]) ?_ 0 _ rfl;(with_reducible repeat (first|refine qb ?_ _|refine qe ?_|refine qc ?_ _));exact BK187.out) Try.underlying25 rfl (by kernel_rfl)) rfl ?_
                      exact ⟨by first|rfl|(simp [errW_none,errW_some] <;> rfl)|(simp [*,errW_none,errW_some] <;> rfl),by repeat (first|(with_reducible first|exact HB.out|apply qf|apply qa|apply qd|refine qg ?_ GE187.out|refine qg ?_ GE190.out)|exact HB.out)⟩
                  · rw [if_neg c22] at H
                    exact absurd H (by simp)
                · rw [if_neg c20] at H
                  exact absurd H (by simp)
              · rw [if_neg c18] at H
                exact absurd H (by simp)
            · rw [if_neg c16] at H
              exact absurd H (by simp)
          · rw [if_neg c14] at H
            exact absurd H (by simp)
        · rw [if_neg c12] at H
          exact absurd H (by simp)

end Go.Proofs.Ytcdofljgeiohgaa.QFnRoots
