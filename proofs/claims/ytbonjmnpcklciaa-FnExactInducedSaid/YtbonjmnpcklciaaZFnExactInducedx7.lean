/- Lean functions for the Go functions that the law FnExactInduced reaches, and that each Go function comes to just its Lean function's answer; by a program of this session. -/
import Derived.Test.YtbonjmnpcklciaaZFnExactInducedx0
namespace Go.Proofs.Ytbonjmnpcklciaa.QFnExactInduced
open Go.RowKit Go.Proofs.YtbonjmnpcklciaaW.PrintWords Go.Proofs.YtbonjmnpcklciaaW.PrintLast Go.Proofs.YtbonjmnpcklciaaW.PrintMore
attribute [local go_sem] max2_int min2_int max_two min_two max_three min_three max_four min_four   -- for this text's walks alone
set_option linter.unusedVariables false
set_option linter.unusedSimpArgs false

/-! ### laws_eqIntS: function 44 -/
def laws_eqIntS.l0 : Nat → List Int → List Int → Int → Option (Bool)
  | 0,_,_,_=>none
  | k + 1,x0,x1,x5=>if x5 < (x0.length : Int) then (if 0 ≤ x5 then (if x5 < (x1.length : Int) then (if (rd x0 x5) = (rd x1 x5) then (laws_eqIntS.l0 k x0 x1 (wrap64 (x5 + 1))) else (some false)) else (none)) else (none)) else (some true)
def laws_eqIntS.f (k : Nat) (l0 : List Int) (l1 : List Int) : Option (Bool):=if (l0.length : Int) = (l1.length : Int) then (laws_eqIntS.l0 k l0 l1 0) else (some false)
theorem laws_eqIntS.mono_l : ∀ k,(∀ y0 y1 y2,LeO (laws_eqIntS.l0 k y0 y1 y2) (laws_eqIntS.l0 (k + 1) y0 y1 y2))
  | 0=>fun _ _ _ r h=>by simp [laws_eqIntS.l0] at h
  | k + 1=>by
    have ih0:=laws_eqIntS.mono_l k
    · intro y0 y1 y2
      unfold laws_eqIntS.l0
      repeat' first
      | (with_reducible exact ih0 _ _ _)
      | (with_reducible exact LeO.refl _)
      | (with_reducible exact LeO.none _)
      | (with_reducible refine LeO.ite ?_ ?_)
      | (with_reducible refine LeO.bind ?_ (fun _=>?_))
      | exact ih0 _ _ _
      | exact LeO.none _
      | refine LeO.ite ?_ ?_
      | refine LeO.bind ?_ (fun _=>?_)
theorem laws_eqIntS.mono : ∀ a0 a1 k,LeO (laws_eqIntS.f k a0 a1) (laws_eqIntS.f (k + 1) a0 a1):=by
  intro a0 a1 k
  have ih0:=laws_eqIntS.mono_l k
  unfold laws_eqIntS.f
  repeat' first
      | (with_reducible exact ih0 _ _ _)
      | (with_reducible exact LeO.refl _)
      | (with_reducible exact LeO.none _)
      | (with_reducible refine LeO.ite ?_ ?_)
      | (with_reducible refine LeO.bind ?_ (fun _=>?_))
      | exact ih0 _ _ _
      | exact LeO.none _
      | refine LeO.ite ?_ ?_
      | refine LeO.bind ?_ (fun _=>?_)
set_option maxHeartbeats 8000000 in
set_option maxRecDepth 100000 in
theorem laws_eqIntS.calls (k : Nat) (A0 : Option Addr) (c0 : Nat) (l0 : List Int) (A1 : Option Addr) (c1 : Nat) (l1 : List Int) (r : Bool) (w : World) (hr0 : Kd.C (Kd.int .i64) w A0 l0.length l0) (hc0 : l0.length ≤ c0) (hr1 : Kd.C (Kd.int .i64) w A1 l1.length l1) (hc1 : l1.length ≤ c1) (h : laws_eqIntS.f k l0 l1 = some r) :
    Calls Try.prog 44 #[.slice A0 l0.length c0,.slice A1 l1.length c1] w fun e w'=>e = .returned (.bool r) ∧ Drawn0 w w':=by
  have HR0:=qn.mk hr0
  have HC0:=qn.mk hc0
  clear hr0 hc0
  have HR1:=qn.mk hr1
  have HC1:=qn.mk hc1
  clear hr1 hc1
  have H : (if (l0.length : Int) = (l1.length : Int) then (laws_eqIntS.l0 k l0 l1 0) else (some false)) = some r:=h
  clear h
  by_cases c3 : (l0.length : Int) = (l1.length : Int)
  · rw [if_pos c3] at H
    have c3b0 : ((l0.length : Int) == (l1.length : Int)) = true:=beq_iff_eq.mpr c3
    have c3b1 : ((l0.length : Int) != (l1.length : Int)) = false:=bne_eq_false_iff_eq.mpr c3
    have c3b2 : (l0.length == l1.length) = true:=by first|simpa using c3|(simp at c3 ⊢;omega)
    clear c3
    have H':=qn.mk H
    clear H
    go_enter Try.func44,Try.ntmps44
    go_wp2
    repeat (go_quiet (fail);try go_wp2)
    go_loopg [5] k (fun kq v5 w'=>∃ (x5_1 : Int),v5 = .int .i64 x5_1 ∧ qn (laws_eqIntS.l0 kq l0 l1 x5_1 = some r) ∧ qn (kq ≤ k) ∧ Drawn0 w w')
    case atStart=>exact ⟨(0),(by first|rfl|(simp;done)|(simp [*];done)),H',⟨Nat.le_refl _⟩,by repeat (first|exact Drawn0.refl _|apply Drawn0.step)⟩
    case round =>
      clear H'
      try clear c1
      try clear p2
      try clear c3
      try clear c3b0
      try clear c3b1
      try clear c3b2
      obtain ⟨x5_1,rfl,HA,HK1,⟨m1,rfl⟩⟩:=hrel
      cases gk with
      | zero=>exact absurd HA.out (by simp [laws_eqIntS.l0])
      | succ k1 =>
        have H:=HA.out
        clear HA
        simp only [laws_eqIntS.l0] at H
        by_cases c4 : x5_1 < (l0.length : Int)
        · rw [if_pos c4] at H
          have c4b0 : decide (x5_1 < (l0.length : Int)) = true:=decide_eq_true c4
          clear c4
          by_cases c5 : 0 ≤ x5_1
          · rw [if_pos c5] at H
            have c5b0 : decide (0 ≤ x5_1) = true:=decide_eq_true c5
            clear c5
            by_cases c6 : x5_1 < (l1.length : Int)
            · rw [if_pos c6] at H
              have c6b0 : decide (x5_1 < (l1.length : Int)) = true:=decide_eq_true c6
              clear c6
              by_cases c7 : (rd l0 x5_1) = (rd l1 x5_1)
              · rw [if_pos c7] at H
                have c7b0 : ((rd l0 x5_1) == (rd l1 x5_1)) = true:=beq_iff_eq.mpr c7
                have c7b1 : ((rd l0 x5_1) != (rd l1 x5_1)) = false:=bne_eq_false_iff_eq.mpr c7
                clear c7
                have H':=qn.mk H
                clear H
                have p192 : 0 ≤ (x5_1 : Int):=of_decide_eq_true (by first|(with_reducible assumption)|assumption)
                have q192 : x5_1 < (l0.length : Int):=of_decide_eq_true (by first|(with_reducible assumption)|assumption)
                obtain ⟨ad192,e192,hx192_0⟩:=Kd.at_int HR0.out x5_1 p192 q192
                cases e192
                replace p192:=eq_true p192
                replace q192:=eq_true q192
                have p193 : 0 ≤ (x5_1 : Int):=of_decide_eq_true (by first|(with_reducible assumption)|assumption)
                have q193 : x5_1 < (l1.length : Int):=of_decide_eq_true (by first|(with_reducible assumption)|assumption)
                obtain ⟨ad193,e193,hx193_0⟩:=Kd.at_int HR1.out x5_1 p193 q193
                cases e193
                replace p193:=eq_true p193
                replace q193:=eq_true q193
                go_wp2
                repeat (go_quiet (fail);try go_wp2)
                go_roundg k1
                case measure=>have:=HK1.out;omega
                case rel=>exact ⟨(wrap64 (x5_1 + 1)),(by first|rfl|(simp;done)|(simp [*];done)),H',⟨by have:=HK1.out;omega⟩,by repeat (first|exact Drawn0.refl _|apply Drawn0.step)⟩
              · rw [if_neg c7] at H
                have c7b0 : ((rd l0 x5_1) == (rd l1 x5_1)) = false:=beq_eq_false_iff_ne.mpr c7
                have c7b1 : ((rd l0 x5_1) != (rd l1 x5_1)) = true:=bne_iff_ne.mpr c7
                obtain rfl:=Option.some.inj H
                have p192 : 0 ≤ (x5_1 : Int):=of_decide_eq_true (by first|(with_reducible assumption)|assumption)
                have q192 : x5_1 < (l0.length : Int):=of_decide_eq_true (by first|(with_reducible assumption)|assumption)
                obtain ⟨ad192,e192,hx192_0⟩:=Kd.at_int HR0.out x5_1 p192 q192
                cases e192
                replace p192:=eq_true p192
                replace q192:=eq_true q192
                have p193 : 0 ≤ (x5_1 : Int):=of_decide_eq_true (by first|(with_reducible assumption)|assumption)
                have q193 : x5_1 < (l1.length : Int):=of_decide_eq_true (by first|(with_reducible assumption)|assumption)
                obtain ⟨ad193,e193,hx193_0⟩:=Kd.at_int HR1.out x5_1 p193 q193
                cases e193
                replace p193:=eq_true p193
                replace q193:=eq_true q193
                go_wp2
                repeat (go_quiet (fail);try go_wp2)
                go_ret
                exact ⟨by first|rfl|(simp;done)|(simp [*];done),by repeat (first|exact Drawn0.refl _|apply Drawn0.step)⟩
            · rw [if_neg c6] at H
              exact absurd H (by simp)
          · rw [if_neg c5] at H
            exact absurd H (by simp)
        · rw [if_neg c4] at H
          have c4b0 : decide (x5_1 < (l0.length : Int)) = false:=decide_eq_false c4
          clear c4
          obtain rfl:=Option.some.inj H
          go_wp2
          repeat (go_quiet (fail);try go_wp2)
          go_ret
          exact ⟨by first|rfl|(simp;done)|(simp [*];done),by repeat (first|exact Drawn0.refl _|apply Drawn0.step)⟩
  · rw [if_neg c3] at H
    have c3b0 : ((l0.length : Int) == (l1.length : Int)) = false:=beq_eq_false_iff_ne.mpr c3
    have c3b1 : ((l0.length : Int) != (l1.length : Int)) = true:=bne_iff_ne.mpr c3
    have c3b2 : (l0.length == l1.length) = false:=by first|simpa using c3|(simp at c3 ⊢;omega)
    obtain rfl:=Option.some.inj H
    go_enter Try.func44,Try.ntmps44
    go_wp2
    repeat (go_quiet (fail);try go_wp2)
    go_ret
    exact ⟨by first|rfl|(simp;done)|(simp [*];done),by repeat (first|exact Drawn0.refl _|apply Drawn0.step)⟩

/-! ### laws_markEdgeS: function 110 -/
def laws_markEdgeS.l0 : Nat → List (S148) → Int → Int → Option (Int × (List (S148)))
  | 0,_,_,_=>none
  | k + 1,x0,x1,x5=>if x5 < (x0.length : Int) then (if 0 ≤ x5 then ((some (x0.set (x5 : Int).toNat (⟨x1,(rd_T148 x0 x5).f1,(rd_T148 x0 x5).f2,(rd_T148 x0 x5).f3,(rd_T148 x0 x5).f4⟩ : S148) : List (S148))).bind fun y194=>((some (y194.set (x5 : Int).toNat (⟨(rd_T148 y194 x5).f0,wrap64 (x1 + 1),(rd_T148 y194 x5).f2,(rd_T148 y194 x5).f3,(rd_T148 y194 x5).f4⟩ : S148) : List (S148))).bind fun y195=>((some (y195.set (x5 : Int).toNat (⟨(rd_T148 y195 x5).f0,(rd_T148 y195 x5).f1,wrap64 ((wrap64 (x1 + 1)) + 1),(rd_T148 y195 x5).f3,(rd_T148 y195 x5).f4⟩ : S148) : List (S148))).bind fun y196=>((some (y196.set (x5 : Int).toNat (⟨(rd_T148 y196 x5).f0,(rd_T148 y196 x5).f1,(rd_T148 y196 x5).f2,wrap64 ((wrap64 ((wrap64 (x1 + 1)) + 1)) + 1),(rd_T148 y196 x5).f4⟩ : S148) : List (S148))).bind fun y197=>(laws_markEdgeS.l0 k (y197.set (x5 : Int).toNat (⟨(rd_T148 y197 x5).f0,(rd_T148 y197 x5).f1,(rd_T148 y197 x5).f2,(rd_T148 y197 x5).f3,wrap64 ((wrap64 ((wrap64 ((wrap64 (x1 + 1)) + 1)) + 1)) + 1)⟩ : S148)) (wrap64 ((wrap64 ((wrap64 ((wrap64 ((wrap64 (x1 + 1)) + 1)) + 1)) + 1)) + 1)) (wrap64 (x5 + 1))))))) else (none)) else (some (x1,x0))
def laws_markEdgeS.f (k : Nat) (l0 : List (S148)) (a1 : Int) : Option (Int × (List (S148))):=laws_markEdgeS.l0 k l0 a1 0
theorem laws_markEdgeS.mono_l : ∀ k,(∀ y0 y1 y2,LeO (laws_markEdgeS.l0 k y0 y1 y2) (laws_markEdgeS.l0 (k + 1) y0 y1 y2))
  | 0=>fun _ _ _ r h=>by simp [laws_markEdgeS.l0] at h
  | k + 1=>by
    have ih0:=laws_markEdgeS.mono_l k
    · intro y0 y1 y2
      unfold laws_markEdgeS.l0
      repeat' first
      | (with_reducible exact ih0 _ _ _)
      | (with_reducible exact LeO.refl _)
      | (with_reducible exact LeO.none _)
      | (with_reducible refine LeO.ite ?_ ?_)
      | (with_reducible refine LeO.bind ?_ (fun _=>?_))
      | exact ih0 _ _ _
      | exact LeO.none _
      | refine LeO.ite ?_ ?_
      | refine LeO.bind ?_ (fun _=>?_)
theorem laws_markEdgeS.mono : ∀ a0 a1 k,LeO (laws_markEdgeS.f k a0 a1) (laws_markEdgeS.f (k + 1) a0 a1):=by
  intro a0 a1 k
  have ih0:=laws_markEdgeS.mono_l k
  unfold laws_markEdgeS.f
  repeat' first
      | (with_reducible exact ih0 _ _ _)
      | (with_reducible exact LeO.refl _)
      | (with_reducible exact LeO.none _)
      | (with_reducible refine LeO.ite ?_ ?_)
      | (with_reducible refine LeO.bind ?_ (fun _=>?_))
      | exact ih0 _ _ _
      | exact LeO.none _
      | refine LeO.ite ?_ ?_
      | refine LeO.bind ?_ (fun _=>?_)
set_option maxHeartbeats 8000000 in
set_option maxRecDepth 100000 in
theorem laws_markEdgeS.calls (k : Nat) (P0_ : Nat → Prop) (u9000_ : Value) (l0 : List (S148)) (a1 : Int) (r1 : Int) (r2 : List (S148)) (w0 w : World) (hB : Below w0.heap.size w0 w) (ho0 : Kd.R k148 148 w w0.heap.size P0_ u9000_ l0) (h : laws_markEdgeS.f k l0 a1 = some (r1,r2)) :
    Calls Try.prog 110 #[u9000_,.int .i64 a1] w fun e w'=>e = .returned (.int .i64 r1) ∧ Kd.R k148 148 w' w0.heap.size (fun k_=>(P0_ k_ ∨ w.heap.size ≤ k_)) u9000_ r2 ∧ Below w0.heap.size w0 w' ∧ Kept w w' (fun k_=>P0_ k_):=by
  have HO0:=qn.mk (show Kd.R k148 148 w w0.heap.size (fun k_=>(P0_ k_ ∨ w.heap.size ≤ k_)) u9000_ l0 from Kd.R_mono ho0 (fun k_ hk=>(.inl hk)))
  have HK:=qn.mk (Kept.refl w (fun k_=>P0_ k_))
  have HW0:=qn.mk hB.size
  have HB:=qn.mk hB
  clear hB
  have H : (laws_markEdgeS.l0 k l0 a1 0) = some (r1,r2):=h
  clear h
  have H':=qn.mk H
  clear H
  go_enter Try.func110,Try.ntmps110
  go_wp2
  go_loopg [1,5] k (fun kq v1 v5 w'=>∃ (x0_1 : List (S148)) (x1_1 : Int) (x5_1 : Int),v1 = .int .i64 x1_1 ∧ v5 = .int .i64 x5_1 ∧ qn (laws_markEdgeS.l0 kq x0_1 x1_1 x5_1 = some (r1,r2)) ∧ qn (kq ≤ k) ∧ qn (Kd.R k148 148 w' w0.heap.size (fun k_=>(P0_ k_ ∨ w.heap.size ≤ k_)) u9000_ x0_1) ∧ qn (Kept w w' (fun k_=>P0_ k_)) ∧ qn (Below w0.heap.size w0 w'))
  case atStart=>exact ⟨(l0),(a1),(0),(by first|rfl|(simp;done)|(simp [*];done)),(by first|rfl|(simp;done)|(simp [*];done)),H',⟨Nat.le_refl _⟩,⟨by (with_reducible repeat (first|apply Kd.R_alloc|apply Kd.R_drewN|apply Kd.R_drew));exact HO0.out⟩,⟨by repeat (first|(with_reducible first|exact HK.out|apply Kept.alloc|apply Kept.drewN|apply Kept.drew)|exact HK.out)⟩,⟨by repeat (first|(with_reducible first|exact HB.out|apply qf|apply qa|apply qd)|exact HB.out)⟩⟩
  case round =>
    clear H'
    try clear c1
    try clear p2
    obtain ⟨x0_1,x1_1,x5_1,rfl,rfl,HA,HK1,HO_0,HK,HB⟩:=hrel
    cases gk with
    | zero=>exact absurd HA.out (by simp [laws_markEdgeS.l0])
    | succ k1 =>
      have H:=HA.out
      clear HA
      simp only [laws_markEdgeS.l0] at H
      by_cases c3 : x5_1 < (x0_1.length : Int)
      · rw [if_pos c3] at H
        have c3b0 : decide (x5_1 < (x0_1.length : Int)) = true:=decide_eq_true c3
        clear c3
        by_cases c4 : 0 ≤ x5_1
        · rw [if_pos c4] at H
          have c4b0 : decide (0 ≤ x5_1) = true:=decide_eq_true c4
          clear c4
          obtain ⟨y194,hy194⟩ : ∃ y_ : List (S148),y_ = (x0_1.set (x5_1 : Int).toNat (⟨x1_1,(rd_T148 x0_1 x5_1).f1,(rd_T148 x0_1 x5_1).f2,(rd_T148 x0_1 x5_1).f3,(rd_T148 x0_1 x5_1).f4⟩ : S148)):=⟨_,rfl⟩
          replace H : ((some (y194.set (x5_1 : Int).toNat (⟨(rd_T148 y194 x5_1).f0,wrap64 (x1_1 + 1),(rd_T148 y194 x5_1).f2,(rd_T148 y194 x5_1).f3,(rd_T148 y194 x5_1).f4⟩ : S148) : List (S148))).bind fun y195=>((some (y195.set (x5_1 : Int).toNat (⟨(rd_T148 y195 x5_1).f0,(rd_T148 y195 x5_1).f1,wrap64 ((wrap64 (x1_1 + 1)) + 1),(rd_T148 y195 x5_1).f3,(rd_T148 y195 x5_1).f4⟩ : S148) : List (S148))).bind fun y196=>((some (y196.set (x5_1 : Int).toNat (⟨(rd_T148 y196 x5_1).f0,(rd_T148 y196 x5_1).f1,(rd_T148 y196 x5_1).f2,wrap64 ((wrap64 ((wrap64 (x1_1 + 1)) + 1)) + 1),(rd_T148 y196 x5_1).f4⟩ : S148) : List (S148))).bind fun y197=>(laws_markEdgeS.l0 k1 (y197.set (x5_1 : Int).toNat (⟨(rd_T148 y197 x5_1).f0,(rd_T148 y197 x5_1).f1,(rd_T148 y197 x5_1).f2,(rd_T148 y197 x5_1).f3,wrap64 ((wrap64 ((wrap64 ((wrap64 (x1_1 + 1)) + 1)) + 1)) + 1)⟩ : S148)) (wrap64 ((wrap64 ((wrap64 ((wrap64 ((wrap64 (x1_1 + 1)) + 1)) + 1)) + 1)) + 1)) (wrap64 (x5_1 + 1)))))) = some (r1,r2):=by first|(rw [hy194];with_reducible exact H)|(have H2_:=(Option.bind_some _ _).symm.trans H;rw [hy194];with_reducible exact H2_)|(have H2_:=(Option.bind_some _ _).symm.trans H;with_reducible exact H2_)|with_reducible exact H|(rw [hy194];exact H)|exact H
          have Ny194:=qn.mk hy194
          clear hy194
          obtain ⟨y195,hy195⟩ : ∃ y_ : List (S148),y_ = (y194.set (x5_1 : Int).toNat (⟨(rd_T148 y194 x5_1).f0,wrap64 (x1_1 + 1),(rd_T148 y194 x5_1).f2,(rd_T148 y194 x5_1).f3,(rd_T148 y194 x5_1).f4⟩ : S148)):=⟨_,rfl⟩
          replace H : ((some (y195.set (x5_1 : Int).toNat (⟨(rd_T148 y195 x5_1).f0,(rd_T148 y195 x5_1).f1,wrap64 ((wrap64 (x1_1 + 1)) + 1),(rd_T148 y195 x5_1).f3,(rd_T148 y195 x5_1).f4⟩ : S148) : List (S148))).bind fun y196=>((some (y196.set (x5_1 : Int).toNat (⟨(rd_T148 y196 x5_1).f0,(rd_T148 y196 x5_1).f1,(rd_T148 y196 x5_1).f2,wrap64 ((wrap64 ((wrap64 (x1_1 + 1)) + 1)) + 1),(rd_T148 y196 x5_1).f4⟩ : S148) : List (S148))).bind fun y197=>(laws_markEdgeS.l0 k1 (y197.set (x5_1 : Int).toNat (⟨(rd_T148 y197 x5_1).f0,(rd_T148 y197 x5_1).f1,(rd_T148 y197 x5_1).f2,(rd_T148 y197 x5_1).f3,wrap64 ((wrap64 ((wrap64 ((wrap64 (x1_1 + 1)) + 1)) + 1)) + 1)⟩ : S148)) (wrap64 ((wrap64 ((wrap64 ((wrap64 ((wrap64 (x1_1 + 1)) + 1)) + 1)) + 1)) + 1)) (wrap64 (x5_1 + 1))))) = some (r1,r2):=by first|(rw [hy195];with_reducible exact H)|(have H2_:=(Option.bind_some _ _).symm.trans H;rw [hy195];with_reducible exact H2_)|(have H2_:=(Option.bind_some _ _).symm.trans H;with_reducible exact H2_)|with_reducible exact H|(rw [hy195];exact H)|exact H
          have Ny195:=qn.mk hy195
          clear hy195
          obtain ⟨y196,hy196⟩ : ∃ y_ : List (S148),y_ = (y195.set (x5_1 : Int).toNat (⟨(rd_T148 y195 x5_1).f0,(rd_T148 y195 x5_1).f1,wrap64 ((wrap64 (x1_1 + 1)) + 1),(rd_T148 y195 x5_1).f3,(rd_T148 y195 x5_1).f4⟩ : S148)):=⟨_,rfl⟩
          replace H : ((some (y196.set (x5_1 : Int).toNat (⟨(rd_T148 y196 x5_1).f0,(rd_T148 y196 x5_1).f1,(rd_T148 y196 x5_1).f2,wrap64 ((wrap64 ((wrap64 (x1_1 + 1)) + 1)) + 1),(rd_T148 y196 x5_1).f4⟩ : S148) : List (S148))).bind fun y197=>(laws_markEdgeS.l0 k1 (y197.set (x5_1 : Int).toNat (⟨(rd_T148 y197 x5_1).f0,(rd_T148 y197 x5_1).f1,(rd_T148 y197 x5_1).f2,(rd_T148 y197 x5_1).f3,wrap64 ((wrap64 ((wrap64 ((wrap64 (x1_1 + 1)) + 1)) + 1)) + 1)⟩ : S148)) (wrap64 ((wrap64 ((wrap64 ((wrap64 ((wrap64 (x1_1 + 1)) + 1)) + 1)) + 1)) + 1)) (wrap64 (x5_1 + 1)))) = some (r1,r2):=by first|(rw [hy196];with_reducible exact H)|(have H2_:=(Option.bind_some _ _).symm.trans H;rw [hy196];with_reducible exact H2_)|(have H2_:=(Option.bind_some _ _).symm.trans H;with_reducible exact H2_)|with_reducible exact H|(rw [hy196];exact H)|exact H
          have Ny196:=qn.mk hy196
          clear hy196
          obtain ⟨y197,hy197⟩ : ∃ y_ : List (S148),y_ = (y196.set (x5_1 : Int).toNat (⟨(rd_T148 y196 x5_1).f0,(rd_T148 y196 x5_1).f1,(rd_T148 y196 x5_1).f2,wrap64 ((wrap64 ((wrap64 (x1_1 + 1)) + 1)) + 1),(rd_T148 y196 x5_1).f4⟩ : S148)):=⟨_,rfl⟩
          replace H : (laws_markEdgeS.l0 k1 (y197.set (x5_1 : Int).toNat (⟨(rd_T148 y197 x5_1).f0,(rd_T148 y197 x5_1).f1,(rd_T148 y197 x5_1).f2,(rd_T148 y197 x5_1).f3,wrap64 ((wrap64 ((wrap64 ((wrap64 (x1_1 + 1)) + 1)) + 1)) + 1)⟩ : S148)) (wrap64 ((wrap64 ((wrap64 ((wrap64 ((wrap64 (x1_1 + 1)) + 1)) + 1)) + 1)) + 1)) (wrap64 (x5_1 + 1))) = some (r1,r2):=by first|(rw [hy197];with_reducible exact H)|(have H2_:=(Option.bind_some _ _).symm.trans H;rw [hy197];with_reducible exact H2_)|(have H2_:=(Option.bind_some _ _).symm.trans H;with_reducible exact H2_)|with_reducible exact H|(rw [hy197];exact H)|exact H
          have Ny197:=qn.mk hy197
          clear hy197
          obtain ⟨y198,hy198⟩ : ∃ y_ : List (S148),y_ = (y197.set (x5_1 : Int).toNat (⟨(rd_T148 y197 x5_1).f0,(rd_T148 y197 x5_1).f1,(rd_T148 y197 x5_1).f2,(rd_T148 y197 x5_1).f3,wrap64 ((wrap64 ((wrap64 ((wrap64 (x1_1 + 1)) + 1)) + 1)) + 1)⟩ : S148)):=⟨_,rfl⟩
          replace H : (laws_markEdgeS.l0 k1 y198 (wrap64 ((wrap64 ((wrap64 ((wrap64 ((wrap64 (x1_1 + 1)) + 1)) + 1)) + 1)) + 1)) (wrap64 (x5_1 + 1))) = some (r1,r2):=by first|(rw [hy198];with_reducible exact H)|(have H2_:=(Option.bind_some _ _).symm.trans H;rw [hy198];with_reducible exact H2_)|(have H2_:=(Option.bind_some _ _).symm.trans H;with_reducible exact H2_)|with_reducible exact H|(rw [hy198];exact H)|exact H
          have Ny198:=qn.mk hy198
          clear hy198
          have H':=qn.mk H
          clear H
          obtain ⟨Ao10,co10,eo10⟩:=Kd.R_slice HO_0.out
          subst eo10
          have p5 : 0 ≤ (x5_1 : Int):=of_decide_eq_true (by first|(with_reducible assumption)|assumption)
          have q5 : (x5_1 : Int) < ((x0_1.length : Int) : Int):=of_decide_eq_true (by first|(with_reducible assumption)|assumption)
          obtain ⟨go5,co5,eo5,gb5,gl5,cl5,HG5⟩:=Kd.R_form HO_0.out (by omega)
          (first|cases eo5|(injection eo5 with ea_ en_ ec_;(first|subst ea_|(injection ea_ with ea_;subst ea_));subst ec_;clear en_))
          have GB5:=qn.mk gb5
          have GG5:=qn.mk HG5
          clear gb5 gl5 HG5
          have HMgo5:=qn.mk (show (P0_ go5 ∨ w.heap.size ≤ go5) from (HO_0.out.1 _ rfl))
          obtain ⟨ce5,hcl5,hM5,hcc5,hfr5⟩:=Kd.R_elem HO_0.out z148 (x5_1 : Int) p5 q5
          obtain rfl:=k148_openM hM5
          have hx5_0 : wr.cell? ⟨go5,(x5_1 : Int).toNat * 5,none⟩ = some (.int .i64 ((rd_T148 x0_1 x5_1).f0)):=hcc5 0 _ rfl
          have hx5_1 : wr.cell? ⟨go5,(x5_1 : Int).toNat * 5 + 1,none⟩ = some (.int .i64 ((rd_T148 x0_1 x5_1).f1)):=hcc5 1 _ rfl
          have hx5_2 : wr.cell? ⟨go5,(x5_1 : Int).toNat * 5 + 2,none⟩ = some (.int .i64 ((rd_T148 x0_1 x5_1).f2)):=hcc5 2 _ rfl
          have hx5_3 : wr.cell? ⟨go5,(x5_1 : Int).toNat * 5 + 3,none⟩ = some (.int .i64 ((rd_T148 x0_1 x5_1).f3)):=hcc5 3 _ rfl
          have hx5_4 : wr.cell? ⟨go5,(x5_1 : Int).toNat * 5 + 4,none⟩ = some (.int .i64 ((rd_T148 x0_1 x5_1).f4)):=hcc5 4 _ rfl
          have hf5_0 : wr.frozen? ⟨go5,(x5_1 : Int).toNat * 5,none⟩ = false:=hfr5 0
          have hf5_1 : wr.frozen? ⟨go5,(x5_1 : Int).toNat * 5 + 1,none⟩ = false:=hfr5 1
          have hf5_2 : wr.frozen? ⟨go5,(x5_1 : Int).toNat * 5 + 2,none⟩ = false:=hfr5 2
          have hf5_3 : wr.frozen? ⟨go5,(x5_1 : Int).toNat * 5 + 3,none⟩ = false:=hfr5 3
          have hf5_4 : wr.frozen? ⟨go5,(x5_1 : Int).toNat * 5 + 4,none⟩ = false:=hfr5 4
          clear hcl5 hcc5 hfr5 hM5
          replace p5:=eq_true p5
          replace q5:=eq_true q5
          have HX11:=qn.mk (show Kd.R k148 148 wr w0.heap.size (fun k_=>(P0_ k_ ∨ w.heap.size ≤ k_)) (.slice (some ⟨go5,0,none⟩) x0_1.length co10) x0_1 from (by (with_reducible repeat (first|apply Kd.R_alloc|apply Kd.R_drewN|apply Kd.R_drew));exact HO_0.out))
          obtain ⟨ce11,hcl11,hM11,hcc11,hfr11⟩:=Kd.R_elem HX11.out z148 (x5_1 : Int) (of_decide_eq_true (by first|(with_reducible assumption)|assumption)) (by have h_ : (x5_1 : Int) < ((x0_1.length : Int) : Int):=of_decide_eq_true (by first|(with_reducible assumption)|assumption);first|exact h_|(have e_:=(Kd.R_reads' HO_0.out).1;omega)|simpa using h_)
          obtain rfl:=k148_openM hM11
          have HP11:=Kd.R_seg HX11.out (x5_1 : Int) (of_decide_eq_true (by first|(with_reducible assumption)|assumption)) (by have h_ : (x5_1 : Int) < ((x0_1.length : Int) : Int):=of_decide_eq_true (by first|(with_reducible assumption)|assumption);first|exact h_|(have e_:=(Kd.R_reads' HO_0.out).1;omega)|simpa using h_) (seg:=[.int .i64 x1_1]) (j:=0) hcl11 hcc11 (show 1 ≤ 5 from by decide) (x':=(⟨x1_1,(rd_T148 x0_1 x5_1).f1,(rd_T148 x0_1 x5_1).f2,(rd_T148 x0_1 x5_1).f3,(rd_T148 x0_1 x5_1).f4⟩ : S148)) (k148_mkM _ _ _ (⟨x1_1,(rd_T148 x0_1 x5_1).f1,(rd_T148 x0_1 x5_1).f2,(rd_T148 x0_1 x5_1).f3,(rd_T148 x0_1 x5_1).f4⟩ : S148) ) (fun _ hk=>hk)
          have hx11_0:=hcc11 0 _ rfl
          (try simp only [show (k148).sz = 5 from rfl,Nat.mul_one,Nat.add_zero] at hx11_0)
          have hf11_0:=hfr11 0
          (try simp only [show (k148).sz = 5 from rfl,Nat.mul_one,Nat.add_zero] at hf11_0)
          clear hcl11 hcc11 hfr11 hM11
          go_wp2_with (first|((with_reducible refine gate_store (t:=3) (p:=16) rfl ?_);refine store_event (t:=3) (p:=16) (v:=?vo_w12) (w1:=(wr.setCell ⟨go5,(x5_1 : Int).toNat * 5,none⟩ (.int .i64 x1_1))) ?hg ?ho ?hn ?hr ?_;(case ho=>rfl);(case hg=>rfl);(case hn=>rfl);(case hr=>first|(go_simp;done)|(go_simp;rfl));intro w12 hw;have hg : wr.grownBy w12 (some go5):=(by rw [hw];exact HP11.2);have hp_ : Kd.R k148 148 w12 w0.heap.size (fun k_=>(P0_ k_ ∨ w.heap.size ≤ k_)) (.slice (some ⟨go5,0,none⟩) x0_1.length co10) y194:=(by rw [hw,Ny194.out];exact HP11.1);clear HP11;have n0_:=qn.mk (hp_);have n1_:=qn.mk ((by rw [hw];exact qg (HB.out) GB5.out : Below w0.heap.size w0 w12));have n2_:=qn.mk (Kept.of_grown (S:=(fun k_=>P0_ k_)) hg (by repeat (first|(with_reducible first|exact HK.out|apply Kept.alloc|apply Kept.drewN|apply Kept.drew)|exact HK.out)) (fun k_ e_=>(HO_0.out.1 k_ e_)));clear HO_0;clear HB;clear HK;have HO_0:=n0_;have HB:=n1_;have HK:=n2_;clear n0_ n1_ n2_;clear hg hw hp_;have p6 : 0 ≤ (x5_1 : Int):=of_decide_eq_true (by first|(with_reducible assumption)|assumption);have q6 : (x5_1 : Int) < ((x0_1.length : Int) : Int):=of_decide_eq_true (by first|(with_reducible assumption)|assumption);obtain ⟨ce6,hcl6,hM6,hcc6,hfr6⟩:=Kd.R_elem HO_0.out z148 (x5_1 : Int) p6 q6;obtain rfl:=k148_openM hM6;have hx6_0 : w12.cell? ⟨go5,(x5_1 : Int).toNat * 5,none⟩ = some (.int .i64 ((rd_T148 y194 x5_1).f0)):=hcc6 0 _ rfl;have hx6_1 : w12.cell? ⟨go5,(x5_1 : Int).toNat * 5 + 1,none⟩ = some (.int .i64 ((rd_T148 y194 x5_1).f1)):=hcc6 1 _ rfl;have hx6_2 : w12.cell? ⟨go5,(x5_1 : Int).toNat * 5 + 2,none⟩ = some (.int .i64 ((rd_T148 y194 x5_1).f2)):=hcc6 2 _ rfl;have hx6_3 : w12.cell? ⟨go5,(x5_1 : Int).toNat * 5 + 3,none⟩ = some (.int .i64 ((rd_T148 y194 x5_1).f3)):=hcc6 3 _ rfl;have hx6_4 : w12.cell? ⟨go5,(x5_1 : Int).toNat * 5 + 4,none⟩ = some (.int .i64 ((rd_T148 y194 x5_1).f4)):=hcc6 4 _ rfl;have hf6_0 : w12.frozen? ⟨go5,(x5_1 : Int).toNat * 5,none⟩ = false:=hfr6 0;have hf6_1 : w12.frozen? ⟨go5,(x5_1 : Int).toNat * 5 + 1,none⟩ = false:=hfr6 1;have hf6_2 : w12.frozen? ⟨go5,(x5_1 : Int).toNat * 5 + 2,none⟩ = false:=hfr6 2;have hf6_3 : w12.frozen? ⟨go5,(x5_1 : Int).toNat * 5 + 3,none⟩ = false:=hfr6 3;have hf6_4 : w12.frozen? ⟨go5,(x5_1 : Int).toNat * 5 + 4,none⟩ = false:=hfr6 4;clear hcl6 hcc6 hfr6 hM6;replace p6:=eq_true p6;replace q6:=eq_true q6;have HX13:=qn.mk (show Kd.R k148 148 w12 w0.heap.size (fun k_=>(P0_ k_ ∨ w.heap.size ≤ k_)) (.slice (some ⟨go5,0,none⟩) x0_1.length co10) y194 from (by (with_reducible repeat (first|apply Kd.R_alloc|apply Kd.R_drewN|apply Kd.R_drew));exact HO_0.out));obtain ⟨ce13,hcl13,hM13,hcc13,hfr13⟩:=Kd.R_elem HX13.out z148 (x5_1 : Int) (of_decide_eq_true (by first|(with_reducible assumption)|assumption)) (by have h_ : (x5_1 : Int) < ((x0_1.length : Int) : Int):=of_decide_eq_true (by first|(with_reducible assumption)|assumption);first|exact h_|(have e_:=(Kd.R_reads' HO_0.out).1;omega)|simpa using h_);obtain rfl:=k148_openM hM13;have HP13:=Kd.R_seg HX13.out (x5_1 : Int) (of_decide_eq_true (by first|(with_reducible assumption)|assumption)) (by have h_ : (x5_1 : Int) < ((x0_1.length : Int) : Int):=of_decide_eq_true (by first|(with_reducible assumption)|assumption);first|exact h_|(have e_:=(Kd.R_reads' HO_0.out).1;omega)|simpa using h_) (seg:=[.int .i64 (wrap64 (x1_1 + 1))]) (j:=1) hcl13 hcc13 (show 2 ≤ 5 from by decide) (x':=(⟨(rd_T148 y194 x5_1).f0,wrap64 (x1_1 + 1),(rd_T148 y194 x5_1).f2,(rd_T148 y194 x5_1).f3,(rd_T148 y194 x5_1).f4⟩ : S148)) (k148_mkM _ _ _ (⟨(rd_T148 y194 x5_1).f0,wrap64 (x1_1 + 1),(rd_T148 y194 x5_1).f2,(rd_T148 y194 x5_1).f3,(rd_T148 y194 x5_1).f4⟩ : S148) ) (fun _ hk=>hk);have hx13_1:=hcc13 1 _ rfl;(try simp only [show (k148).sz = 5 from rfl,Nat.mul_one,Nat.add_zero] at hx13_1);have hf13_1:=hfr13 1;(try simp only [show (k148).sz = 5 from rfl,Nat.mul_one,Nat.add_zero] at hf13_1);clear hcl13 hcc13 hfr13 hM13)|((with_reducible refine gate_store (t:=3) (p:=23) rfl ?_);refine store_event (t:=3) (p:=23) (v:=?vo_w14) (w1:=(w12.setCell ⟨go5,(x5_1 : Int).toNat * 5 + 1,none⟩ (.int .i64 (wrap64 (x1_1 + 1))))) ?hg ?ho ?hn ?hr ?_;(case ho=>rfl);(case hg=>rfl);(case hn=>rfl);(case hr=>first|(go_simp;done)|(go_simp;rfl));intro w14 hw;have hg : w12.grownBy w14 (some go5):=(by rw [hw];exact HP13.2);have hp_ : Kd.R k148 148 w14 w0.heap.size (fun k_=>(P0_ k_ ∨ w.heap.size ≤ k_)) (.slice (some ⟨go5,0,none⟩) x0_1.length co10) y195:=(by rw [hw,Ny195.out];exact HP13.1);clear HP13;have n0_:=qn.mk (hp_);have n1_:=qn.mk ((by rw [hw];exact qg (HB.out) GB5.out : Below w0.heap.size w0 w14));have n2_:=qn.mk (Kept.of_grown (S:=(fun k_=>P0_ k_)) hg (by repeat (first|(with_reducible first|exact HK.out|apply Kept.alloc|apply Kept.drewN|apply Kept.drew)|exact HK.out)) (fun k_ e_=>(HO_0.out.1 k_ e_)));clear HO_0;clear HB;clear HK;have HO_0:=n0_;have HB:=n1_;have HK:=n2_;clear n0_ n1_ n2_;clear hg hw hp_;have p7 : 0 ≤ (x5_1 : Int):=of_decide_eq_true (by first|(with_reducible assumption)|assumption);have q7 : (x5_1 : Int) < ((x0_1.length : Int) : Int):=of_decide_eq_true (by first|(with_reducible assumption)|assumption);obtain ⟨ce7,hcl7,hM7,hcc7,hfr7⟩:=Kd.R_elem HO_0.out z148 (x5_1 : Int) p7 q7;obtain rfl:=k148_openM hM7;have hx7_0 : w14.cell? ⟨go5,(x5_1 : Int).toNat * 5,none⟩ = some (.int .i64 ((rd_T148 y195 x5_1).f0)):=hcc7 0 _ rfl;have hx7_1 : w14.cell? ⟨go5,(x5_1 : Int).toNat * 5 + 1,none⟩ = some (.int .i64 ((rd_T148 y195 x5_1).f1)):=hcc7 1 _ rfl;have hx7_2 : w14.cell? ⟨go5,(x5_1 : Int).toNat * 5 + 2,none⟩ = some (.int .i64 ((rd_T148 y195 x5_1).f2)):=hcc7 2 _ rfl;have hx7_3 : w14.cell? ⟨go5,(x5_1 : Int).toNat * 5 + 3,none⟩ = some (.int .i64 ((rd_T148 y195 x5_1).f3)):=hcc7 3 _ rfl;have hx7_4 : w14.cell? ⟨go5,(x5_1 : Int).toNat * 5 + 4,none⟩ = some (.int .i64 ((rd_T148 y195 x5_1).f4)):=hcc7 4 _ rfl;have hf7_0 : w14.frozen? ⟨go5,(x5_1 : Int).toNat * 5,none⟩ = false:=hfr7 0;have hf7_1 : w14.frozen? ⟨go5,(x5_1 : Int).toNat * 5 + 1,none⟩ = false:=hfr7 1;have hf7_2 : w14.frozen? ⟨go5,(x5_1 : Int).toNat * 5 + 2,none⟩ = false:=hfr7 2;have hf7_3 : w14.frozen? ⟨go5,(x5_1 : Int).toNat * 5 + 3,none⟩ = false:=hfr7 3;have hf7_4 : w14.frozen? ⟨go5,(x5_1 : Int).toNat * 5 + 4,none⟩ = false:=hfr7 4;clear hcl7 hcc7 hfr7 hM7;replace p7:=eq_true p7;replace q7:=eq_true q7;have HX15:=qn.mk (show Kd.R k148 148 w14 w0.heap.size (fun k_=>(P0_ k_ ∨ w.heap.size ≤ k_)) (.slice (some ⟨go5,0,none⟩) x0_1.length co10) y195 from (by (with_reducible repeat (first|apply Kd.R_alloc|apply Kd.R_drewN|apply Kd.R_drew));exact HO_0.out));obtain ⟨ce15,hcl15,hM15,hcc15,hfr15⟩:=Kd.R_elem HX15.out z148 (x5_1 : Int) (of_decide_eq_true (by first|(with_reducible assumption)|assumption)) (by have h_ : (x5_1 : Int) < ((x0_1.length : Int) : Int):=of_decide_eq_true (by first|(with_reducible assumption)|assumption);first|exact h_|(have e_:=(Kd.R_reads' HO_0.out).1;omega)|simpa using h_);obtain rfl:=k148_openM hM15;have HP15:=Kd.R_seg HX15.out (x5_1 : Int) (of_decide_eq_true (by first|(with_reducible assumption)|assumption)) (by have h_ : (x5_1 : Int) < ((x0_1.length : Int) : Int):=of_decide_eq_true (by first|(with_reducible assumption)|assumption);first|exact h_|(have e_:=(Kd.R_reads' HO_0.out).1;omega)|simpa using h_) (seg:=[.int .i64 (wrap64 ((wrap64 (x1_1 + 1)) + 1))]) (j:=2) hcl15 hcc15 (show 3 ≤ 5 from by decide) (x':=(⟨(rd_T148 y195 x5_1).f0,(rd_T148 y195 x5_1).f1,wrap64 ((wrap64 (x1_1 + 1)) + 1),(rd_T148 y195 x5_1).f3,(rd_T148 y195 x5_1).f4⟩ : S148)) (k148_mkM _ _ _ (⟨(rd_T148 y195 x5_1).f0,(rd_T148 y195 x5_1).f1,wrap64 ((wrap64 (x1_1 + 1)) + 1),(rd_T148 y195 x5_1).f3,(rd_T148 y195 x5_1).f4⟩ : S148) ) (fun _ hk=>hk);have hx15_2:=hcc15 2 _ rfl;(try simp only [show (k148).sz = 5 from rfl,Nat.mul_one,Nat.add_zero] at hx15_2);have hf15_2:=hfr15 2;(try simp only [show (k148).sz = 5 from rfl,Nat.mul_one,Nat.add_zero] at hf15_2);clear hcl15 hcc15 hfr15 hM15)|((with_reducible refine gate_store (t:=3) (p:=30) rfl ?_);refine store_event (t:=3) (p:=30) (v:=?vo_w16) (w1:=(w14.setCell ⟨go5,(x5_1 : Int).toNat * 5 + 2,none⟩ (.int .i64 (wrap64 ((wrap64 (x1_1 + 1)) + 1))))) ?hg ?ho ?hn ?hr ?_;(case ho=>rfl);(case hg=>rfl);(case hn=>rfl);(case hr=>first|(go_simp;done)|(go_simp;rfl));intro w16 hw;have hg : w14.grownBy w16 (some go5):=(by rw [hw];exact HP15.2);have hp_ : Kd.R k148 148 w16 w0.heap.size (fun k_=>(P0_ k_ ∨ w.heap.size ≤ k_)) (.slice (some ⟨go5,0,none⟩) x0_1.length co10) y196:=(by rw [hw,Ny196.out];exact HP15.1);clear HP15;have n0_:=qn.mk (hp_);have n1_:=qn.mk ((by rw [hw];exact qg (HB.out) GB5.out : Below w0.heap.size w0 w16));have n2_:=qn.mk (Kept.of_grown (S:=(fun k_=>P0_ k_)) hg (by repeat (first|(with_reducible first|exact HK.out|apply Kept.alloc|apply Kept.drewN|apply Kept.drew)|exact HK.out)) (fun k_ e_=>(HO_0.out.1 k_ e_)));clear HO_0;clear HB;clear HK;have HO_0:=n0_;have HB:=n1_;have HK:=n2_;clear n0_ n1_ n2_;clear hg hw hp_;have p8 : 0 ≤ (x5_1 : Int):=of_decide_eq_true (by first|(with_reducible assumption)|assumption);have q8 : (x5_1 : Int) < ((x0_1.length : Int) : Int):=of_decide_eq_true (by first|(with_reducible assumption)|assumption);obtain ⟨ce8,hcl8,hM8,hcc8,hfr8⟩:=Kd.R_elem HO_0.out z148 (x5_1 : Int) p8 q8;obtain rfl:=k148_openM hM8;have hx8_0 : w16.cell? ⟨go5,(x5_1 : Int).toNat * 5,none⟩ = some (.int .i64 ((rd_T148 y196 x5_1).f0)):=hcc8 0 _ rfl;have hx8_1 : w16.cell? ⟨go5,(x5_1 : Int).toNat * 5 + 1,none⟩ = some (.int .i64 ((rd_T148 y196 x5_1).f1)):=hcc8 1 _ rfl;have hx8_2 : w16.cell? ⟨go5,(x5_1 : Int).toNat * 5 + 2,none⟩ = some (.int .i64 ((rd_T148 y196 x5_1).f2)):=hcc8 2 _ rfl;have hx8_3 : w16.cell? ⟨go5,(x5_1 : Int).toNat * 5 + 3,none⟩ = some (.int .i64 ((rd_T148 y196 x5_1).f3)):=hcc8 3 _ rfl;have hx8_4 : w16.cell? ⟨go5,(x5_1 : Int).toNat * 5 + 4,none⟩ = some (.int .i64 ((rd_T148 y196 x5_1).f4)):=hcc8 4 _ rfl;have hf8_0 : w16.frozen? ⟨go5,(x5_1 : Int).toNat * 5,none⟩ = false:=hfr8 0;have hf8_1 : w16.frozen? ⟨go5,(x5_1 : Int).toNat * 5 + 1,none⟩ = false:=hfr8 1;have hf8_2 : w16.frozen? ⟨go5,(x5_1 : Int).toNat * 5 + 2,none⟩ = false:=hfr8 2;have hf8_3 : w16.frozen? ⟨go5,(x5_1 : Int).toNat * 5 + 3,none⟩ = false:=hfr8 3;have hf8_4 : w16.frozen? ⟨go5,(x5_1 : Int).toNat * 5 + 4,none⟩ = false:=hfr8 4;clear hcl8 hcc8 hfr8 hM8;replace p8:=eq_true p8;replace q8:=eq_true q8;have HX17:=qn.mk (show Kd.R k148 148 w16 w0.heap.size (fun k_=>(P0_ k_ ∨ w.heap.size ≤ k_)) (.slice (some ⟨go5,0,none⟩) x0_1.length co10) y196 from (by (with_reducible repeat (first|apply Kd.R_alloc|apply Kd.R_drewN|apply Kd.R_drew));exact HO_0.out));obtain ⟨ce17,hcl17,hM17,hcc17,hfr17⟩:=Kd.R_elem HX17.out z148 (x5_1 : Int) (of_decide_eq_true (by first|(with_reducible assumption)|assumption)) (by have h_ : (x5_1 : Int) < ((x0_1.length : Int) : Int):=of_decide_eq_true (by first|(with_reducible assumption)|assumption);first|exact h_|(have e_:=(Kd.R_reads' HO_0.out).1;omega)|simpa using h_);obtain rfl:=k148_openM hM17;have HP17:=Kd.R_seg HX17.out (x5_1 : Int) (of_decide_eq_true (by first|(with_reducible assumption)|assumption)) (by have h_ : (x5_1 : Int) < ((x0_1.length : Int) : Int):=of_decide_eq_true (by first|(with_reducible assumption)|assumption);first|exact h_|(have e_:=(Kd.R_reads' HO_0.out).1;omega)|simpa using h_) (seg:=[.int .i64 (wrap64 ((wrap64 ((wrap64 (x1_1 + 1)) + 1)) + 1))]) (j:=3) hcl17 hcc17 (show 4 ≤ 5 from by decide) (x':=(⟨(rd_T148 y196 x5_1).f0,(rd_T148 y196 x5_1).f1,(rd_T148 y196 x5_1).f2,wrap64 ((wrap64 ((wrap64 (x1_1 + 1)) + 1)) + 1),(rd_T148 y196 x5_1).f4⟩ : S148)) (k148_mkM _ _ _ (⟨(rd_T148 y196 x5_1).f0,(rd_T148 y196 x5_1).f1,(rd_T148 y196 x5_1).f2,wrap64 ((wrap64 ((wrap64 (x1_1 + 1)) + 1)) + 1),(rd_T148 y196 x5_1).f4⟩ : S148) ) (fun _ hk=>hk);have hx17_3:=hcc17 3 _ rfl;(try simp only [show (k148).sz = 5 from rfl,Nat.mul_one,Nat.add_zero] at hx17_3);have hf17_3:=hfr17 3;(try simp only [show (k148).sz = 5 from rfl,Nat.mul_one,Nat.add_zero] at hf17_3);clear hcl17 hcc17 hfr17 hM17)|((with_reducible refine gate_store (t:=3) (p:=37) rfl ?_);refine store_event (t:=3) (p:=37) (v:=?vo_w18) (w1:=(w16.setCell ⟨go5,(x5_1 : Int).toNat * 5 + 3,none⟩ (.int .i64 (wrap64 ((wrap64 ((wrap64 (x1_1 + 1)) + 1)) + 1))))) ?hg ?ho ?hn ?hr ?_;(case ho=>rfl);(case hg=>rfl);(case hn=>rfl);(case hr=>first|(go_simp;done)|(go_simp;rfl));intro w18 hw;have hg : w16.grownBy w18 (some go5):=(by rw [hw];exact HP17.2);have hp_ : Kd.R k148 148 w18 w0.heap.size (fun k_=>(P0_ k_ ∨ w.heap.size ≤ k_)) (.slice (some ⟨go5,0,none⟩) x0_1.length co10) y197:=(by rw [hw,Ny197.out];exact HP17.1);clear HP17;have n0_:=qn.mk (hp_);have n1_:=qn.mk ((by rw [hw];exact qg (HB.out) GB5.out : Below w0.heap.size w0 w18));have n2_:=qn.mk (Kept.of_grown (S:=(fun k_=>P0_ k_)) hg (by repeat (first|(with_reducible first|exact HK.out|apply Kept.alloc|apply Kept.drewN|apply Kept.drew)|exact HK.out)) (fun k_ e_=>(HO_0.out.1 k_ e_)));clear HO_0;clear HB;clear HK;have HO_0:=n0_;have HB:=n1_;have HK:=n2_;clear n0_ n1_ n2_;clear hg hw hp_;have p9 : 0 ≤ (x5_1 : Int):=of_decide_eq_true (by first|(with_reducible assumption)|assumption);have q9 : (x5_1 : Int) < ((x0_1.length : Int) : Int):=of_decide_eq_true (by first|(with_reducible assumption)|assumption);obtain ⟨ce9,hcl9,hM9,hcc9,hfr9⟩:=Kd.R_elem HO_0.out z148 (x5_1 : Int) p9 q9;obtain rfl:=k148_openM hM9;have hx9_0 : w18.cell? ⟨go5,(x5_1 : Int).toNat * 5,none⟩ = some (.int .i64 ((rd_T148 y197 x5_1).f0)):=hcc9 0 _ rfl;have hx9_1 : w18.cell? ⟨go5,(x5_1 : Int).toNat * 5 + 1,none⟩ = some (.int .i64 ((rd_T148 y197 x5_1).f1)):=hcc9 1 _ rfl;have hx9_2 : w18.cell? ⟨go5,(x5_1 : Int).toNat * 5 + 2,none⟩ = some (.int .i64 ((rd_T148 y197 x5_1).f2)):=hcc9 2 _ rfl;have hx9_3 : w18.cell? ⟨go5,(x5_1 : Int).toNat * 5 + 3,none⟩ = some (.int .i64 ((rd_T148 y197 x5_1).f3)):=hcc9 3 _ rfl;have hx9_4 : w18.cell? ⟨go5,(x5_1 : Int).toNat * 5 + 4,none⟩ = some (.int .i64 ((rd_T148 y197 x5_1).f4)):=hcc9 4 _ rfl;have hf9_0 : w18.frozen? ⟨go5,(x5_1 : Int).toNat * 5,none⟩ = false:=hfr9 0;have hf9_1 : w18.frozen? ⟨go5,(x5_1 : Int).toNat * 5 + 1,none⟩ = false:=hfr9 1;have hf9_2 : w18.frozen? ⟨go5,(x5_1 : Int).toNat * 5 + 2,none⟩ = false:=hfr9 2;have hf9_3 : w18.frozen? ⟨go5,(x5_1 : Int).toNat * 5 + 3,none⟩ = false:=hfr9 3;have hf9_4 : w18.frozen? ⟨go5,(x5_1 : Int).toNat * 5 + 4,none⟩ = false:=hfr9 4;clear hcl9 hcc9 hfr9 hM9;replace p9:=eq_true p9;replace q9:=eq_true q9;have HX19:=qn.mk (show Kd.R k148 148 w18 w0.heap.size (fun k_=>(P0_ k_ ∨ w.heap.size ≤ k_)) (.slice (some ⟨go5,0,none⟩) x0_1.length co10) y197 from (by (with_reducible repeat (first|apply Kd.R_alloc|apply Kd.R_drewN|apply Kd.R_drew));exact HO_0.out));obtain ⟨ce19,hcl19,hM19,hcc19,hfr19⟩:=Kd.R_elem HX19.out z148 (x5_1 : Int) (of_decide_eq_true (by first|(with_reducible assumption)|assumption)) (by have h_ : (x5_1 : Int) < ((x0_1.length : Int) : Int):=of_decide_eq_true (by first|(with_reducible assumption)|assumption);first|exact h_|(have e_:=(Kd.R_reads' HO_0.out).1;omega)|simpa using h_);obtain rfl:=k148_openM hM19;have HP19:=Kd.R_seg HX19.out (x5_1 : Int) (of_decide_eq_true (by first|(with_reducible assumption)|assumption)) (by have h_ : (x5_1 : Int) < ((x0_1.length : Int) : Int):=of_decide_eq_true (by first|(with_reducible assumption)|assumption);first|exact h_|(have e_:=(Kd.R_reads' HO_0.out).1;omega)|simpa using h_) (seg:=[.int .i64 (wrap64 ((wrap64 ((wrap64 ((wrap64 (x1_1 + 1)) + 1)) + 1)) + 1))]) (j:=4) hcl19 hcc19 (show 5 ≤ 5 from by decide) (x':=(⟨(rd_T148 y197 x5_1).f0,(rd_T148 y197 x5_1).f1,(rd_T148 y197 x5_1).f2,(rd_T148 y197 x5_1).f3,wrap64 ((wrap64 ((wrap64 ((wrap64 (x1_1 + 1)) + 1)) + 1)) + 1)⟩ : S148)) (k148_mkM _ _ _ (⟨(rd_T148 y197 x5_1).f0,(rd_T148 y197 x5_1).f1,(rd_T148 y197 x5_1).f2,(rd_T148 y197 x5_1).f3,wrap64 ((wrap64 ((wrap64 ((wrap64 (x1_1 + 1)) + 1)) + 1)) + 1)⟩ : S148) ) (fun _ hk=>hk);have hx19_4:=hcc19 4 _ rfl;(try simp only [show (k148).sz = 5 from rfl,Nat.mul_one,Nat.add_zero] at hx19_4);have hf19_4:=hfr19 4;(try simp only [show (k148).sz = 5 from rfl,Nat.mul_one,Nat.add_zero] at hf19_4);clear hcl19 hcc19 hfr19 hM19)|((with_reducible refine gate_store (t:=3) (p:=44) rfl ?_);refine store_event (t:=3) (p:=44) (v:=?vo_w20) (w1:=(w18.setCell ⟨go5,(x5_1 : Int).toNat * 5 + 4,none⟩ (.int .i64 (wrap64 ((wrap64 ((wrap64 ((wrap64 (x1_1 + 1)) + 1)) + 1)) + 1))))) ?hg ?ho ?hn ?hr ?_;(case ho=>rfl);(case hg=>rfl);(case hn=>rfl);(case hr=>first|(go_simp;done)|(go_simp;rfl));intro w20 hw;have hg : w18.grownBy w20 (some go5):=(by rw [hw];exact HP19.2);have hp_ : Kd.R k148 148 w20 w0.heap.size (fun k_=>(P0_ k_ ∨ w.heap.size ≤ k_)) (.slice (some ⟨go5,0,none⟩) x0_1.length co10) y198:=(by rw [hw,Ny198.out];exact HP19.1);clear HP19;have n0_:=qn.mk (hp_);have n1_:=qn.mk ((by rw [hw];exact qg (HB.out) GB5.out : Below w0.heap.size w0 w20));have n2_:=qn.mk (Kept.of_grown (S:=(fun k_=>P0_ k_)) hg (by repeat (first|(with_reducible first|exact HK.out|apply Kept.alloc|apply Kept.drewN|apply Kept.drew)|exact HK.out)) (fun k_ e_=>(HO_0.out.1 k_ e_)));clear HO_0;clear HB;clear HK;have HO_0:=n0_;have HB:=n1_;have HK:=n2_;clear n0_ n1_ n2_;clear hg hw hp_))
          go_roundg k1
          case measure=>have:=HK1.out;omega
          case rel=>exact ⟨(y198),(wrap64 ((wrap64 ((wrap64 ((wrap64 ((wrap64 (x1_1 + 1)) + 1)) + 1)) + 1)) + 1)),(wrap64 (x5_1 + 1)),(by first|rfl|(simp;done)|(simp [*];done)),(by first|rfl|(simp;done)|(simp [*];done)),H',⟨by have:=HK1.out;omega⟩,⟨by (with_reducible repeat (first|apply Kd.R_alloc|apply Kd.R_drewN|apply Kd.R_drew));exact HO_0.out⟩,⟨by repeat (first|(with_reducible first|exact HK.out|apply Kept.alloc|apply Kept.drewN|apply Kept.drew)|exact HK.out)⟩,⟨by repeat (first|(with_reducible first|exact HB.out|apply qf|apply qa|apply qd)|exact HB.out)⟩⟩
        · rw [if_neg c4] at H
          exact absurd H (by simp)
      · rw [if_neg c3] at H
        have c3b0 : decide (x5_1 < (x0_1.length : Int)) = false:=decide_eq_false c3
        clear c3
        simp only [Option.some.injEq,Prod.mk.injEq] at H
        obtain ⟨rfl,rfl⟩:=H
        obtain ⟨Ao21,co21,eo21⟩:=Kd.R_slice HO_0.out
        subst eo21
        go_wp2
        go_ret
        exact ⟨by first|rfl|(simp [errW_none,errW_some] <;> rfl)|(simp [*,errW_none,errW_some] <;> rfl),by (with_reducible repeat (first|apply Kd.R_alloc|apply Kd.R_drewN|apply Kd.R_drew));exact HO_0.out,by repeat (first|(with_reducible first|exact HB.out|apply qf|apply qa|apply qd)|exact HB.out),by repeat (first|(with_reducible first|exact HK.out|apply Kept.alloc|apply Kept.drewN|apply Kept.drew)|exact HK.out)⟩

/-! ### laws_markGraph: function 45 -/
def laws_markGraph.f (k : Nat) (a0_0 : Int) (l0_1 : List (S148)) (a1 : Int) : Option (Int × (List (S148))):=(laws_markEdgeS.f k l0_1 a1).bind fun bt200=>(some (bt200.1,bt200.2))
theorem laws_markGraph.mono : ∀ a0 a1 a2 k,LeO (laws_markGraph.f k a0 a1 a2) (laws_markGraph.f (k + 1) a0 a1 a2):=by
  intro a0 a1 a2 k
  unfold laws_markGraph.f
  repeat' first
      | (with_reducible exact laws_markEdgeS.mono _ _ _)
      | (with_reducible exact LeO.refl _)
      | (with_reducible exact LeO.none _)
      | (with_reducible refine LeO.ite ?_ ?_)
      | (with_reducible refine LeO.bind ?_ (fun _=>?_))
      | exact laws_markEdgeS.mono _ _ _
      | exact LeO.none _
      | refine LeO.ite ?_ ?_
      | refine LeO.bind ?_ (fun _=>?_)
set_option maxHeartbeats 8000000 in
set_option maxRecDepth 100000 in
theorem laws_markGraph.calls (k : Nat) (a0_0 : Int) (P0_1_ : Nat → Prop) (u9000_ : Value) (l0_1 : List (S148)) (a1 : Int) (r1 : Int) (r2 : List (S148)) (w0 w : World) (hB : Below w0.heap.size w0 w) (ho0_1 : Kd.R k148 148 w w0.heap.size P0_1_ u9000_ l0_1) (h : laws_markGraph.f k a0_0 l0_1 a1 = some (r1,r2)) :
    Calls Try.prog 45 #[.agg #[.int .i64 a0_0,u9000_],.int .i64 a1] w fun e w'=>e = .returned (.int .i64 r1) ∧ Kd.R k148 148 w' w0.heap.size (fun k_=>(P0_1_ k_ ∨ w.heap.size ≤ k_)) u9000_ r2 ∧ Below w0.heap.size w0 w' ∧ Kept w w' (fun k_=>P0_1_ k_):=by
  have hu56:=Try.underlying56
  have HO0_1:=qn.mk (show Kd.R k148 148 w w0.heap.size (fun k_=>(P0_1_ k_ ∨ w.heap.size ≤ k_)) u9000_ l0_1 from Kd.R_mono ho0_1 (fun k_ hk=>(.inl hk)))
  have HK:=qn.mk (Kept.refl w (fun k_=>P0_1_ k_))
  have HW0:=qn.mk hB.size
  have HB:=qn.mk hB
  clear hB
  have H : ((laws_markEdgeS.f k l0_1 a1).bind fun bt200=>(some (bt200.1,bt200.2))) = some (r1,r2):=h
  clear h
  replace H:=Option.bind_eq_some_iff.mp H
  obtain ⟨⟨t200,t201⟩,A30,H⟩:=H
  replace H : (some (t200,t201)) = some (r1,r2):=H
  have A3:=qn.mk A30
  clear A30
  simp only [Option.some.injEq,Prod.mk.injEq] at H
  obtain ⟨rfl,rfl⟩:=H
  obtain ⟨Ao4,co4,eo4⟩:=Kd.R_slice HO0_1.out
  subst eo4
  go_enter Try.func45,Try.ntmps45
  go_wp2_with (first|((with_reducible refine gate_dst (N:=2) rfl ?_);refine box_event ?hg (N:=2) ?hd (cs:=#[.int .i64 a0_0,.slice Ao4 l0_1.length co4]) (t:=56) ?hr ?_;(case hd=>rfl);(case hg=>rfl);(case hr=>first|(go_simp;done)|(go_simp;rfl));intro gb199 hg w5 hbox hb;have n0_:=rb_ HO0_1 hb;have n1_:=qn.mk (Kept.below (S:=(fun k_=>P0_1_ k_)) (by repeat (first|(with_reducible first|exact HK.out|apply Kept.alloc|apply Kept.drewN|apply Kept.drew)|exact HK.out)) hb);have n2_:=hs_ HB hb;have n3_:=qn.mk (hbox);have n4_:=qn.mk ((by rw [hg];exact (by first|exact HK.out.1|exact (show Kept w _ (fun k_=>P0_1_ k_) from by repeat (first|(with_reducible first|exact HK.out|apply Kept.alloc|apply Kept.drewN|apply Kept.drew)|exact HK.out)).1) : w.heap.size ≤ gb199));have n5_:=qn.mk ((by rw [hg];exact (qj (by repeat (first|(with_reducible first|exact HB.out|apply qf|apply qa|apply qd)|exact HB.out))) : w0.heap.size ≤ gb199));clear HO0_1;clear HK;clear HB;have HO0_1:=n0_;have HK:=n1_;have HB:=n2_;have BK199:=n3_;have GW199:=n4_;have GE199:=n5_;clear n0_ n1_ n2_ n3_ n4_ n5_;clear hb hbox hg;have hcz6_0 : w5.cell? ⟨gb199,0,none⟩ = some (.int .i64 a0_0):=(qh BK199.out 0).trans rfl;have hcz6_1 : w5.cell? ⟨gb199,1,none⟩ = some (.slice Ao4 l0_1.length co4):=(qh BK199.out 1).trans rfl;have hfz6_0:=qi BK199.out 0;have hfz6_1:=qi BK199.out 1)|((with_reducible refine gate_callee (f:=110) rfl ?_);refine goesL_ (some 8) rfl rfl Try.func110 (by kernel_rfl) rfl #[.slice Ao4 l0_1.length co4,.int .i64 a1] rfl (by (try simp only [List.map_toArray,List.map_cons,List.map_nil]);first|done|rfl|(simp only [List.length_drop,List.length_take];rfl)) ?_;(with_reducible refine (laws_markEdgeS.calls k (fun k_=>some k_ = (.slice Ao4 l0_1.length co4 : Value).ownBlock) (.slice Ao4 l0_1.length co4) l0_1 a1 t200 t201 w0 _ ?side1 ?side2 A3.out).mono ?_);(case side1=>repeat (first|(with_reducible first|exact HB.out|apply qf|apply qa|apply qd|refine qg ?_ GE199.out)|exact HB.out));(case side2=>exact Kd.R_tight rfl HO0_1.out);rintro e w7 ⟨rfl,hy0,hb,hkp⟩;refine ⟨_,rfl,?_⟩;have n0_:=qn.mk (Kd.R_reok rfl hy0 (fun k_ e_=>HO0_1.out.1 k_ e_));have n1_:=qn.mk (blk_kept (by (with_reducible repeat (first|refine qb ?_ _|refine qe ?_|refine qc ?_ _));exact BK199.out) hkp (fun hs_=>(fun e_=>(Kd.R_ne HO0_1.out BK199.out (by decide)) e_) hs_));have n2_:=qn.mk (Kept.then_ (S:=(fun k_=>P0_1_ k_)) (by repeat (first|(with_reducible first|exact HK.out|apply Kept.alloc|apply Kept.drewN|apply Kept.drew|refine Kept.setCell ?_ (.inr GW199.out) _)|exact HK.out)) hkp (fun k_ hs_=>(fun e_=>(HO0_1.out.1 k_ e_.symm)) hs_));have n3_:=qn.mk (hb);clear HO0_1;clear BK199;clear HK;clear HB;have HO0_1:=n0_;have BK199:=n1_;have HK:=n2_;have HB:=n3_;clear n0_ n1_ n2_ n3_;(try clear hb);(try clear hkp);(try clear hy0)))
  go_ret
  exact ⟨by first|rfl|(simp [errW_none,errW_some] <;> rfl)|(simp [*,errW_none,errW_some] <;> rfl),by (with_reducible repeat (first|apply Kd.R_alloc|apply Kd.R_drewN|apply Kd.R_drew));exact HO0_1.out,by repeat (first|(with_reducible first|exact HB.out|apply qf|apply qa|apply qd|refine qg ?_ GE199.out)|exact HB.out),by repeat (first|(with_reducible first|exact HK.out|apply Kept.alloc|apply Kept.drewN|apply Kept.drew|refine Kept.setCell ?_ (.inr GW199.out) _)|exact HK.out)⟩

/-! ### laws_markIntS: function 46 -/
def laws_markIntS.l0 : Nat → List Int → Int → Int → Option (Int × List Int)
  | 0,_,_,_=>none
  | k + 1,x0,x1,x5=>if x5 < (x0.length : Int) then (if 0 ≤ x5 then (laws_markIntS.l0 k (x0.set (x5 : Int).toNat x1) (wrap64 (x1 + 1)) (wrap64 (x5 + 1))) else (none)) else (some (x1,x0))
def laws_markIntS.f (k : Nat) (l0 : List Int) (a1 : Int) : Option (Int × List Int):=laws_markIntS.l0 k l0 a1 0
theorem laws_markIntS.mono_l : ∀ k,(∀ y0 y1 y2,LeO (laws_markIntS.l0 k y0 y1 y2) (laws_markIntS.l0 (k + 1) y0 y1 y2))
  | 0=>fun _ _ _ r h=>by simp [laws_markIntS.l0] at h
  | k + 1=>by
    have ih0:=laws_markIntS.mono_l k
    · intro y0 y1 y2
      unfold laws_markIntS.l0
      repeat' first
      | (with_reducible exact ih0 _ _ _)
      | (with_reducible exact LeO.refl _)
      | (with_reducible exact LeO.none _)
      | (with_reducible refine LeO.ite ?_ ?_)
      | (with_reducible refine LeO.bind ?_ (fun _=>?_))
      | exact ih0 _ _ _
      | exact LeO.none _
      | refine LeO.ite ?_ ?_
      | refine LeO.bind ?_ (fun _=>?_)
theorem laws_markIntS.mono : ∀ a0 a1 k,LeO (laws_markIntS.f k a0 a1) (laws_markIntS.f (k + 1) a0 a1):=by
  intro a0 a1 k
  have ih0:=laws_markIntS.mono_l k
  unfold laws_markIntS.f
  repeat' first
      | (with_reducible exact ih0 _ _ _)
      | (with_reducible exact LeO.refl _)
      | (with_reducible exact LeO.none _)
      | (with_reducible refine LeO.ite ?_ ?_)
      | (with_reducible refine LeO.bind ?_ (fun _=>?_))
      | exact ih0 _ _ _
      | exact LeO.none _
      | refine LeO.ite ?_ ?_
      | refine LeO.bind ?_ (fun _=>?_)
set_option maxHeartbeats 8000000 in
set_option maxRecDepth 100000 in
theorem laws_markIntS.calls (k : Nat) (P0_ : Nat → Prop) (u9000_ : Value) (l0 : List Int) (a1 : Int) (r1 : Int) (r2 : List Int) (w0 w : World) (hB : Below w0.heap.size w0 w) (ho0 : Kd.R (Kd.int .i64) 3 w w0.heap.size P0_ u9000_ l0) (h : laws_markIntS.f k l0 a1 = some (r1,r2)) :
    Calls Try.prog 46 #[u9000_,.int .i64 a1] w fun e w'=>e = .returned (.int .i64 r1) ∧ Kd.R (Kd.int .i64) 3 w' w0.heap.size (fun k_=>(P0_ k_ ∨ w.heap.size ≤ k_)) u9000_ r2 ∧ Below w0.heap.size w0 w' ∧ Kept w w' (fun k_=>P0_ k_):=by
  have HO0:=qn.mk (show Kd.R (Kd.int .i64) 3 w w0.heap.size (fun k_=>(P0_ k_ ∨ w.heap.size ≤ k_)) u9000_ l0 from Kd.R_mono ho0 (fun k_ hk=>(.inl hk)))
  have HK:=qn.mk (Kept.refl w (fun k_=>P0_ k_))
  have HW0:=qn.mk hB.size
  have HB:=qn.mk hB
  clear hB
  have H : (laws_markIntS.l0 k l0 a1 0) = some (r1,r2):=h
  clear h
  have H':=qn.mk H
  clear H
  go_enter Try.func46,Try.ntmps46
  go_wp2
  go_loopg [1,5] k (fun kq v1 v5 w'=>∃ (x0_1 : List Int) (x1_1 : Int) (x5_1 : Int),v1 = .int .i64 x1_1 ∧ v5 = .int .i64 x5_1 ∧ qn (laws_markIntS.l0 kq x0_1 x1_1 x5_1 = some (r1,r2)) ∧ qn (kq ≤ k) ∧ qn (Kd.R (Kd.int .i64) 3 w' w0.heap.size (fun k_=>(P0_ k_ ∨ w.heap.size ≤ k_)) u9000_ x0_1) ∧ qn (Kept w w' (fun k_=>P0_ k_)) ∧ qn (Below w0.heap.size w0 w'))
  case atStart=>exact ⟨(l0),(a1),(0),(by first|rfl|(simp;done)|(simp [*];done)),(by first|rfl|(simp;done)|(simp [*];done)),H',⟨Nat.le_refl _⟩,⟨by (with_reducible repeat (first|apply Kd.R_alloc|apply Kd.R_drewN|apply Kd.R_drew));exact HO0.out⟩,⟨by repeat (first|(with_reducible first|exact HK.out|apply Kept.alloc|apply Kept.drewN|apply Kept.drew)|exact HK.out)⟩,⟨by repeat (first|(with_reducible first|exact HB.out|apply qf|apply qa|apply qd)|exact HB.out)⟩⟩
  case round =>
    clear H'
    try clear p2
    obtain ⟨x0_1,x1_1,x5_1,rfl,rfl,HA,HK1,HO_0,HK,HB⟩:=hrel
    cases gk with
    | zero=>exact absurd HA.out (by simp [laws_markIntS.l0])
    | succ k1 =>
      have H:=HA.out
      clear HA
      simp only [laws_markIntS.l0] at H
      by_cases c3 : x5_1 < (x0_1.length : Int)
      · rw [if_pos c3] at H
        have c3b0 : decide (x5_1 < (x0_1.length : Int)) = true:=decide_eq_true c3
        clear c3
        by_cases c4 : 0 ≤ x5_1
        · rw [if_pos c4] at H
          have c4b0 : decide (0 ≤ x5_1) = true:=decide_eq_true c4
          clear c4
          obtain ⟨y202,hy202⟩ : ∃ y_ : List Int,y_ = (x0_1.set (x5_1 : Int).toNat x1_1):=⟨_,rfl⟩
          replace H : (laws_markIntS.l0 k1 y202 (wrap64 (x1_1 + 1)) (wrap64 (x5_1 + 1))) = some (r1,r2):=by first|(rw [hy202];with_reducible exact H)|(have H2_:=(Option.bind_some _ _).symm.trans H;rw [hy202];with_reducible exact H2_)|(have H2_:=(Option.bind_some _ _).symm.trans H;with_reducible exact H2_)|with_reducible exact H|(rw [hy202];exact H)|exact H
          have Ny202:=qn.mk hy202
          clear hy202
          have H':=qn.mk H
          clear H
          obtain ⟨Ao6,co6,eo6⟩:=Kd.R_slice HO_0.out
          subst eo6
          have p5 : 0 ≤ (x5_1 : Int):=of_decide_eq_true (by first|(with_reducible assumption)|assumption)
          have q5 : (x5_1 : Int) < ((x0_1.length : Int) : Int):=of_decide_eq_true (by first|(with_reducible assumption)|assumption)
          obtain ⟨go5,co5,eo5,gb5,gl5,cl5,HG5⟩:=Kd.R_form HO_0.out (by omega)
          (first|cases eo5|(injection eo5 with ea_ en_ ec_;(first|subst ea_|(injection ea_ with ea_;subst ea_));subst ec_;clear en_))
          have GB5:=qn.mk gb5
          have GG5:=qn.mk HG5
          clear gb5 gl5 HG5
          have HMgo5:=qn.mk (show (P0_ go5 ∨ w.heap.size ≤ go5) from (HO_0.out.1 _ rfl))
          obtain ⟨hx5_0,hf5_0⟩:=Kd.R_celln 0 HO_0.out (x5_1 : Int) p5 q5
          replace p5:=eq_true p5
          replace q5:=eq_true q5
          have HP7:=Kd.R_putg HO_0.out (x5_1 : Int) x1_1
          go_wp2_with (first|((with_reducible refine gate_store (t:=3) (p:=15) rfl ?_);refine store_event (t:=3) (p:=15) (v:=?vo_w8) (w1:=(wr.setCell ⟨go5,(x5_1 : Int).toNat,none⟩ (.int .i64 x1_1))) ?hg ?ho ?hn ?hr ?_;(case ho=>rfl);(case hg=>rfl);(case hn=>rfl);(case hr=>first|(go_simp;done)|(go_simp;rfl));intro w8 hw;have hg : wr.grownBy w8 (some go5):=(by rw [hw];exact HP7.2);have hp_ : Kd.R (Kd.int .i64) 3 w8 w0.heap.size (fun k_=>(P0_ k_ ∨ w.heap.size ≤ k_)) (.slice (some ⟨go5,0,none⟩) x0_1.length co6) y202:=(by rw [hw,Ny202.out];exact HP7.1);clear HP7;have n0_:=qn.mk (hp_);have n1_:=qn.mk ((by rw [hw];exact qg (HB.out) GB5.out : Below w0.heap.size w0 w8));have n2_:=qn.mk (Kept.of_grown (S:=(fun k_=>P0_ k_)) hg (by repeat (first|(with_reducible first|exact HK.out|apply Kept.alloc|apply Kept.drewN|apply Kept.drew)|exact HK.out)) (fun k_ e_=>(HO_0.out.1 k_ e_)));clear HO_0;clear HB;clear HK;have HO_0:=n0_;have HB:=n1_;have HK:=n2_;clear n0_ n1_ n2_;clear hg hw hp_))
          go_roundg k1
          case measure=>have:=HK1.out;omega
          case rel=>exact ⟨(y202),(wrap64 (x1_1 + 1)),(wrap64 (x5_1 + 1)),(by first|rfl|(simp;done)|(simp [*];done)),(by first|rfl|(simp;done)|(simp [*];done)),H',⟨by have:=HK1.out;omega⟩,⟨by (with_reducible repeat (first|apply Kd.R_alloc|apply Kd.R_drewN|apply Kd.R_drew));exact HO_0.out⟩,⟨by repeat (first|(with_reducible first|exact HK.out|apply Kept.alloc|apply Kept.drewN|apply Kept.drew)|exact HK.out)⟩,⟨by repeat (first|(with_reducible first|exact HB.out|apply qf|apply qa|apply qd)|exact HB.out)⟩⟩
        · rw [if_neg c4] at H
          exact absurd H (by simp)
      · rw [if_neg c3] at H
        have c3b0 : decide (x5_1 < (x0_1.length : Int)) = false:=decide_eq_false c3
        clear c3
        simp only [Option.some.injEq,Prod.mk.injEq] at H
        obtain ⟨rfl,rfl⟩:=H
        obtain ⟨Ao9,co9,eo9⟩:=Kd.R_slice HO_0.out
        subst eo9
        go_wp2
        go_ret
        exact ⟨by first|rfl|(simp [errW_none,errW_some] <;> rfl)|(simp [*,errW_none,errW_some] <;> rfl),by (with_reducible repeat (first|apply Kd.R_alloc|apply Kd.R_drewN|apply Kd.R_drew));exact HO_0.out,by repeat (first|(with_reducible first|exact HB.out|apply qf|apply qa|apply qd)|exact HB.out),by repeat (first|(with_reducible first|exact HK.out|apply Kept.alloc|apply Kept.drewN|apply Kept.drew)|exact HK.out)⟩

/-! ### laws_heldEdgeS: function 111 -/
def laws_heldEdgeS.l0 : Nat → List (S148) → Int → Int → Option (Int)
  | 0,_,_,_=>none
  | k + 1,x0,x1,x5=>if x5 < (x0.length : Int) then (if 0 ≤ x5 then (if ((rd_T148 x0 x5).f0) = x1 then (if ((rd_T148 x0 x5).f1) = (wrap64 (x1 + 1)) then (if ((rd_T148 x0 x5).f2) = (wrap64 ((wrap64 (x1 + 1)) + 1)) then (if ((rd_T148 x0 x5).f3) = (wrap64 ((wrap64 ((wrap64 (x1 + 1)) + 1)) + 1)) then (if ((rd_T148 x0 x5).f4) = (wrap64 ((wrap64 ((wrap64 ((wrap64 (x1 + 1)) + 1)) + 1)) + 1)) then (laws_heldEdgeS.l0 k x0 (wrap64 ((wrap64 ((wrap64 ((wrap64 ((wrap64 (x1 + 1)) + 1)) + 1)) + 1)) + 1)) (wrap64 (x5 + 1))) else (some (-1))) else (some (-1))) else (some (-1))) else (some (-1))) else (some (-1))) else (none)) else (some x1)
def laws_heldEdgeS.f (k : Nat) (l0 : List (S148)) (a1 : Int) : Option (Int):=laws_heldEdgeS.l0 k l0 a1 0
theorem laws_heldEdgeS.mono_l : ∀ k,(∀ y0 y1 y2,LeO (laws_heldEdgeS.l0 k y0 y1 y2) (laws_heldEdgeS.l0 (k + 1) y0 y1 y2))
  | 0=>fun _ _ _ r h=>by simp [laws_heldEdgeS.l0] at h
  | k + 1=>by
    have ih0:=laws_heldEdgeS.mono_l k
    · intro y0 y1 y2
      unfold laws_heldEdgeS.l0
      repeat' first
      | (with_reducible exact ih0 _ _ _)
      | (with_reducible exact LeO.refl _)
      | (with_reducible exact LeO.none _)
      | (with_reducible refine LeO.ite ?_ ?_)
      | (with_reducible refine LeO.bind ?_ (fun _=>?_))
      | exact ih0 _ _ _
      | exact LeO.none _
      | refine LeO.ite ?_ ?_
      | refine LeO.bind ?_ (fun _=>?_)
theorem laws_heldEdgeS.mono : ∀ a0 a1 k,LeO (laws_heldEdgeS.f k a0 a1) (laws_heldEdgeS.f (k + 1) a0 a1):=by
  intro a0 a1 k
  have ih0:=laws_heldEdgeS.mono_l k
  unfold laws_heldEdgeS.f
  repeat' first
      | (with_reducible exact ih0 _ _ _)
      | (with_reducible exact LeO.refl _)
      | (with_reducible exact LeO.none _)
      | (with_reducible refine LeO.ite ?_ ?_)
      | (with_reducible refine LeO.bind ?_ (fun _=>?_))
      | exact ih0 _ _ _
      | exact LeO.none _
      | refine LeO.ite ?_ ?_
      | refine LeO.bind ?_ (fun _=>?_)
set_option maxHeartbeats 8000000 in
set_option maxRecDepth 100000 in
theorem laws_heldEdgeS.calls (k : Nat) (A0 : Option Addr) (c0 : Nat) (l0 : List (S148)) (a1 : Int) (r : Int) (w : World) (hr0 : Kd.C k148 w A0 l0.length l0) (hc0 : l0.length ≤ c0) (h : laws_heldEdgeS.f k l0 a1 = some r) :
    Calls Try.prog 111 #[.slice A0 l0.length c0,.int .i64 a1] w fun e w'=>e = .returned (.int .i64 r) ∧ Drawn0 w w':=by
  have HR0:=qn.mk hr0
  have HC0:=qn.mk hc0
  clear hr0 hc0
  have H : (laws_heldEdgeS.l0 k l0 a1 0) = some r:=h
  clear h
  have H':=qn.mk H
  clear H
  go_enter Try.func111,Try.ntmps111
  go_wp2
  go_loopg [1,5] k (fun kq v1 v5 w'=>∃ (x1_1 : Int) (x5_1 : Int),v1 = .int .i64 x1_1 ∧ v5 = .int .i64 x5_1 ∧ qn (laws_heldEdgeS.l0 kq l0 x1_1 x5_1 = some r) ∧ qn (kq ≤ k) ∧ Drawn0 w w')
  case atStart=>exact ⟨(a1),(0),(by first|rfl|(simp;done)|(simp [*];done)),(by first|rfl|(simp;done)|(simp [*];done)),H',⟨Nat.le_refl _⟩,by repeat (first|exact Drawn0.refl _|apply Drawn0.step)⟩
  case round =>
    clear H'
    try clear c1
    try clear p2
    obtain ⟨x1_1,x5_1,rfl,rfl,HA,HK1,⟨m1,rfl⟩⟩:=hrel
    cases gk with
    | zero=>exact absurd HA.out (by simp [laws_heldEdgeS.l0])
    | succ k1 =>
      have H:=HA.out
      clear HA
      simp only [laws_heldEdgeS.l0] at H
      by_cases c3 : x5_1 < (l0.length : Int)
      · rw [if_pos c3] at H
        have c3b0 : decide (x5_1 < (l0.length : Int)) = true:=decide_eq_true c3
        clear c3
        by_cases c4 : 0 ≤ x5_1
        · rw [if_pos c4] at H
          have c4b0 : decide (0 ≤ x5_1) = true:=decide_eq_true c4
          clear c4
          by_cases c5 : ((rd_T148 l0 x5_1).f0) = x1_1
          · rw [if_pos c5] at H
            have c5b0 : (((rd_T148 l0 x5_1).f0) == x1_1) = true:=beq_iff_eq.mpr c5
            have c5b1 : (((rd_T148 l0 x5_1).f0) != x1_1) = false:=bne_eq_false_iff_eq.mpr c5
            clear c5
            by_cases c6 : ((rd_T148 l0 x5_1).f1) = (wrap64 (x1_1 + 1))
            · rw [if_pos c6] at H
              have c6b0 : (((rd_T148 l0 x5_1).f1) == (wrap64 (x1_1 + 1))) = true:=beq_iff_eq.mpr c6
              have c6b1 : (((rd_T148 l0 x5_1).f1) != (wrap64 (x1_1 + 1))) = false:=bne_eq_false_iff_eq.mpr c6
              clear c6
              by_cases c7 : ((rd_T148 l0 x5_1).f2) = (wrap64 ((wrap64 (x1_1 + 1)) + 1))
              · rw [if_pos c7] at H
                have c7b0 : (((rd_T148 l0 x5_1).f2) == (wrap64 ((wrap64 (x1_1 + 1)) + 1))) = true:=beq_iff_eq.mpr c7
                have c7b1 : (((rd_T148 l0 x5_1).f2) != (wrap64 ((wrap64 (x1_1 + 1)) + 1))) = false:=bne_eq_false_iff_eq.mpr c7
                clear c7
                by_cases c8 : ((rd_T148 l0 x5_1).f3) = (wrap64 ((wrap64 ((wrap64 (x1_1 + 1)) + 1)) + 1))
                · rw [if_pos c8] at H
                  have c8b0 : (((rd_T148 l0 x5_1).f3) == (wrap64 ((wrap64 ((wrap64 (x1_1 + 1)) + 1)) + 1))) = true:=beq_iff_eq.mpr c8
                  have c8b1 : (((rd_T148 l0 x5_1).f3) != (wrap64 ((wrap64 ((wrap64 (x1_1 + 1)) + 1)) + 1))) = false:=bne_eq_false_iff_eq.mpr c8
                  clear c8
                  by_cases c9 : ((rd_T148 l0 x5_1).f4) = (wrap64 ((wrap64 ((wrap64 ((wrap64 (x1_1 + 1)) + 1)) + 1)) + 1))
                  · rw [if_pos c9] at H
                    have c9b0 : (((rd_T148 l0 x5_1).f4) == (wrap64 ((wrap64 ((wrap64 ((wrap64 (x1_1 + 1)) + 1)) + 1)) + 1))) = true:=beq_iff_eq.mpr c9
                    have c9b1 : (((rd_T148 l0 x5_1).f4) != (wrap64 ((wrap64 ((wrap64 ((wrap64 (x1_1 + 1)) + 1)) + 1)) + 1))) = false:=bne_eq_false_iff_eq.mpr c9
                    clear c9
                    have H':=qn.mk H
                    clear H
                    have p203 : 0 ≤ (x5_1 : Int):=of_decide_eq_true (by first|(with_reducible assumption)|assumption)
                    have q203 : x5_1 < (l0.length : Int):=of_decide_eq_true (by first|(with_reducible assumption)|assumption)
                    obtain ⟨ad203,e203,hx203_0,hx203_1,hx203_2,hx203_3,hx203_4⟩:=at_T148 HR0.out x5_1 p203 q203
                    cases e203
                    replace p203:=eq_true p203
                    replace q203:=eq_true q203
                    have p204 : 0 ≤ (x5_1 : Int):=of_decide_eq_true (by first|(with_reducible assumption)|assumption)
                    have q204 : x5_1 < (l0.length : Int):=of_decide_eq_true (by first|(with_reducible assumption)|assumption)
                    obtain ⟨ad204,e204,hx204_0,hx204_1,hx204_2,hx204_3,hx204_4⟩:=at_T148 HR0.out x5_1 p204 q204
                    obtain rfl : ad203 = ad204:=(by injection e204)
                    replace p204:=eq_true p204
                    replace q204:=eq_true q204
                    have p205 : 0 ≤ (x5_1 : Int):=of_decide_eq_true (by first|(with_reducible assumption)|assumption)
                    have q205 : x5_1 < (l0.length : Int):=of_decide_eq_true (by first|(with_reducible assumption)|assumption)
                    obtain ⟨ad205,e205,hx205_0,hx205_1,hx205_2,hx205_3,hx205_4⟩:=at_T148 HR0.out x5_1 p205 q205
                    obtain rfl : ad203 = ad205:=(by injection e205)
                    replace p205:=eq_true p205
                    replace q205:=eq_true q205
                    have p206 : 0 ≤ (x5_1 : Int):=of_decide_eq_true (by first|(with_reducible assumption)|assumption)
                    have q206 : x5_1 < (l0.length : Int):=of_decide_eq_true (by first|(with_reducible assumption)|assumption)
                    obtain ⟨ad206,e206,hx206_0,hx206_1,hx206_2,hx206_3,hx206_4⟩:=at_T148 HR0.out x5_1 p206 q206
                    obtain rfl : ad203 = ad206:=(by injection e206)
                    replace p206:=eq_true p206
                    replace q206:=eq_true q206
                    have p207 : 0 ≤ (x5_1 : Int):=of_decide_eq_true (by first|(with_reducible assumption)|assumption)
                    have q207 : x5_1 < (l0.length : Int):=of_decide_eq_true (by first|(with_reducible assumption)|assumption)
                    obtain ⟨ad207,e207,hx207_0,hx207_1,hx207_2,hx207_3,hx207_4⟩:=at_T148 HR0.out x5_1 p207 q207
                    obtain rfl : ad203 = ad207:=(by injection e207)
                    replace p207:=eq_true p207
                    replace q207:=eq_true q207
                    go_wp2
                    go_roundg k1
                    case measure=>have:=HK1.out;omega
                    case rel=>exact ⟨(wrap64 ((wrap64 ((wrap64 ((wrap64 ((wrap64 (x1_1 + 1)) + 1)) + 1)) + 1)) + 1)),(wrap64 (x5_1 + 1)),(by first|rfl|(simp;done)|(simp [*];done)),(by first|rfl|(simp;done)|(simp [*];done)),H',⟨by have:=HK1.out;omega⟩,by repeat (first|exact Drawn0.refl _|apply Drawn0.step)⟩
                  · rw [if_neg c9] at H
                    have c9b0 : (((rd_T148 l0 x5_1).f4) == (wrap64 ((wrap64 ((wrap64 ((wrap64 (x1_1 + 1)) + 1)) + 1)) + 1))) = false:=beq_eq_false_iff_ne.mpr c9
                    have c9b1 : (((rd_T148 l0 x5_1).f4) != (wrap64 ((wrap64 ((wrap64 ((wrap64 (x1_1 + 1)) + 1)) + 1)) + 1))) = true:=bne_iff_ne.mpr c9
                    obtain rfl:=Option.some.inj H
                    have p203 : 0 ≤ (x5_1 : Int):=of_decide_eq_true (by first|(with_reducible assumption)|assumption)
                    have q203 : x5_1 < (l0.length : Int):=of_decide_eq_true (by first|(with_reducible assumption)|assumption)
                    obtain ⟨ad203,e203,hx203_0,hx203_1,hx203_2,hx203_3,hx203_4⟩:=at_T148 HR0.out x5_1 p203 q203
                    cases e203
                    replace p203:=eq_true p203
                    replace q203:=eq_true q203
                    have p204 : 0 ≤ (x5_1 : Int):=of_decide_eq_true (by first|(with_reducible assumption)|assumption)
                    have q204 : x5_1 < (l0.length : Int):=of_decide_eq_true (by first|(with_reducible assumption)|assumption)
                    obtain ⟨ad204,e204,hx204_0,hx204_1,hx204_2,hx204_3,hx204_4⟩:=at_T148 HR0.out x5_1 p204 q204
                    obtain rfl : ad203 = ad204:=(by injection e204)
                    replace p204:=eq_true p204
                    replace q204:=eq_true q204
                    have p205 : 0 ≤ (x5_1 : Int):=of_decide_eq_true (by first|(with_reducible assumption)|assumption)
                    have q205 : x5_1 < (l0.length : Int):=of_decide_eq_true (by first|(with_reducible assumption)|assumption)
                    obtain ⟨ad205,e205,hx205_0,hx205_1,hx205_2,hx205_3,hx205_4⟩:=at_T148 HR0.out x5_1 p205 q205
                    obtain rfl : ad203 = ad205:=(by injection e205)
                    replace p205:=eq_true p205
                    replace q205:=eq_true q205
                    have p206 : 0 ≤ (x5_1 : Int):=of_decide_eq_true (by first|(with_reducible assumption)|assumption)
                    have q206 : x5_1 < (l0.length : Int):=of_decide_eq_true (by first|(with_reducible assumption)|assumption)
                    obtain ⟨ad206,e206,hx206_0,hx206_1,hx206_2,hx206_3,hx206_4⟩:=at_T148 HR0.out x5_1 p206 q206
                    obtain rfl : ad203 = ad206:=(by injection e206)
                    replace p206:=eq_true p206
                    replace q206:=eq_true q206
                    have p207 : 0 ≤ (x5_1 : Int):=of_decide_eq_true (by first|(with_reducible assumption)|assumption)
                    have q207 : x5_1 < (l0.length : Int):=of_decide_eq_true (by first|(with_reducible assumption)|assumption)
                    obtain ⟨ad207,e207,hx207_0,hx207_1,hx207_2,hx207_3,hx207_4⟩:=at_T148 HR0.out x5_1 p207 q207
                    obtain rfl : ad203 = ad207:=(by injection e207)
                    replace p207:=eq_true p207
                    replace q207:=eq_true q207
                    go_wp2
                    go_ret
                    exact ⟨by first|rfl|(simp;done)|(simp [*];done),by repeat (first|exact Drawn0.refl _|apply Drawn0.step)⟩
                · rw [if_neg c8] at H
                  have c8b0 : (((rd_T148 l0 x5_1).f3) == (wrap64 ((wrap64 ((wrap64 (x1_1 + 1)) + 1)) + 1))) = false:=beq_eq_false_iff_ne.mpr c8
                  have c8b1 : (((rd_T148 l0 x5_1).f3) != (wrap64 ((wrap64 ((wrap64 (x1_1 + 1)) + 1)) + 1))) = true:=bne_iff_ne.mpr c8
                  obtain rfl:=Option.some.inj H
                  have p203 : 0 ≤ (x5_1 : Int):=of_decide_eq_true (by first|(with_reducible assumption)|assumption)
                  have q203 : x5_1 < (l0.length : Int):=of_decide_eq_true (by first|(with_reducible assumption)|assumption)
                  obtain ⟨ad203,e203,hx203_0,hx203_1,hx203_2,hx203_3,hx203_4⟩:=at_T148 HR0.out x5_1 p203 q203
                  cases e203
                  replace p203:=eq_true p203
                  replace q203:=eq_true q203
                  have p204 : 0 ≤ (x5_1 : Int):=of_decide_eq_true (by first|(with_reducible assumption)|assumption)
                  have q204 : x5_1 < (l0.length : Int):=of_decide_eq_true (by first|(with_reducible assumption)|assumption)
                  obtain ⟨ad204,e204,hx204_0,hx204_1,hx204_2,hx204_3,hx204_4⟩:=at_T148 HR0.out x5_1 p204 q204
                  obtain rfl : ad203 = ad204:=(by injection e204)
                  replace p204:=eq_true p204
                  replace q204:=eq_true q204
                  have p205 : 0 ≤ (x5_1 : Int):=of_decide_eq_true (by first|(with_reducible assumption)|assumption)
                  have q205 : x5_1 < (l0.length : Int):=of_decide_eq_true (by first|(with_reducible assumption)|assumption)
                  obtain ⟨ad205,e205,hx205_0,hx205_1,hx205_2,hx205_3,hx205_4⟩:=at_T148 HR0.out x5_1 p205 q205
                  obtain rfl : ad203 = ad205:=(by injection e205)
                  replace p205:=eq_true p205
                  replace q205:=eq_true q205
                  have p206 : 0 ≤ (x5_1 : Int):=of_decide_eq_true (by first|(with_reducible assumption)|assumption)
                  have q206 : x5_1 < (l0.length : Int):=of_decide_eq_true (by first|(with_reducible assumption)|assumption)
                  obtain ⟨ad206,e206,hx206_0,hx206_1,hx206_2,hx206_3,hx206_4⟩:=at_T148 HR0.out x5_1 p206 q206
                  obtain rfl : ad203 = ad206:=(by injection e206)
                  replace p206:=eq_true p206
                  replace q206:=eq_true q206
                  go_wp2
                  go_ret
                  exact ⟨by first|rfl|(simp;done)|(simp [*];done),by repeat (first|exact Drawn0.refl _|apply Drawn0.step)⟩
              · rw [if_neg c7] at H
                have c7b0 : (((rd_T148 l0 x5_1).f2) == (wrap64 ((wrap64 (x1_1 + 1)) + 1))) = false:=beq_eq_false_iff_ne.mpr c7
                have c7b1 : (((rd_T148 l0 x5_1).f2) != (wrap64 ((wrap64 (x1_1 + 1)) + 1))) = true:=bne_iff_ne.mpr c7
                obtain rfl:=Option.some.inj H
                have p203 : 0 ≤ (x5_1 : Int):=of_decide_eq_true (by first|(with_reducible assumption)|assumption)
                have q203 : x5_1 < (l0.length : Int):=of_decide_eq_true (by first|(with_reducible assumption)|assumption)
                obtain ⟨ad203,e203,hx203_0,hx203_1,hx203_2,hx203_3,hx203_4⟩:=at_T148 HR0.out x5_1 p203 q203
                cases e203
                replace p203:=eq_true p203
                replace q203:=eq_true q203
                have p204 : 0 ≤ (x5_1 : Int):=of_decide_eq_true (by first|(with_reducible assumption)|assumption)
                have q204 : x5_1 < (l0.length : Int):=of_decide_eq_true (by first|(with_reducible assumption)|assumption)
                obtain ⟨ad204,e204,hx204_0,hx204_1,hx204_2,hx204_3,hx204_4⟩:=at_T148 HR0.out x5_1 p204 q204
                obtain rfl : ad203 = ad204:=(by injection e204)
                replace p204:=eq_true p204
                replace q204:=eq_true q204
                have p205 : 0 ≤ (x5_1 : Int):=of_decide_eq_true (by first|(with_reducible assumption)|assumption)
                have q205 : x5_1 < (l0.length : Int):=of_decide_eq_true (by first|(with_reducible assumption)|assumption)
                obtain ⟨ad205,e205,hx205_0,hx205_1,hx205_2,hx205_3,hx205_4⟩:=at_T148 HR0.out x5_1 p205 q205
                obtain rfl : ad203 = ad205:=(by injection e205)
                replace p205:=eq_true p205
                replace q205:=eq_true q205
                go_wp2
                go_ret
                exact ⟨by first|rfl|(simp;done)|(simp [*];done),by repeat (first|exact Drawn0.refl _|apply Drawn0.step)⟩
            · rw [if_neg c6] at H
              have c6b0 : (((rd_T148 l0 x5_1).f1) == (wrap64 (x1_1 + 1))) = false:=beq_eq_false_iff_ne.mpr c6
              have c6b1 : (((rd_T148 l0 x5_1).f1) != (wrap64 (x1_1 + 1))) = true:=bne_iff_ne.mpr c6
              obtain rfl:=Option.some.inj H
              have p203 : 0 ≤ (x5_1 : Int):=of_decide_eq_true (by first|(with_reducible assumption)|assumption)
              have q203 : x5_1 < (l0.length : Int):=of_decide_eq_true (by first|(with_reducible assumption)|assumption)
              obtain ⟨ad203,e203,hx203_0,hx203_1,hx203_2,hx203_3,hx203_4⟩:=at_T148 HR0.out x5_1 p203 q203
              cases e203
              replace p203:=eq_true p203
              replace q203:=eq_true q203
              have p204 : 0 ≤ (x5_1 : Int):=of_decide_eq_true (by first|(with_reducible assumption)|assumption)
              have q204 : x5_1 < (l0.length : Int):=of_decide_eq_true (by first|(with_reducible assumption)|assumption)
              obtain ⟨ad204,e204,hx204_0,hx204_1,hx204_2,hx204_3,hx204_4⟩:=at_T148 HR0.out x5_1 p204 q204
              obtain rfl : ad203 = ad204:=(by injection e204)
              replace p204:=eq_true p204
              replace q204:=eq_true q204
              go_wp2
              go_ret
              exact ⟨by first|rfl|(simp;done)|(simp [*];done),by repeat (first|exact Drawn0.refl _|apply Drawn0.step)⟩
          · rw [if_neg c5] at H
            have c5b0 : (((rd_T148 l0 x5_1).f0) == x1_1) = false:=beq_eq_false_iff_ne.mpr c5
            have c5b1 : (((rd_T148 l0 x5_1).f0) != x1_1) = true:=bne_iff_ne.mpr c5
            obtain rfl:=Option.some.inj H
            have p203 : 0 ≤ (x5_1 : Int):=of_decide_eq_true (by first|(with_reducible assumption)|assumption)
            have q203 : x5_1 < (l0.length : Int):=of_decide_eq_true (by first|(with_reducible assumption)|assumption)
            obtain ⟨ad203,e203,hx203_0,hx203_1,hx203_2,hx203_3,hx203_4⟩:=at_T148 HR0.out x5_1 p203 q203
            cases e203
            replace p203:=eq_true p203
            replace q203:=eq_true q203
            go_wp2
            go_ret
            exact ⟨by first|rfl|(simp;done)|(simp [*];done),by repeat (first|exact Drawn0.refl _|apply Drawn0.step)⟩
        · rw [if_neg c4] at H
          exact absurd H (by simp)
      · rw [if_neg c3] at H
        have c3b0 : decide (x5_1 < (l0.length : Int)) = false:=decide_eq_false c3
        clear c3
        obtain rfl:=Option.some.inj H
        go_wp2
        go_ret
        exact ⟨by first|rfl|(simp;done)|(simp [*];done),by repeat (first|exact Drawn0.refl _|apply Drawn0.step)⟩

/-! ### laws_heldGraph: function 47 -/
def laws_heldGraph.f (k : Nat) (a0_0 : Int) (l0_1 : List (S148)) (a1 : Int) : Option (Int):=(laws_heldEdgeS.f k l0_1 a1).bind fun t209=>(if t209 < 0 then (some (-1)) else (some t209))
theorem laws_heldGraph.mono : ∀ a0 a1 a2 k,LeO (laws_heldGraph.f k a0 a1 a2) (laws_heldGraph.f (k + 1) a0 a1 a2):=by
  intro a0 a1 a2 k
  unfold laws_heldGraph.f
  repeat' first
      | (with_reducible exact laws_heldEdgeS.mono _ _ _)
      | (with_reducible exact LeO.refl _)
      | (with_reducible exact LeO.none _)
      | (with_reducible refine LeO.ite ?_ ?_)
      | (with_reducible refine LeO.bind ?_ (fun _=>?_))
      | exact laws_heldEdgeS.mono _ _ _
      | exact LeO.none _
      | refine LeO.ite ?_ ?_
      | refine LeO.bind ?_ (fun _=>?_)
set_option maxHeartbeats 8000000 in
set_option maxRecDepth 100000 in
theorem laws_heldGraph.calls (k : Nat) (a0_0 : Int) (A0_1 : Option Addr) (c0_1 : Nat) (l0_1 : List (S148)) (a1 : Int) (r : Int) (w : World) (hr0_1 : Kd.C k148 w A0_1 l0_1.length l0_1) (hc0_1 : l0_1.length ≤ c0_1) (h : laws_heldGraph.f k a0_0 l0_1 a1 = some r) :
    Calls Try.prog 47 #[.agg #[.int .i64 a0_0,.slice A0_1 l0_1.length c0_1],.int .i64 a1] w fun e w'=>e = .returned (.int .i64 r) ∧ Below w.heap.size w w':=by
  have hu56:=Try.underlying56
  have HR0_1:=qn.mk hr0_1
  have HC0_1:=qn.mk hc0_1
  clear hr0_1 hc0_1
  have HB:=qn.mk (Below.refl w.heap.size w)
  have H : ((laws_heldEdgeS.f k l0_1 a1).bind fun t209=>(if t209 < 0 then (some (-1)) else (some t209))) = some r:=h
  clear h
  replace H:=Option.bind_eq_some_iff.mp H
  obtain ⟨t209,A30,H⟩:=H
  replace H : (if t209 < 0 then (some (-1)) else (some t209)) = some r:=H
  have A3:=qn.mk A30
  clear A30
  by_cases c4 : t209 < 0
  · rw [if_pos c4] at H
    have c4b0 : decide (t209 < 0) = true:=decide_eq_true c4
    clear c4
    obtain rfl:=Option.some.inj H
    go_enter Try.func47,Try.ntmps47
    go_wp2_with (first|((with_reducible refine gate_dst (N:=2) rfl ?_);refine box_event ?hg (N:=2) ?hd (cs:=#[.int .i64 a0_0,.slice A0_1 l0_1.length c0_1]) (t:=56) ?hr ?_;(case hd=>rfl);(case hg=>rfl);(case hr=>first|(go_simp;done)|(go_simp;rfl));intro gb208 hg w5 hbox hb;have n0_:=hs_ HB hb;have n1_:=qn.mk (hbox);have n2_:=qn.mk ((by rw [hg];exact (qj (by repeat (first|(with_reducible first|exact HB.out|apply qf|apply qa|apply qd)|exact HB.out))) : w.heap.size ≤ gb208));have n3_:=qn.mk ((by rw [hg];exact (qj (by repeat (first|(with_reducible first|exact HB.out|apply qf|apply qa|apply qd)|exact HB.out))) : w.heap.size ≤ gb208));clear HB;have HB:=n0_;have BK208:=n1_;have GW208:=n2_;have GE208:=n3_;clear n0_ n1_ n2_ n3_;clear hb hbox hg;have hcz6_0 : w5.cell? ⟨gb208,0,none⟩ = some (.int .i64 a0_0):=(qh BK208.out 0).trans rfl;have hcz6_1 : w5.cell? ⟨gb208,1,none⟩ = some (.slice A0_1 l0_1.length c0_1):=(qh BK208.out 1).trans rfl;have hfz6_0:=qi BK208.out 0;have hfz6_1:=qi BK208.out 1)|((with_reducible refine gate_callee (f:=111) rfl ?_);refine goesL_ (some 8) rfl rfl Try.func111 (by kernel_rfl) rfl #[.slice A0_1 l0_1.length c0_1,.int .i64 a1] rfl (by (try simp only [List.map_toArray,List.map_cons,List.map_nil]);first|done|rfl|(simp only [List.length_drop,List.length_take];rfl)) ?_;(with_reducible refine (laws_heldEdgeS.calls k _ _ l0_1 a1 t209 _ ?side1 ?side2 A3.out).mono ?_);(case side1=>repeat (first|exact (Kd.C_below HR0_1.out HB.out)|(with_reducible refine Kd.C_alloc ?_ _)|(with_reducible refine Kd.C_drewN ?_ _)|(with_reducible refine Kd.C_drew ?_)));(case side2=>exact HC0_1.out);rintro e w' ⟨rfl,⟨nd,rfl⟩⟩;refine ⟨_,rfl,?_⟩))
    go_ret
    exact ⟨by first|rfl|(simp [errW_none,errW_some] <;> rfl)|(simp [*,errW_none,errW_some] <;> rfl),by repeat (first|(with_reducible first|exact HB.out|apply qf|apply qa|apply qd|refine qg ?_ GE208.out)|exact HB.out)⟩
  · rw [if_neg c4] at H
    have c4b0 : decide (t209 < 0) = false:=decide_eq_false c4
    clear c4
    obtain rfl:=Option.some.inj H
    go_enter Try.func47,Try.ntmps47
    go_wp2_with (first|((with_reducible refine gate_dst (N:=2) rfl ?_);refine box_event ?hg (N:=2) ?hd (cs:=#[.int .i64 a0_0,.slice A0_1 l0_1.length c0_1]) (t:=56) ?hr ?_;(case hd=>rfl);(case hg=>rfl);(case hr=>first|(go_simp;done)|(go_simp;rfl));intro gb208 hg w7 hbox hb;have n0_:=hs_ HB hb;have n1_:=qn.mk (hbox);have n2_:=qn.mk ((by rw [hg];exact (qj (by repeat (first|(with_reducible first|exact HB.out|apply qf|apply qa|apply qd)|exact HB.out))) : w.heap.size ≤ gb208));have n3_:=qn.mk ((by rw [hg];exact (qj (by repeat (first|(with_reducible first|exact HB.out|apply qf|apply qa|apply qd)|exact HB.out))) : w.heap.size ≤ gb208));clear HB;have HB:=n0_;have BK208:=n1_;have GW208:=n2_;have GE208:=n3_;clear n0_ n1_ n2_ n3_;clear hb hbox hg;have hcz8_0 : w7.cell? ⟨gb208,0,none⟩ = some (.int .i64 a0_0):=(qh BK208.out 0).trans rfl;have hcz8_1 : w7.cell? ⟨gb208,1,none⟩ = some (.slice A0_1 l0_1.length c0_1):=(qh BK208.out 1).trans rfl;have hfz8_0:=qi BK208.out 0;have hfz8_1:=qi BK208.out 1)|((with_reducible refine gate_callee (f:=111) rfl ?_);refine goesL_ (some 8) rfl rfl Try.func111 (by kernel_rfl) rfl #[.slice A0_1 l0_1.length c0_1,.int .i64 a1] rfl (by (try simp only [List.map_toArray,List.map_cons,List.map_nil]);first|done|rfl|(simp only [List.length_drop,List.length_take];rfl)) ?_;(with_reducible refine (laws_heldEdgeS.calls k _ _ l0_1 a1 t209 _ ?side1 ?side2 A3.out).mono ?_);(case side1=>repeat (first|exact (Kd.C_below HR0_1.out HB.out)|(with_reducible refine Kd.C_alloc ?_ _)|(with_reducible refine Kd.C_drewN ?_ _)|(with_reducible refine Kd.C_drew ?_)));(case side2=>exact HC0_1.out);rintro e w' ⟨rfl,⟨nd,rfl⟩⟩;refine ⟨_,rfl,?_⟩))
    go_ret
    exact ⟨by first|rfl|(simp [errW_none,errW_some] <;> rfl)|(simp [*,errW_none,errW_some] <;> rfl),by repeat (first|(with_reducible first|exact HB.out|apply qf|apply qa|apply qd|refine qg ?_ GE208.out)|exact HB.out)⟩

end Go.Proofs.Ytbonjmnpcklciaa.QFnExactInduced
