/- Lean functions for the Go functions that the law FnExactProofOk reaches, and that each Go function comes to just its Lean function's answer; by a program of this session. -/
import Derived.Test.YtcdofljgeiohgaaZFnExactProofOkx0
import Derived.Test.YtcdofljgeiohgaaZFnExactProofOkx1
import Derived.Test.YtcdofljgeiohgaaZFnExactProofOkx2
import Derived.Test.YtcdofljgeiohgaaZFnExactProofOkx3
import Derived.Test.YtcdofljgeiohgaaZFnExactProofOkx4
namespace Go.Proofs.Ytcdofljgeiohgaa.QFnExactProofOk
open Go.RowKit Go.Proofs.YtcdofljgeiohgaaW.PrintWords Go.Proofs.YtcdofljgeiohgaaW.PrintLast Go.Proofs.YtcdofljgeiohgaaW.PrintMore
attribute [local go_sem] max2_int min2_int max_two min_two max_three min_three max_four min_four   -- for this text's walks alone
set_option linter.unusedVariables false
set_option linter.unusedSimpArgs false

/-! ### spec_ProofOk: function 20 -/
mutual
def spec_ProofOk.j0 : Nat → Bool → Int → List (S101) → List Int → List (S97) → Option (Bool)
  | 0,_,_,_,_,_=>none
  | k + 1,x27,x136000,x136001,x137000,x137001=>if x27 = true then (some false) else (spec_ProofOk.l0 k 0 x136000 x136001 x137000 x137001)
def spec_ProofOk.l0 : Nat → Int → Int → List (S101) → List Int → List (S97) → Option (Bool)
  | 0,_,_,_,_,_=>none
  | k + 1,x5,x136000,x136001,x137000,x137001=>if x5 < (x137000.length : Int) then (if 0 ≤ x5 then ((spec_l01In.f (rd x137000 x5) 0 1000000000).bind fun t139=>(if t139 = true then (spec_ProofOk.l0 k (wrap64 (x5 + 1)) x136000 x136001 x137000 x137001) else (some false))) else (none)) else (spec_ProofOk.l1 k 0 x136000 x136001 x137000 x137001)
def spec_ProofOk.l1 : Nat → Int → Int → List (S101) → List Int → List (S97) → Option (Bool)
  | 0,_,_,_,_,_=>none
  | k + 1,x6,x136000,x136001,x137000,x137001=>if x6 < (x137001.length : Int) then (if 0 ≤ x6 then (if (((rd_T97 x137001 x6).f0).length : Int) < 3 then (spec_ProofOk.j3 k x6 true x136000 x136001 x137000 x137001 ((rd_T97 x137001 x6).f0) ((rd_T97 x137001 x6).f1)) else (if ((((rd_T97 x137001 x6).f0).length : Int) % 2) = 0 then (spec_ProofOk.j3 k x6 true x136000 x136001 x137000 x137001 ((rd_T97 x137001 x6).f0) ((rd_T97 x137001 x6).f1)) else (if (((rd_T97 x137001 x6).f0).length : Int) > x136000 then (spec_ProofOk.j3 k x6 true x136000 x136001 x137000 x137001 ((rd_T97 x137001 x6).f0) ((rd_T97 x137001 x6).f1)) else ((spec_l01In.f ((rd_T97 x137001 x6).f1) 1 1000000000).bind fun t142=>(spec_ProofOk.j3 k x6 (!t142) x136000 x136001 x137000 x137001 ((rd_T97 x137001 x6).f0) ((rd_T97 x137001 x6).f1)))))) else (none)) else (spec_ProofOk.l4 k 0 x136000 x136001 x137000 x137001)
def spec_ProofOk.j3 : Nat → Int → Bool → Int → List (S101) → List Int → List (S97) → List Int → Int → Option (Bool)
  | 0,_,_,_,_,_,_,_,_=>none
  | k + 1,x6,x78,x136000,x136001,x137000,x137001,x142000,x142001=>if x78 = true then (some false) else (spec_ProofOk.l2 k x6 0 x136000 x136001 x137000 x137001 x142000 x142001)
def spec_ProofOk.l2 : Nat → Int → Int → Int → List (S101) → List Int → List (S97) → List Int → Int → Option (Bool)
  | 0,_,_,_,_,_,_,_,_=>none
  | k + 1,x6,x8,x136000,x136001,x137000,x137001,x142000,x142001=>if x8 < (x142000.length : Int) then (if 0 ≤ x8 then ((spec_l01In.f (rd x142000 x8) 0 (wrap64 (x136000 - 1))).bind fun t144=>(if t144 = true then (if x8 > 0 then (if 0 ≤ (wrap64 (x8 - 1)) then (if (wrap64 (x8 - 1)) < (x142000.length : Int) then (if (rd x142000 (wrap64 (x8 - 1))) ≥ (rd x142000 x8) then (some false) else (spec_ProofOk.l2 k x6 (wrap64 (x8 + 1)) x136000 x136001 x137000 x137001 x142000 x142001)) else (none)) else (none)) else (spec_ProofOk.l2 k x6 (wrap64 (x8 + 1)) x136000 x136001 x137000 x137001 x142000 x142001)) else (some false))) else (none)) else (spec_ProofOk.l3 k x6 0 x136000 x136001 x137000 x137001 x142000 x142001)
def spec_ProofOk.l3 : Nat → Int → Int → Int → List (S101) → List Int → List (S97) → List Int → Int → Option (Bool)
  | 0,_,_,_,_,_,_,_,_=>none
  | k + 1,x6,x9,x136000,x136001,x137000,x137001,x142000,x142001=>if x9 < x6 then (if 0 ≤ x9 then (if x9 < (x137001.length : Int) then ((spec_l11Nested.f k ((rd_T97 x137001 x9).f0) x142000).bind fun t148=>(if t148 = true then (spec_ProofOk.l3 k x6 (wrap64 (x9 + 1)) x136000 x136001 x137000 x137001 x142000 x142001) else (some false))) else (none)) else (none)) else (spec_ProofOk.l1 k (wrap64 (x6 + 1)) x136000 x136001 x137000 x137001)
def spec_ProofOk.l4 : Nat → Int → Int → List (S101) → List Int → List (S97) → Option (Bool)
  | 0,_,_,_,_,_=>none
  | k + 1,x10,x136000,x136001,x137000,x137001=>if x10 < (x136001.length : Int) then (if 0 ≤ x10 then ((spec_l11Slack.f k x137000 x137001 ((rd_T101 x136001 x10).f0) ((rd_T101 x136001 x10).f1) ((rd_T101 x136001 x10).f2) ((rd_T101 x136001 x10).f3) ((rd_T101 x136001 x10).f4)).bind fun t150=>(if t150 < 0 then (some false) else (spec_ProofOk.l4 k (wrap64 (x10 + 1)) x136000 x136001 x137000 x137001))) else (none)) else (some true)
end
def spec_ProofOk.f (k : Nat) (a0_0 : Int) (l0_1 : List (S101)) (l1_0 : List Int) (l1_1 : List (S97)) : Option (Bool):=(spec_GraphOk.f k a0_0 l0_1).bind fun t137=>(if t137 = true then (if (l1_0.length : Int) = a0_0 then (spec_ProofOk.j0 k (decide ((l1_1.length : Int) > 8)) a0_0 l0_1 l1_0 l1_1) else (spec_ProofOk.j0 k true a0_0 l0_1 l1_0 l1_1)) else (spec_ProofOk.j0 k true a0_0 l0_1 l1_0 l1_1))
theorem spec_ProofOk.mono_l : ∀ k,(∀ y0 y1 y2 y3 y4,LeO (spec_ProofOk.j0 k y0 y1 y2 y3 y4) (spec_ProofOk.j0 (k + 1) y0 y1 y2 y3 y4)) ∧ (∀ y0 y1 y2 y3 y4,LeO (spec_ProofOk.l0 k y0 y1 y2 y3 y4) (spec_ProofOk.l0 (k + 1) y0 y1 y2 y3 y4)) ∧ (∀ y0 y1 y2 y3 y4,LeO (spec_ProofOk.l1 k y0 y1 y2 y3 y4) (spec_ProofOk.l1 (k + 1) y0 y1 y2 y3 y4)) ∧ (∀ y0 y1 y2 y3 y4 y5 y6 y7,LeO (spec_ProofOk.j3 k y0 y1 y2 y3 y4 y5 y6 y7) (spec_ProofOk.j3 (k + 1) y0 y1 y2 y3 y4 y5 y6 y7)) ∧ (∀ y0 y1 y2 y3 y4 y5 y6 y7,LeO (spec_ProofOk.l2 k y0 y1 y2 y3 y4 y5 y6 y7) (spec_ProofOk.l2 (k + 1) y0 y1 y2 y3 y4 y5 y6 y7)) ∧ (∀ y0 y1 y2 y3 y4 y5 y6 y7,LeO (spec_ProofOk.l3 k y0 y1 y2 y3 y4 y5 y6 y7) (spec_ProofOk.l3 (k + 1) y0 y1 y2 y3 y4 y5 y6 y7)) ∧ (∀ y0 y1 y2 y3 y4,LeO (spec_ProofOk.l4 k y0 y1 y2 y3 y4) (spec_ProofOk.l4 (k + 1) y0 y1 y2 y3 y4))
  | 0=>⟨fun _ _ _ _ _ r h=>by simp [spec_ProofOk.j0] at h,fun _ _ _ _ _ r h=>by simp [spec_ProofOk.l0] at h,fun _ _ _ _ _ r h=>by simp [spec_ProofOk.l1] at h,fun _ _ _ _ _ _ _ _ r h=>by simp [spec_ProofOk.j3] at h,fun _ _ _ _ _ _ _ _ r h=>by simp [spec_ProofOk.l2] at h,fun _ _ _ _ _ _ _ _ r h=>by simp [spec_ProofOk.l3] at h,fun _ _ _ _ _ r h=>by simp [spec_ProofOk.l4] at h⟩
  | k + 1=>by
    obtain ⟨ih0,ih1,ih2,ih3,ih4,ih5,ih6⟩:=spec_ProofOk.mono_l k
    refine ⟨?_,?_,?_,?_,?_,?_,?_⟩
    · intro y0 y1 y2 y3 y4
      unfold spec_ProofOk.j0
      repeat' first
      | (with_reducible exact ih0 _ _ _ _ _)
      | (with_reducible exact ih1 _ _ _ _ _)
      | (with_reducible exact ih2 _ _ _ _ _)
      | (with_reducible exact ih3 _ _ _ _ _ _ _ _)
      | (with_reducible exact ih4 _ _ _ _ _ _ _ _)
      | (with_reducible exact ih5 _ _ _ _ _ _ _ _)
      | (with_reducible exact ih6 _ _ _ _ _)
      | (with_reducible exact spec_GraphOk.mono _ _ _)
      | (with_reducible exact spec_l11Nested.mono _ _ _)
      | (with_reducible exact spec_l11Slack.mono _ _ _ _ _ _ _ _)
      | (with_reducible exact LeO.refl _)
      | (with_reducible exact LeO.none _)
      | (with_reducible refine LeO.ite ?_ ?_)
      | (with_reducible refine LeO.bind ?_ (fun _=>?_))
      | exact ih0 _ _ _ _ _
      | exact ih1 _ _ _ _ _
      | exact ih2 _ _ _ _ _
      | exact ih3 _ _ _ _ _ _ _ _
      | exact ih4 _ _ _ _ _ _ _ _
      | exact ih5 _ _ _ _ _ _ _ _
      | exact ih6 _ _ _ _ _
      | exact spec_GraphOk.mono _ _ _
      | exact spec_l11Nested.mono _ _ _
      | exact spec_l11Slack.mono _ _ _ _ _ _ _ _
      | exact LeO.none _
      | refine LeO.ite ?_ ?_
      | refine LeO.bind ?_ (fun _=>?_)
    · intro y0 y1 y2 y3 y4
      unfold spec_ProofOk.l0
      repeat' first
      | (with_reducible exact ih0 _ _ _ _ _)
      | (with_reducible exact ih1 _ _ _ _ _)
      | (with_reducible exact ih2 _ _ _ _ _)
      | (with_reducible exact ih3 _ _ _ _ _ _ _ _)
      | (with_reducible exact ih4 _ _ _ _ _ _ _ _)
      | (with_reducible exact ih5 _ _ _ _ _ _ _ _)
      | (with_reducible exact ih6 _ _ _ _ _)
      | (with_reducible exact spec_GraphOk.mono _ _ _)
      | (with_reducible exact spec_l11Nested.mono _ _ _)
      | (with_reducible exact spec_l11Slack.mono _ _ _ _ _ _ _ _)
      | (with_reducible exact LeO.refl _)
      | (with_reducible exact LeO.none _)
      | (with_reducible refine LeO.ite ?_ ?_)
      | (with_reducible refine LeO.bind ?_ (fun _=>?_))
      | exact ih0 _ _ _ _ _
      | exact ih1 _ _ _ _ _
      | exact ih2 _ _ _ _ _
      | exact ih3 _ _ _ _ _ _ _ _
      | exact ih4 _ _ _ _ _ _ _ _
      | exact ih5 _ _ _ _ _ _ _ _
      | exact ih6 _ _ _ _ _
      | exact spec_GraphOk.mono _ _ _
      | exact spec_l11Nested.mono _ _ _
      | exact spec_l11Slack.mono _ _ _ _ _ _ _ _
      | exact LeO.none _
      | refine LeO.ite ?_ ?_
      | refine LeO.bind ?_ (fun _=>?_)
    · intro y0 y1 y2 y3 y4
      unfold spec_ProofOk.l1
      repeat' first
      | (with_reducible exact ih0 _ _ _ _ _)
      | (with_reducible exact ih1 _ _ _ _ _)
      | (with_reducible exact ih2 _ _ _ _ _)
      | (with_reducible exact ih3 _ _ _ _ _ _ _ _)
      | (with_reducible exact ih4 _ _ _ _ _ _ _ _)
      | (with_reducible exact ih5 _ _ _ _ _ _ _ _)
      | (with_reducible exact ih6 _ _ _ _ _)
      | (with_reducible exact spec_GraphOk.mono _ _ _)
      | (with_reducible exact spec_l11Nested.mono _ _ _)
      | (with_reducible exact spec_l11Slack.mono _ _ _ _ _ _ _ _)
      | (with_reducible exact LeO.refl _)
      | (with_reducible exact LeO.none _)
      | (with_reducible refine LeO.ite ?_ ?_)
      | (with_reducible refine LeO.bind ?_ (fun _=>?_))
      | exact ih0 _ _ _ _ _
      | exact ih1 _ _ _ _ _
      | exact ih2 _ _ _ _ _
      | exact ih3 _ _ _ _ _ _ _ _
      | exact ih4 _ _ _ _ _ _ _ _
      | exact ih5 _ _ _ _ _ _ _ _
      | exact ih6 _ _ _ _ _
      | exact spec_GraphOk.mono _ _ _
      | exact spec_l11Nested.mono _ _ _
      | exact spec_l11Slack.mono _ _ _ _ _ _ _ _
      | exact LeO.none _
      | refine LeO.ite ?_ ?_
      | refine LeO.bind ?_ (fun _=>?_)
    · intro y0 y1 y2 y3 y4 y5 y6 y7
      unfold spec_ProofOk.j3
      repeat' first
      | (with_reducible exact ih0 _ _ _ _ _)
      | (with_reducible exact ih1 _ _ _ _ _)
      | (with_reducible exact ih2 _ _ _ _ _)
      | (with_reducible exact ih3 _ _ _ _ _ _ _ _)
      | (with_reducible exact ih4 _ _ _ _ _ _ _ _)
      | (with_reducible exact ih5 _ _ _ _ _ _ _ _)
      | (with_reducible exact ih6 _ _ _ _ _)
      | (with_reducible exact spec_GraphOk.mono _ _ _)
      | (with_reducible exact spec_l11Nested.mono _ _ _)
      | (with_reducible exact spec_l11Slack.mono _ _ _ _ _ _ _ _)
      | (with_reducible exact LeO.refl _)
      | (with_reducible exact LeO.none _)
      | (with_reducible refine LeO.ite ?_ ?_)
      | (with_reducible refine LeO.bind ?_ (fun _=>?_))
      | exact ih0 _ _ _ _ _
      | exact ih1 _ _ _ _ _
      | exact ih2 _ _ _ _ _
      | exact ih3 _ _ _ _ _ _ _ _
      | exact ih4 _ _ _ _ _ _ _ _
      | exact ih5 _ _ _ _ _ _ _ _
      | exact ih6 _ _ _ _ _
      | exact spec_GraphOk.mono _ _ _
      | exact spec_l11Nested.mono _ _ _
      | exact spec_l11Slack.mono _ _ _ _ _ _ _ _
      | exact LeO.none _
      | refine LeO.ite ?_ ?_
      | refine LeO.bind ?_ (fun _=>?_)
    · intro y0 y1 y2 y3 y4 y5 y6 y7
      unfold spec_ProofOk.l2
      repeat' first
      | (with_reducible exact ih0 _ _ _ _ _)
      | (with_reducible exact ih1 _ _ _ _ _)
      | (with_reducible exact ih2 _ _ _ _ _)
      | (with_reducible exact ih3 _ _ _ _ _ _ _ _)
      | (with_reducible exact ih4 _ _ _ _ _ _ _ _)
      | (with_reducible exact ih5 _ _ _ _ _ _ _ _)
      | (with_reducible exact ih6 _ _ _ _ _)
      | (with_reducible exact spec_GraphOk.mono _ _ _)
      | (with_reducible exact spec_l11Nested.mono _ _ _)
      | (with_reducible exact spec_l11Slack.mono _ _ _ _ _ _ _ _)
      | (with_reducible exact LeO.refl _)
      | (with_reducible exact LeO.none _)
      | (with_reducible refine LeO.ite ?_ ?_)
      | (with_reducible refine LeO.bind ?_ (fun _=>?_))
      | exact ih0 _ _ _ _ _
      | exact ih1 _ _ _ _ _
      | exact ih2 _ _ _ _ _
      | exact ih3 _ _ _ _ _ _ _ _
      | exact ih4 _ _ _ _ _ _ _ _
      | exact ih5 _ _ _ _ _ _ _ _
      | exact ih6 _ _ _ _ _
      | exact spec_GraphOk.mono _ _ _
      | exact spec_l11Nested.mono _ _ _
      | exact spec_l11Slack.mono _ _ _ _ _ _ _ _
      | exact LeO.none _
      | refine LeO.ite ?_ ?_
      | refine LeO.bind ?_ (fun _=>?_)
    · intro y0 y1 y2 y3 y4 y5 y6 y7
      unfold spec_ProofOk.l3
      repeat' first
      | (with_reducible exact ih0 _ _ _ _ _)
      | (with_reducible exact ih1 _ _ _ _ _)
      | (with_reducible exact ih2 _ _ _ _ _)
      | (with_reducible exact ih3 _ _ _ _ _ _ _ _)
      | (with_reducible exact ih4 _ _ _ _ _ _ _ _)
      | (with_reducible exact ih5 _ _ _ _ _ _ _ _)
      | (with_reducible exact ih6 _ _ _ _ _)
      | (with_reducible exact spec_GraphOk.mono _ _ _)
      | (with_reducible exact spec_l11Nested.mono _ _ _)
      | (with_reducible exact spec_l11Slack.mono _ _ _ _ _ _ _ _)
      | (with_reducible exact LeO.refl _)
      | (with_reducible exact LeO.none _)
      | (with_reducible refine LeO.ite ?_ ?_)
      | (with_reducible refine LeO.bind ?_ (fun _=>?_))
      | exact ih0 _ _ _ _ _
      | exact ih1 _ _ _ _ _
      | exact ih2 _ _ _ _ _
      | exact ih3 _ _ _ _ _ _ _ _
      | exact ih4 _ _ _ _ _ _ _ _
      | exact ih5 _ _ _ _ _ _ _ _
      | exact ih6 _ _ _ _ _
      | exact spec_GraphOk.mono _ _ _
      | exact spec_l11Nested.mono _ _ _
      | exact spec_l11Slack.mono _ _ _ _ _ _ _ _
      | exact LeO.none _
      | refine LeO.ite ?_ ?_
      | refine LeO.bind ?_ (fun _=>?_)
    · intro y0 y1 y2 y3 y4
      unfold spec_ProofOk.l4
      repeat' first
      | (with_reducible exact ih0 _ _ _ _ _)
      | (with_reducible exact ih1 _ _ _ _ _)
      | (with_reducible exact ih2 _ _ _ _ _)
      | (with_reducible exact ih3 _ _ _ _ _ _ _ _)
      | (with_reducible exact ih4 _ _ _ _ _ _ _ _)
      | (with_reducible exact ih5 _ _ _ _ _ _ _ _)
      | (with_reducible exact ih6 _ _ _ _ _)
      | (with_reducible exact spec_GraphOk.mono _ _ _)
      | (with_reducible exact spec_l11Nested.mono _ _ _)
      | (with_reducible exact spec_l11Slack.mono _ _ _ _ _ _ _ _)
      | (with_reducible exact LeO.refl _)
      | (with_reducible exact LeO.none _)
      | (with_reducible refine LeO.ite ?_ ?_)
      | (with_reducible refine LeO.bind ?_ (fun _=>?_))
      | exact ih0 _ _ _ _ _
      | exact ih1 _ _ _ _ _
      | exact ih2 _ _ _ _ _
      | exact ih3 _ _ _ _ _ _ _ _
      | exact ih4 _ _ _ _ _ _ _ _
      | exact ih5 _ _ _ _ _ _ _ _
      | exact ih6 _ _ _ _ _
      | exact spec_GraphOk.mono _ _ _
      | exact spec_l11Nested.mono _ _ _
      | exact spec_l11Slack.mono _ _ _ _ _ _ _ _
      | exact LeO.none _
      | refine LeO.ite ?_ ?_
      | refine LeO.bind ?_ (fun _=>?_)
theorem spec_ProofOk.mono : ∀ a0 a1 a2 a3 k,LeO (spec_ProofOk.f k a0 a1 a2 a3) (spec_ProofOk.f (k + 1) a0 a1 a2 a3):=by
  intro a0 a1 a2 a3 k
  obtain ⟨ih0,ih1,ih2,ih3,ih4,ih5,ih6⟩:=spec_ProofOk.mono_l k
  unfold spec_ProofOk.f
  repeat' first
      | (with_reducible exact ih0 _ _ _ _ _)
      | (with_reducible exact ih1 _ _ _ _ _)
      | (with_reducible exact ih2 _ _ _ _ _)
      | (with_reducible exact ih3 _ _ _ _ _ _ _ _)
      | (with_reducible exact ih4 _ _ _ _ _ _ _ _)
      | (with_reducible exact ih5 _ _ _ _ _ _ _ _)
      | (with_reducible exact ih6 _ _ _ _ _)
      | (with_reducible exact spec_GraphOk.mono _ _ _)
      | (with_reducible exact spec_l11Nested.mono _ _ _)
      | (with_reducible exact spec_l11Slack.mono _ _ _ _ _ _ _ _)
      | (with_reducible exact LeO.refl _)
      | (with_reducible exact LeO.none _)
      | (with_reducible refine LeO.ite ?_ ?_)
      | (with_reducible refine LeO.bind ?_ (fun _=>?_))
      | exact ih0 _ _ _ _ _
      | exact ih1 _ _ _ _ _
      | exact ih2 _ _ _ _ _
      | exact ih3 _ _ _ _ _ _ _ _
      | exact ih4 _ _ _ _ _ _ _ _
      | exact ih5 _ _ _ _ _ _ _ _
      | exact ih6 _ _ _ _ _
      | exact spec_GraphOk.mono _ _ _
      | exact spec_l11Nested.mono _ _ _
      | exact spec_l11Slack.mono _ _ _ _ _ _ _ _
      | exact LeO.none _
      | refine LeO.ite ?_ ?_
      | refine LeO.bind ?_ (fun _=>?_)
def spec_ProofOk.T17 : Bool × List (List Nat × List Nat):=(true,[([],[]),([0],[0]),([],[]),([1,2],[1,2]),([3],[3]),([],[]),([5],[5]),([6],[6]),([4,7],[4,7]),([8],[8]),([9,8],[9]),([10],[10]),([11,10],[10,11]),([12,10,10],[10,12]),([13],[13]),([14,13],[13,14]),([13],[13]),([16,13],[13,16]),([15,17,13],[13,15,17]),([18,13],[13,18]),([13],[13]),([20,13],[13,20]),([13],[13]),([21,22,13],[13,21,22]),([23,13],[13,23]),([19,24,13],[13,19,24]),([13,25,10],[10,13,25]),([10,26],[10,26])])
def spec_ProofOk.B17 : List Nat:=[0,1,0,7,15,0,32,96,255,511,1023,2047,4095,8191,16383,32767,16383,81919,262143,524287,16383,1064959,16383,7356415,15745023,33554431,67108863,134217727]
theorem spec_ProofOk.tab17 : rtab .any (opsOf Try.f20 17) = spec_ProofOk.T17:=by kernel_rfl
theorem spec_ProofOk.bits17 : waitsOk spec_ProofOk.T17.2 spec_ProofOk.B17 = true:=by kernel_rfl
def spec_ProofOk.T22 : Bool × List (List Nat × List Nat):=(true,[([],[]),([0],[0]),([],[]),([1,2],[1,2]),([3],[3]),([4],[4]),([],[]),([6],[6]),([5,7],[5,7]),([8],[8])])
def spec_ProofOk.B22 : List Nat:=[0,1,0,7,15,31,0,64,255,511]
theorem spec_ProofOk.tab22 : rtab .any (opsOf Try.f20 22) = spec_ProofOk.T22:=by kernel_rfl
theorem spec_ProofOk.bits22 : waitsOk spec_ProofOk.T22.2 spec_ProofOk.B22 = true:=by kernel_rfl
def spec_ProofOk.T27 : Bool × List (List Nat × List Nat):=(true,[([],[]),([],[]),([1],[1]),([],[]),([2,3],[2,3]),([4],[4]),([0,5],[0,5]),([6],[6])])
def spec_ProofOk.B27 : List Nat:=[0,0,2,0,14,30,63,127]
theorem spec_ProofOk.tab27 : rtab .any (opsOf Try.f20 27) = spec_ProofOk.T27:=by kernel_rfl
theorem spec_ProofOk.bits27 : waitsOk spec_ProofOk.T27.2 spec_ProofOk.B27 = true:=by kernel_rfl
set_option maxHeartbeats 8000000 in
set_option maxRecDepth 100000 in
theorem spec_ProofOk.calls (k : Nat) (a0_0 : Int) (A0_1 : Option Addr) (c0_1 : Nat) (l0_1 : List (S101)) (A1_0 : Option Addr) (c1_0 : Nat) (l1_0 : List Int) (A1_1 : Option Addr) (c1_1 : Nat) (l1_1 : List (S97)) (r : Bool) (w : World) (hr0_1 : Kd.C k101 w A0_1 l0_1.length l0_1) (hc0_1 : l0_1.length ≤ c0_1) (hr1_0 : Kd.C (Kd.int .i64) w A1_0 l1_0.length l1_0) (hc1_0 : l1_0.length ≤ c1_0) (hr1_1 : Kd.C k97 w A1_1 l1_1.length l1_1) (hc1_1 : l1_1.length ≤ c1_1) (h : spec_ProofOk.f k a0_0 l0_1 l1_0 l1_1 = some r) :
    Calls Try.prog 20 #[.agg #[.int .i64 a0_0,.slice A0_1 l0_1.length c0_1],.agg #[.slice A1_0 l1_0.length c1_0,.slice A1_1 l1_1.length c1_1]] w fun e w'=>e = .returned (.bool r) ∧ Below w.heap.size w w':=by
  have hu61:=Try.underlying61
  have hu65:=Try.underlying65
  have hu97:=Try.underlying97
  have hu101:=Try.underlying101
  have HR0_1:=qn.mk hr0_1
  have HC0_1:=qn.mk hc0_1
  clear hr0_1 hc0_1
  have HR1_0:=qn.mk hr1_0
  have HC1_0:=qn.mk hc1_0
  clear hr1_0 hc1_0
  have HR1_1:=qn.mk hr1_1
  have HC1_1:=qn.mk hc1_1
  clear hr1_1 hc1_1
  have HB:=qn.mk (Below.refl w.heap.size w)
  have H : ((spec_GraphOk.f k a0_0 l0_1).bind fun t137=>(if t137 = true then (if (l1_0.length : Int) = a0_0 then (spec_ProofOk.j0 k (decide ((l1_1.length : Int) > 8)) a0_0 l0_1 l1_0 l1_1) else (spec_ProofOk.j0 k true a0_0 l0_1 l1_0 l1_1)) else (spec_ProofOk.j0 k true a0_0 l0_1 l1_0 l1_1))) = some r:=h
  clear h
  have HC3:=qn.mk H
  clear H
  go_enter Try.func20,Try.ntmps20
  go_upto_region 1 with (first|((with_reducible refine gate_dst (N:=2) rfl ?_);(try (refine gate_guard (by rfl) ?_;dsimp only));refine box_event ?hg (N:=2) ?hd (cs:=#[.int .i64 a0_0,.slice A0_1 l0_1.length c0_1]) (t:=61) ?hr ?_;(case hd=>rfl);(case hg=>rfl);(case hr=>first|(go_simp;done)|(go_simp;rfl));intro gb135 hg w4 hbox hb;have n0_:=hs_ HB hb;have n1_:=qn.mk (hbox);have n2_:=qn.mk ((by rw [hg];exact (qj (by repeat (first|(with_reducible first|exact HB.out|apply qf|apply qa|apply qd)|exact HB.out))) : w.heap.size ≤ gb135));have n3_:=qn.mk ((by rw [hg];exact (qj (by repeat (first|(with_reducible first|exact HB.out|apply qf|apply qa|apply qd)|exact HB.out))) : w.heap.size ≤ gb135));clear HB;have HB:=n0_;have BK135:=n1_;have GW135:=n2_;have GE135:=n3_;clear n0_ n1_ n2_ n3_;clear hb hbox hg)|((with_reducible refine gate_dst (N:=3) rfl ?_);(try (refine gate_guard (by rfl) ?_;dsimp only));refine box_event ?hg (N:=3) ?hd (cs:=#[.slice A1_0 l1_0.length c1_0,.slice A1_1 l1_1.length c1_1]) (t:=65) ?hr ?_;(case hd=>rfl);(case hg=>rfl);(case hr=>first|(go_simp;done)|(go_simp;rfl));intro gb136 hg w5 hbox hb;have n0_:=bb_ BK135 hb;have n1_:=hs_ HB hb;have n2_:=qn.mk (hbox);have n3_:=qn.mk ((by rw [hg];exact (qj (by repeat (first|(with_reducible first|exact HB.out|apply qf|apply qa|apply qd|refine qg ?_ GE135.out)|exact HB.out))) : w.heap.size ≤ gb136));have n4_:=qn.mk ((by rw [hg];exact (qj (by repeat (first|(with_reducible first|exact HB.out|apply qf|apply qa|apply qd|refine qg ?_ GE135.out)|exact HB.out))) : w.heap.size ≤ gb136));have n5_:=qn.mk ((by rw [hg];exact nl_ BK135 : gb135 ≠ gb136));have n6_:=qn.mk ((by rw [hg];exact ng_ BK135 : gb136 ≠ gb135));clear BK135;clear HB;have BK135:=n0_;have HB:=n1_;have BK136:=n2_;have GW136:=n3_;have GE136:=n4_;have NB135_136:=n5_;have NB136_135:=n6_;clear n0_ n1_ n2_ n3_ n4_ n5_ n6_;clear hb hbox hg))
  (try simp only [Act.put,List.setIfInBounds_toArray,List.set_cons_zero,List.set_cons_succ])
  go_cut [27] (fun v27 wc=>∃ (kq : Nat) (x27_2 : Bool),v27 = .bool x27_2 ∧ qn (spec_ProofOk.j0 kq x27_2 a0_0 l0_1 l1_0 l1_1 = some r) ∧ qn (kq ≤ k) ∧ qn (wc.heap[gb135]? = some (.cells #[.int .i64 a0_0,(.slice A0_1 l0_1.length c0_1)] 61 (0,0))) ∧ qn (wc.heap[gb136]? = some (.cells #[(.slice A1_0 l1_0.length c1_0),(.slice A1_1 l1_1.length c1_1)] 65 (0,0))) ∧ qn (Below w.heap.size w wc))
  case first =>
    have H:=HC3.out
    clear HC3
    replace H:=Option.bind_eq_some_iff.mp H
    obtain ⟨t137,A60,H⟩:=H
    replace H : (if t137 = true then (if (l1_0.length : Int) = a0_0 then (spec_ProofOk.j0 k (decide ((l1_1.length : Int) > 8)) a0_0 l0_1 l1_0 l1_1) else (spec_ProofOk.j0 k true a0_0 l0_1 l1_0 l1_1)) else (spec_ProofOk.j0 k true a0_0 l0_1 l1_0 l1_1)) = some r:=H
    have A6:=qn.mk A60
    clear A60
    by_cases c7 : t137 = true
    · subst c7
      have H1 : (if (l1_0.length : Int) = a0_0 then (spec_ProofOk.j0 k (decide ((l1_1.length : Int) > 8)) a0_0 l0_1 l1_0 l1_1) else (spec_ProofOk.j0 k true a0_0 l0_1 l1_0 l1_1)) = some r:=by rw [if_pos rfl] at H;exact H
      clear H
      have H:=H1
      clear H1
      by_cases c8 : (l1_0.length : Int) = a0_0
      · rw [if_pos c8] at H
        have c8b0 : ((l1_0.length : Int) == a0_0) = true:=beq_iff_eq.mpr c8
        have c8b1 : ((l1_0.length : Int) != a0_0) = false:=bne_eq_false_iff_eq.mpr c8
        clear c8
        (first|rw [c8b0]|(simp only [i64_w,i32_w];rw [c8b0])|skip)
        have H':=qn.mk H
        clear H
        have hnb9:=NB135_136.out
        have hnc9:=NB136_135.out
        have hcz10_0 : w5.cell? ⟨gb135,0,none⟩ = some (.int .i64 a0_0):=(qh BK135.out 0).trans rfl
        have hcz10_1 : w5.cell? ⟨gb135,1,none⟩ = some (.slice A0_1 l0_1.length c0_1):=(qh BK135.out 1).trans rfl
        have hfz10_0:=qi BK135.out 0
        have hfz10_1:=qi BK135.out 1
        go_wp2_with (first|((with_reducible refine gate_callee (f:=51) rfl ?_);refine goesL_ (some 12) rfl rfl Try.func51 (by kernel_rfl) rfl #[.agg #[.int .i64 a0_0,.slice A0_1 l0_1.length c0_1]] rfl (by (try simp only [List.map_toArray,List.map_cons,List.map_nil]);first|done|rfl|(simp only [List.length_drop,List.length_take];rfl)) ?_;(with_reducible refine (spec_GraphOk.calls k a0_0 _ _ l0_1 true _ ?side1 ?side2 A6.out).mono ?_);(case side1=>repeat (first|exact (Kd.C_below HR0_1.out HB.out)|(with_reducible refine Kd.C_alloc ?_ _)|(with_reducible refine Kd.C_drewN ?_ _)|(with_reducible refine Kd.C_drew ?_)));(case side2=>exact HC0_1.out);rintro e w11 ⟨rfl,hb⟩;refine ⟨_,rfl,?_⟩;have n0_:=bb_ BK135 hb;have n1_:=bb_ BK136 hb;have n2_:=hs_ HB hb;clear BK135;clear BK136;clear HB;have BK135:=n0_;have BK136:=n1_;have HB:=n2_;clear n0_ n1_ n2_;(try clear hb);(try clear hb2);(try clear hk);(try clear hi);have hcz12_0 : w11.cell? ⟨gb136,0,none⟩ = some (.slice A1_0 l1_0.length c1_0):=(qh BK136.out 0).trans rfl;have hcz12_1 : w11.cell? ⟨gb136,1,none⟩ = some (.slice A1_1 l1_1.length c1_1):=(qh BK136.out 1).trans rfl;have hfz12_0:=qi BK136.out 0;have hfz12_1:=qi BK136.out 1;have hcz13_0 : w11.cell? ⟨gb135,0,none⟩ = some (.int .i64 a0_0):=(qh BK135.out 0).trans rfl;have hcz13_1 : w11.cell? ⟨gb135,1,none⟩ = some (.slice A0_1 l0_1.length c0_1):=(qh BK135.out 1).trans rfl;have hfz13_0:=qi BK135.out 0;have hfz13_1:=qi BK135.out 1))
        go_meet
        case rel=>exact ⟨_,(decide ((l1_1.length : Int) > 8)),(by first|rfl|(simp;done)|(simp [*];done)),H',⟨by first|omega|exact Nat.le_refl _⟩,⟨by (with_reducible repeat (first|refine qb ?_ _|refine qe ?_|refine qc ?_ _));exact BK135.out⟩,⟨by (with_reducible repeat (first|refine qb ?_ _|refine qe ?_|refine qc ?_ _));exact BK136.out⟩,⟨by repeat (first|(with_reducible first|exact HB.out|apply qf|apply qa|apply qd|refine qg ?_ GE135.out|refine qg ?_ GE136.out)|exact HB.out)⟩⟩
      · rw [if_neg c8] at H
        have c8b0 : ((l1_0.length : Int) == a0_0) = false:=beq_eq_false_iff_ne.mpr c8
        have c8b1 : ((l1_0.length : Int) != a0_0) = true:=bne_iff_ne.mpr c8
        (first|rw [c8b0]|(simp only [i64_w,i32_w];rw [c8b0])|skip)
        have H':=qn.mk H
        clear H
        have hnb14:=NB135_136.out
        have hnc14:=NB136_135.out
        have hcz15_0 : w5.cell? ⟨gb135,0,none⟩ = some (.int .i64 a0_0):=(qh BK135.out 0).trans rfl
        have hcz15_1 : w5.cell? ⟨gb135,1,none⟩ = some (.slice A0_1 l0_1.length c0_1):=(qh BK135.out 1).trans rfl
        have hfz15_0:=qi BK135.out 0
        have hfz15_1:=qi BK135.out 1
        go_wp2_with (first|((with_reducible refine gate_callee (f:=51) rfl ?_);refine goesL_ (some 12) rfl rfl Try.func51 (by kernel_rfl) rfl #[.agg #[.int .i64 a0_0,.slice A0_1 l0_1.length c0_1]] rfl (by (try simp only [List.map_toArray,List.map_cons,List.map_nil]);first|done|rfl|(simp only [List.length_drop,List.length_take];rfl)) ?_;(with_reducible refine (spec_GraphOk.calls k a0_0 _ _ l0_1 true _ ?side1 ?side2 A6.out).mono ?_);(case side1=>repeat (first|exact (Kd.C_below HR0_1.out HB.out)|(with_reducible refine Kd.C_alloc ?_ _)|(with_reducible refine Kd.C_drewN ?_ _)|(with_reducible refine Kd.C_drew ?_)));(case side2=>exact HC0_1.out);rintro e w16 ⟨rfl,hb⟩;refine ⟨_,rfl,?_⟩;have n0_:=bb_ BK135 hb;have n1_:=bb_ BK136 hb;have n2_:=hs_ HB hb;clear BK135;clear BK136;clear HB;have BK135:=n0_;have BK136:=n1_;have HB:=n2_;clear n0_ n1_ n2_;(try clear hb);(try clear hb2);(try clear hk);(try clear hi);have hcz17_0 : w16.cell? ⟨gb136,0,none⟩ = some (.slice A1_0 l1_0.length c1_0):=(qh BK136.out 0).trans rfl;have hcz17_1 : w16.cell? ⟨gb136,1,none⟩ = some (.slice A1_1 l1_1.length c1_1):=(qh BK136.out 1).trans rfl;have hfz17_0:=qi BK136.out 0;have hfz17_1:=qi BK136.out 1;have hcz18_0 : w16.cell? ⟨gb135,0,none⟩ = some (.int .i64 a0_0):=(qh BK135.out 0).trans rfl;have hcz18_1 : w16.cell? ⟨gb135,1,none⟩ = some (.slice A0_1 l0_1.length c0_1):=(qh BK135.out 1).trans rfl;have hfz18_0:=qi BK135.out 0;have hfz18_1:=qi BK135.out 1))
        go_meet
        case rel=>exact ⟨_,(true),(by first|rfl|(simp;done)|(simp [*];done)),H',⟨by first|omega|exact Nat.le_refl _⟩,⟨by (with_reducible repeat (first|refine qb ?_ _|refine qe ?_|refine qc ?_ _));exact BK135.out⟩,⟨by (with_reducible repeat (first|refine qb ?_ _|refine qe ?_|refine qc ?_ _));exact BK136.out⟩,⟨by repeat (first|(with_reducible first|exact HB.out|apply qf|apply qa|apply qd|refine qg ?_ GE135.out|refine qg ?_ GE136.out)|exact HB.out)⟩⟩
    · replace c7:=Bool.eq_false_iff.mpr c7
      subst c7
      have H1 : (spec_ProofOk.j0 k true a0_0 l0_1 l1_0 l1_1) = some r:=by rw [if_neg (show ¬ (false = true) by decide)] at H;exact H
      clear H
      have H:=H1
      clear H1
      have H':=qn.mk H
      clear H
      have hnb19:=NB135_136.out
      have hnc19:=NB136_135.out
      have hcz20_0 : w5.cell? ⟨gb135,0,none⟩ = some (.int .i64 a0_0):=(qh BK135.out 0).trans rfl
      have hcz20_1 : w5.cell? ⟨gb135,1,none⟩ = some (.slice A0_1 l0_1.length c0_1):=(qh BK135.out 1).trans rfl
      have hfz20_0:=qi BK135.out 0
      have hfz20_1:=qi BK135.out 1
      go_wp2_with (first|((with_reducible refine gate_callee (f:=51) rfl ?_);refine goesL_ (some 12) rfl rfl Try.func51 (by kernel_rfl) rfl #[.agg #[.int .i64 a0_0,.slice A0_1 l0_1.length c0_1]] rfl (by (try simp only [List.map_toArray,List.map_cons,List.map_nil]);first|done|rfl|(simp only [List.length_drop,List.length_take];rfl)) ?_;(with_reducible refine (spec_GraphOk.calls k a0_0 _ _ l0_1 false _ ?side1 ?side2 A6.out).mono ?_);(case side1=>repeat (first|exact (Kd.C_below HR0_1.out HB.out)|(with_reducible refine Kd.C_alloc ?_ _)|(with_reducible refine Kd.C_drewN ?_ _)|(with_reducible refine Kd.C_drew ?_)));(case side2=>exact HC0_1.out);rintro e w21 ⟨rfl,hb⟩;refine ⟨_,rfl,?_⟩;have n0_:=bb_ BK135 hb;have n1_:=bb_ BK136 hb;have n2_:=hs_ HB hb;clear BK135;clear BK136;clear HB;have BK135:=n0_;have BK136:=n1_;have HB:=n2_;clear n0_ n1_ n2_;(try clear hb);(try clear hb2);(try clear hk);(try clear hi)))
      go_meet
      case rel=>exact ⟨_,(true),(by first|rfl|(simp;done)|(simp [*];done)),H',⟨by first|omega|exact Nat.le_refl _⟩,⟨by (with_reducible repeat (first|refine qb ?_ _|refine qe ?_|refine qc ?_ _));exact BK135.out⟩,⟨by (with_reducible repeat (first|refine qb ?_ _|refine qe ?_|refine qc ?_ _));exact BK136.out⟩,⟨by repeat (first|(with_reducible first|exact HB.out|apply qf|apply qa|apply qd|refine qg ?_ GE135.out|refine qg ?_ GE136.out)|exact HB.out)⟩⟩
  case rest =>
    clear HC3
    try clear c1
    try clear c2
    try clear p2
    try clear c5
    try clear c7
    try clear c8
    try clear c8b0
    try clear c8b1
    try clear c9
    try clear c14
    try clear c19
    try clear c20
    try clear hcz10_0
    try clear hcz10_1
    try clear hcz12_0
    try clear hcz12_1
    try clear hcz13_0
    try clear hcz13_1
    try clear hcz15_0
    try clear hcz15_1
    try clear hcz17_0
    try clear hcz17_1
    try clear hcz18_0
    try clear hcz18_1
    try clear hcz20_0
    try clear hcz20_1
    try clear hfz10_0
    try clear hfz10_1
    try clear hfz12_0
    try clear hfz12_1
    try clear hfz13_0
    try clear hfz13_1
    try clear hfz15_0
    try clear hfz15_1
    try clear hfz17_0
    try clear hfz17_1
    try clear hfz18_0
    try clear hfz18_1
    try clear hfz20_0
    try clear hfz20_1
    obtain ⟨kq,x27_2,rfl,HA,HJ2,BK135,BK136,HB⟩:=hcut
    cases kq with
    | zero=>exact absurd HA.out (by simp [spec_ProofOk.j0])
    | succ kj2 =>
      have H:=HA.out
      clear HA
      simp only [spec_ProofOk.j0] at H
      by_cases c22 : x27_2 = true
      · subst c22
        have H1 : (some false) = some r:=by rw [if_pos rfl] at H;exact H
        clear H
        have H:=H1
        clear H1
        obtain rfl:=Option.some.inj H
        go_wp2
        go_ret
        exact ⟨by first|rfl|(simp [errW_none,errW_some] <;> rfl)|(simp [*,errW_none,errW_some] <;> rfl),by repeat (first|(with_reducible first|exact HB.out|apply qf|apply qa|apply qd|refine qg ?_ GE135.out|refine qg ?_ GE136.out)|exact HB.out)⟩
      · replace c22:=Bool.eq_false_iff.mpr c22
        subst c22
        have H1 : (spec_ProofOk.l0 kj2 0 a0_0 l0_1 l1_0 l1_1) = some r:=by rw [if_neg (show ¬ (false = true) by decide)] at H;exact H
        clear H
        have H:=H1
        clear H1
        have H':=qn.mk H
        clear H
        go_wp2
        go_loopg [5] kj2 (fun kq v5 w'=>∃ (x5_2 : Int),v5 = .int .i64 x5_2 ∧ qn (spec_ProofOk.l0 kq x5_2 a0_0 l0_1 l1_0 l1_1 = some r) ∧ qn (kq ≤ kj2) ∧ qn (w'.heap[gb135]? = some (.cells #[.int .i64 a0_0,(.slice A0_1 l0_1.length c0_1)] 61 (0,0))) ∧ qn (w'.heap[gb136]? = some (.cells #[(.slice A1_0 l1_0.length c1_0),(.slice A1_1 l1_1.length c1_1)] 65 (0,0))) ∧ qn (Below w.heap.size w w'))
        case atStart=>exact ⟨(0),(by first|rfl|(simp;done)|(simp [*];done)),H',⟨Nat.le_refl _⟩,⟨by (with_reducible repeat (first|refine qb ?_ _|refine qe ?_|refine qc ?_ _));exact BK135.out⟩,⟨by (with_reducible repeat (first|refine qb ?_ _|refine qe ?_|refine qc ?_ _));exact BK136.out⟩,⟨by repeat (first|(with_reducible first|exact HB.out|apply qf|apply qa|apply qd|refine qg ?_ GE135.out|refine qg ?_ GE136.out)|exact HB.out)⟩⟩
        case round =>
          clear H'
          try clear c1
          try clear c2
          try clear p2
          try clear c5
          try clear c7
          try clear c8
          try clear c8b0
          try clear c8b1
          try clear c9
          try clear c14
          try clear c19
          try clear c20
          try clear c22
          try clear hcz10_0
          try clear hcz10_1
          try clear hcz12_0
          try clear hcz12_1
          try clear hcz13_0
          try clear hcz13_1
          try clear hcz15_0
          try clear hcz15_1
          try clear hcz17_0
          try clear hcz17_1
          try clear hcz18_0
          try clear hcz18_1
          try clear hcz20_0
          try clear hcz20_1
          try clear hfz10_0
          try clear hfz10_1
          try clear hfz12_0
          try clear hfz12_1
          try clear hfz13_0
          try clear hfz13_1
          try clear hfz15_0
          try clear hfz15_1
          try clear hfz17_0
          try clear hfz17_1
          try clear hfz18_0
          try clear hfz18_1
          try clear hfz20_0
          try clear hfz20_1
          try clear p2
          obtain ⟨x5_2,rfl,HA,HK2,BK135,BK136,HB⟩:=hrel
          cases gk with
          | zero=>exact absurd HA.out (by simp [spec_ProofOk.l0])
          | succ k2 =>
            have H:=HA.out
            clear HA
            simp only [spec_ProofOk.l0] at H
            by_cases c23 : x5_2 < (l1_0.length : Int)
            · rw [if_pos c23] at H
              have c23b0 : decide (x5_2 < (l1_0.length : Int)) = true:=decide_eq_true c23
              clear c23
              by_cases c24 : 0 ≤ x5_2
              · rw [if_pos c24] at H
                have c24b0 : decide (0 ≤ x5_2) = true:=decide_eq_true c24
                clear c24
                replace H:=Option.bind_eq_some_iff.mp H
                obtain ⟨t139,A250,H⟩:=H
                replace H : (if t139 = true then (spec_ProofOk.l0 k2 (wrap64 (x5_2 + 1)) a0_0 l0_1 l1_0 l1_1) else (some false)) = some r:=H
                have A25:=qn.mk A250
                clear A250
                by_cases c26 : t139 = true
                · subst c26
                  have H1 : (spec_ProofOk.l0 k2 (wrap64 (x5_2 + 1)) a0_0 l0_1 l1_0 l1_1) = some r:=by rw [if_pos rfl] at H;exact H
                  clear H
                  have H:=H1
                  clear H1
                  have H':=qn.mk H
                  clear H
                  have hnb27:=NB136_135.out
                  have hnc27:=NB135_136.out
                  have hcz28_0 : wr.cell? ⟨gb136,0,none⟩ = some (.slice A1_0 l1_0.length c1_0):=(qh BK136.out 0).trans rfl
                  have hcz28_1 : wr.cell? ⟨gb136,1,none⟩ = some (.slice A1_1 l1_1.length c1_1):=(qh BK136.out 1).trans rfl
                  have hfz28_0:=qi BK136.out 0
                  have hfz28_1:=qi BK136.out 1
                  have p138 : 0 ≤ (x5_2 : Int):=of_decide_eq_true (by first|(with_reducible assumption)|assumption)
                  have q138 : x5_2 < (l1_0.length : Int):=of_decide_eq_true (by first|(with_reducible assumption)|assumption)
                  obtain ⟨ad138,e138,hx138_0⟩:=Kd.at_int HR1_0.out x5_2 p138 q138
                  cases e138
                  replace hx138_0:=cb_ HB hx138_0
                  replace p138:=eq_true p138
                  replace q138:=eq_true q138
                  go_wp2_with (first|((with_reducible refine gate_callee (f:=30) rfl ?_);refine goesL_ (some 40) rfl rfl Try.func30 (by kernel_rfl) rfl #[.int .i64 (rd l1_0 x5_2),.int .i64 0,.int .i64 1000000000] rfl (by (try simp only [List.map_toArray,List.map_cons,List.map_nil]);first|done|rfl|(simp only [List.length_drop,List.length_take];rfl)) ?_;(with_reducible refine (spec_l01In.calls (rd l1_0 x5_2) 0 1000000000 true _ A25.out).mono ?_);rintro e w' ⟨rfl,⟨nd,rfl⟩⟩;refine ⟨_,rfl,?_⟩))
                  go_roundg k2
                  case measure=>have:=HJ2.out;have:=HK2.out;omega
                  case rel=>exact ⟨(wrap64 (x5_2 + 1)),(by first|rfl|(simp;done)|(simp [*];done)),H',⟨by have:=HJ2.out;have:=HK2.out;omega⟩,⟨by (with_reducible repeat (first|refine qb ?_ _|refine qe ?_|refine qc ?_ _));exact BK135.out⟩,⟨by (with_reducible repeat (first|refine qb ?_ _|refine qe ?_|refine qc ?_ _));exact BK136.out⟩,⟨by repeat (first|(with_reducible first|exact HB.out|apply qf|apply qa|apply qd|refine qg ?_ GE135.out|refine qg ?_ GE136.out)|exact HB.out)⟩⟩
                · replace c26:=Bool.eq_false_iff.mpr c26
                  subst c26
                  have H1 : (some false) = some r:=by rw [if_neg (show ¬ (false = true) by decide)] at H;exact H
                  clear H
                  have H:=H1
                  clear H1
                  obtain rfl:=Option.some.inj H
                  have hnb29:=NB136_135.out
                  have hnc29:=NB135_136.out
                  have hcz30_0 : wr.cell? ⟨gb136,0,none⟩ = some (.slice A1_0 l1_0.length c1_0):=(qh BK136.out 0).trans rfl
                  have hcz30_1 : wr.cell? ⟨gb136,1,none⟩ = some (.slice A1_1 l1_1.length c1_1):=(qh BK136.out 1).trans rfl
                  have hfz30_0:=qi BK136.out 0
                  have hfz30_1:=qi BK136.out 1
                  have p138 : 0 ≤ (x5_2 : Int):=of_decide_eq_true (by first|(with_reducible assumption)|assumption)
                  have q138 : x5_2 < (l1_0.length : Int):=of_decide_eq_true (by first|(with_reducible assumption)|assumption)
                  obtain ⟨ad138,e138,hx138_0⟩:=Kd.at_int HR1_0.out x5_2 p138 q138
                  cases e138
                  replace hx138_0:=cb_ HB hx138_0
                  replace p138:=eq_true p138
                  replace q138:=eq_true q138
                  go_wp2_with (first|((with_reducible refine gate_callee (f:=30) rfl ?_);refine goesL_ (some 40) rfl rfl Try.func30 (by kernel_rfl) rfl #[.int .i64 (rd l1_0 x5_2),.int .i64 0,.int .i64 1000000000] rfl (by (try simp only [List.map_toArray,List.map_cons,List.map_nil]);first|done|rfl|(simp only [List.length_drop,List.length_take];rfl)) ?_;(with_reducible refine (spec_l01In.calls (rd l1_0 x5_2) 0 1000000000 false _ A25.out).mono ?_);rintro e w' ⟨rfl,⟨nd,rfl⟩⟩;refine ⟨_,rfl,?_⟩))
                  go_ret
                  exact ⟨by first|rfl|(simp [errW_none,errW_some] <;> rfl)|(simp [*,errW_none,errW_some] <;> rfl),by repeat (first|(with_reducible first|exact HB.out|apply qf|apply qa|apply qd|refine qg ?_ GE135.out|refine qg ?_ GE136.out)|exact HB.out)⟩
              · rw [if_neg c24] at H
                exact absurd H (by simp)
            · rw [if_neg c23] at H
              have c23b0 : decide (x5_2 < (l1_0.length : Int)) = false:=decide_eq_false c23
              clear c23
              have H':=qn.mk H
              clear H
              have hnb31:=NB136_135.out
              have hnc31:=NB135_136.out
              have hcz32_0 : wr.cell? ⟨gb136,0,none⟩ = some (.slice A1_0 l1_0.length c1_0):=(qh BK136.out 0).trans rfl
              have hcz32_1 : wr.cell? ⟨gb136,1,none⟩ = some (.slice A1_1 l1_1.length c1_1):=(qh BK136.out 1).trans rfl
              have hfz32_0:=qi BK136.out 0
              have hfz32_1:=qi BK136.out 1
              go_wp2
              go_loopg [6] k2 (fun kq v6 w'=>∃ (x6_3 : Int),v6 = .int .i64 x6_3 ∧ qn (spec_ProofOk.l1 kq x6_3 a0_0 l0_1 l1_0 l1_1 = some r) ∧ qn (kq ≤ k2) ∧ qn (w'.heap[gb135]? = some (.cells #[.int .i64 a0_0,(.slice A0_1 l0_1.length c0_1)] 61 (0,0))) ∧ qn (w'.heap[gb136]? = some (.cells #[(.slice A1_0 l1_0.length c1_0),(.slice A1_1 l1_1.length c1_1)] 65 (0,0))) ∧ qn (Below w.heap.size w w'))
              case atStart=>exact ⟨(0),(by first|rfl|(simp;done)|(simp [*];done)),H',⟨Nat.le_refl _⟩,⟨by (with_reducible repeat (first|refine qb ?_ _|refine qe ?_|refine qc ?_ _));exact BK135.out⟩,⟨by (with_reducible repeat (first|refine qb ?_ _|refine qe ?_|refine qc ?_ _));exact BK136.out⟩,⟨by repeat (first|(with_reducible first|exact HB.out|apply qf|apply qa|apply qd|refine qg ?_ GE135.out|refine qg ?_ GE136.out)|exact HB.out)⟩⟩
              case round =>
                clear H'
                try clear c1
                try clear p1
                try clear q1
                try clear hx1
                try clear c2
                try clear p2
                try clear c3
                try clear c5
                try clear p6
                try clear c7
                try clear c8
                try clear c8b0
                try clear c8b1
                try clear c9
                try clear p13
                try clear q13
                try clear hx13
                try clear c14
                try clear c19
                try clear c20
                try clear c22
                try clear c23
                try clear c23b0
                try clear c24
                try clear c24b0
                try clear c26
                try clear c27
                try clear c29
                try clear c30
                try clear c31
                try clear hcz10_0
                try clear hcz10_1
                try clear hcz12_0
                try clear hcz12_1
                try clear hcz13_0
                try clear hcz13_1
                try clear hcz15_0
                try clear hcz15_1
                try clear hcz17_0
                try clear hcz17_1
                try clear hcz18_0
                try clear hcz18_1
                try clear hcz20_0
                try clear hcz20_1
                try clear hcz28_0
                try clear hcz28_1
                try clear hcz30_0
                try clear hcz30_1
                try clear hcz32_0
                try clear hcz32_1
                try clear hfz10_0
                try clear hfz10_1
                try clear hfz12_0
                try clear hfz12_1
                try clear hfz13_0
                try clear hfz13_1
                try clear hfz15_0
                try clear hfz15_1
                try clear hfz17_0
                try clear hfz17_1
                try clear hfz18_0
                try clear hfz18_1
                try clear hfz20_0
                try clear hfz20_1
                try clear hfz28_0
                try clear hfz28_1
                try clear hfz30_0
                try clear hfz30_1
                try clear hfz32_0
                try clear hfz32_1
                try clear hx138_0
                try clear p138
                try clear p2
                try clear q138
                obtain ⟨x6_3,rfl,HA,HK3,BK135,BK136,HB⟩:=hrel
                cases gk with
                | zero=>exact absurd HA.out (by simp [spec_ProofOk.l1])
                | succ k3 =>
                  have H:=HA.out
                  clear HA
                  simp only [spec_ProofOk.l1] at H
                  by_cases c33 : x6_3 < (l1_1.length : Int)
                  · rw [if_pos c33] at H
                    have c33b0 : decide (x6_3 < (l1_1.length : Int)) = true:=decide_eq_true c33
                    clear c33
                    by_cases c34 : 0 ≤ x6_3
                    · rw [if_pos c34] at H
                      have c34b0 : decide (0 ≤ x6_3) = true:=decide_eq_true c34
                      clear c34
                      have HC35:=qn.mk H
                      clear H
                      have hnb36:=NB136_135.out
                      have hnc36:=NB135_136.out
                      have hcz37_0 : wr.cell? ⟨gb136,0,none⟩ = some (.slice A1_0 l1_0.length c1_0):=(qh BK136.out 0).trans rfl
                      have hcz37_1 : wr.cell? ⟨gb136,1,none⟩ = some (.slice A1_1 l1_1.length c1_1):=(qh BK136.out 1).trans rfl
                      have hfz37_0:=qi BK136.out 0
                      have hfz37_1:=qi BK136.out 1
                      have p140 : 0 ≤ (x6_3 : Int):=of_decide_eq_true (by first|(with_reducible assumption)|assumption)
                      have q140 : x6_3 < (l1_1.length : Int):=of_decide_eq_true (by first|(with_reducible assumption)|assumption)
                      obtain ⟨ad140,A140_0,c140_0,e140,hx140_0,hx140_1,hl140_0,hi140_0⟩:=at_T97 HR1_1.out x6_3 p140 q140
                      cases e140
                      replace hx140_0:=cb_ HB hx140_0
                      replace hx140_1:=cb_ HB hx140_1
                      have HR140_0:=qn.mk hi140_0
                      have HC140_0:=qn.mk hl140_0
                      clear hi140_0 hl140_0
                      replace p140:=eq_true p140
                      replace q140:=eq_true q140
                      go_upto_region 12 with (first|((with_reducible refine gate_dst (N:=7) rfl ?_);(try (refine gate_guard (by rfl) ?_;dsimp only));refine box_event ?hg (N:=7) ?hd (cs:=#[.slice none 0 0,.int .i64 0]) (t:=97) ?hr ?_;(case hd=>rfl);(case hg=>rfl);(case hr=>first|(go_simp;done)|(go_simp;rfl));intro gb141 hg w38 hbox hb;have n0_:=bb_ BK135 hb;have n1_:=bb_ BK136 hb;have n2_:=hs_ HB hb;have n3_:=qn.mk (hbox);have n4_:=qn.mk ((by rw [hg];exact (qj (by repeat (first|(with_reducible first|exact HB.out|apply qf|apply qa|apply qd|refine qg ?_ GE135.out|refine qg ?_ GE136.out)|exact HB.out))) : w.heap.size ≤ gb141));have n5_:=qn.mk ((by rw [hg];exact (qj (by repeat (first|(with_reducible first|exact HB.out|apply qf|apply qa|apply qd|refine qg ?_ GE135.out|refine qg ?_ GE136.out)|exact HB.out))) : w.heap.size ≤ gb141));have n6_:=qn.mk ((by rw [hg];exact nl_ BK135 : gb135 ≠ gb141));have n7_:=qn.mk ((by rw [hg];exact ng_ BK135 : gb141 ≠ gb135));have n8_:=qn.mk ((by rw [hg];exact nl_ BK136 : gb136 ≠ gb141));have n9_:=qn.mk ((by rw [hg];exact ng_ BK136 : gb141 ≠ gb136));clear BK135;clear BK136;clear HB;have BK135:=n0_;have BK136:=n1_;have HB:=n2_;have BK141:=n3_;have GW141:=n4_;have GE141:=n5_;have NB135_141:=n6_;have NB141_135:=n7_;have NB136_141:=n8_;have NB141_136:=n9_;clear n0_ n1_ n2_ n3_ n4_ n5_ n6_ n7_ n8_ n9_;clear hb hbox hg;have hnb39:=NB141_135.out;have hnc39:=NB135_141.out;have hnb40:=NB141_136.out;have hnc40:=NB136_141.out;have hcz41_0 : w38.cell? ⟨gb141,0,none⟩ = some (.slice none 0 0):=(qh BK141.out 0).trans rfl;have hcz41_1 : w38.cell? ⟨gb141,1,none⟩ = some (.int .i64 0):=(qh BK141.out 1).trans rfl;have hfz41_0:=qi BK141.out 0;have hfz41_1:=qi BK141.out 1))
                      (try simp only [Act.put,List.setIfInBounds_toArray,List.set_cons_zero,List.set_cons_succ])
                      go_cut [78] (fun v78 wc=>∃ (kq : Nat) (x78_34 : Bool),v78 = .bool x78_34 ∧ qn (spec_ProofOk.j3 kq x6_3 x78_34 a0_0 l0_1 l1_0 l1_1 ((rd_T97 l1_1 x6_3).f0) ((rd_T97 l1_1 x6_3).f1) = some r) ∧ qn (kq ≤ k3) ∧ qn (wc.heap[gb135]? = some (.cells #[.int .i64 a0_0,(.slice A0_1 l0_1.length c0_1)] 61 (0,0))) ∧ qn (wc.heap[gb136]? = some (.cells #[(.slice A1_0 l1_0.length c1_0),(.slice (some ad140) l1_1.length c1_1)] 65 (0,0))) ∧ qn (wc.heap[gb141]? = some (.cells #[(.slice A140_0 ((rd_T97 l1_1 x6_3).f0).length c140_0),.int .i64 ((rd_T97 l1_1 x6_3).f1)] 97 (0,0))) ∧ qn (Below w.heap.size w wc))
                      case first =>
                        have H:=HC35.out
                        clear HC35
                        by_cases c42 : (((rd_T97 l1_1 x6_3).f0).length : Int) < 3
                        · rw [if_pos c42] at H
                          have c42b0 : decide ((((rd_T97 l1_1 x6_3).f0).length : Int) < 3) = true:=decide_eq_true c42
                          have c42b1 : decide (((rd_T97 l1_1 x6_3).f0).length < 3) = true:=decide_eq_true (by omega)
                          clear c42
                          (first|rw [c42b0]|(simp only [i64_w,i32_w];rw [c42b0])|skip)
                          have H':=qn.mk H
                          clear H
                          have hnb43:=NB141_135.out
                          have hnc43:=NB135_141.out
                          have hnb44:=NB141_136.out
                          have hnc44:=NB136_141.out
                          have hcz45_0 : w38.cell? ⟨gb141,0,none⟩ = some (.slice none 0 0):=(qh BK141.out 0).trans rfl
                          have hcz45_1 : w38.cell? ⟨gb141,1,none⟩ = some (.int .i64 0):=(qh BK141.out 1).trans rfl
                          have hfz45_0:=qi BK141.out 0
                          have hfz45_1:=qi BK141.out 1
                          go_wp2
                          go_meet
                          case rel=>exact ⟨_,(true),(by first|rfl|(simp;done)|(simp [*];done)),H',⟨by have:=HJ2.out;have:=HK2.out;have:=HK3.out;first|omega|exact Nat.le_refl _⟩,⟨by (with_reducible repeat (first|refine qb ?_ _|refine qe ?_|refine qc ?_ _));refine blk_far ?_ NB135_141.out _;(with_reducible repeat (first|refine qb ?_ _|refine qe ?_|refine qc ?_ _));refine blk_far ?_ NB135_141.out _;(with_reducible repeat (first|refine qb ?_ _|refine qe ?_|refine qc ?_ _));exact BK135.out⟩,⟨by (with_reducible repeat (first|refine qb ?_ _|refine qe ?_|refine qc ?_ _));refine blk_far ?_ NB136_141.out _;(with_reducible repeat (first|refine qb ?_ _|refine qe ?_|refine qc ?_ _));refine blk_far ?_ NB136_141.out _;(with_reducible repeat (first|refine qb ?_ _|refine qe ?_|refine qc ?_ _));exact BK136.out⟩,⟨by (with_reducible repeat (first|refine qb ?_ _|refine qe ?_|refine qc ?_ _));refine blk_put (cs:=#[.slice A140_0 ((rd_T97 l1_1 x6_3).f0).length c140_0,.int .i64 0]) ?_ 1 _ rfl;(with_reducible repeat (first|refine qb ?_ _|refine qe ?_|refine qc ?_ _));refine blk_put (cs:=#[.slice none 0 0,.int .i64 0]) ?_ 0 _ rfl;(with_reducible repeat (first|refine qb ?_ _|refine qe ?_|refine qc ?_ _));exact BK141.out⟩,⟨by repeat (first|(with_reducible first|exact HB.out|apply qf|apply qa|apply qd|refine qg ?_ GE135.out|refine qg ?_ GE136.out|refine qg ?_ GE141.out)|exact HB.out)⟩⟩
                        · rw [if_neg c42] at H
                          have c42b0 : decide ((((rd_T97 l1_1 x6_3).f0).length : Int) < 3) = false:=decide_eq_false c42
                          have c42b1 : decide (((rd_T97 l1_1 x6_3).f0).length < 3) = false:=decide_eq_false (by omega)
                          clear c42
                          (first|rw [c42b0]|(simp only [i64_w,i32_w];rw [c42b0])|skip)
                          by_cases c46 : ((((rd_T97 l1_1 x6_3).f0).length : Int) % 2) = 0
                          · rw [if_pos c46] at H
                            have c46b0 : (((((rd_T97 l1_1 x6_3).f0).length : Int) % 2) == 0) = true:=beq_iff_eq.mpr c46
                            have c46b1 : (((((rd_T97 l1_1 x6_3).f0).length : Int) % 2) != 0) = false:=bne_eq_false_iff_eq.mpr c46
                            clear c46
                            have H':=qn.mk H
                            clear H
                            have hnb47:=NB141_135.out
                            have hnc47:=NB135_141.out
                            have hnb48:=NB141_136.out
                            have hnc48:=NB136_141.out
                            have hcz49_0 : w38.cell? ⟨gb141,0,none⟩ = some (.slice none 0 0):=(qh BK141.out 0).trans rfl
                            have hcz49_1 : w38.cell? ⟨gb141,1,none⟩ = some (.int .i64 0):=(qh BK141.out 1).trans rfl
                            have hfz49_0:=qi BK141.out 0
                            have hfz49_1:=qi BK141.out 1
                            go_wp2
                            go_meet
                            case rel=>exact ⟨_,(true),(by first|rfl|(simp;done)|(simp [*];done)),H',⟨by have:=HJ2.out;have:=HK2.out;have:=HK3.out;first|omega|exact Nat.le_refl _⟩,⟨by (with_reducible repeat (first|refine qb ?_ _|refine qe ?_|refine qc ?_ _));refine blk_far ?_ NB135_141.out _;(with_reducible repeat (first|refine qb ?_ _|refine qe ?_|refine qc ?_ _));refine blk_far ?_ NB135_141.out _;(with_reducible repeat (first|refine qb ?_ _|refine qe ?_|refine qc ?_ _));exact BK135.out⟩,⟨by (with_reducible repeat (first|refine qb ?_ _|refine qe ?_|refine qc ?_ _));refine blk_far ?_ NB136_141.out _;(with_reducible repeat (first|refine qb ?_ _|refine qe ?_|refine qc ?_ _));refine blk_far ?_ NB136_141.out _;(with_reducible repeat (first|refine qb ?_ _|refine qe ?_|refine qc ?_ _));exact BK136.out⟩,⟨by (with_reducible repeat (first|refine qb ?_ _|refine qe ?_|refine qc ?_ _));refine blk_put (cs:=#[.slice A140_0 ((rd_T97 l1_1 x6_3).f0).length c140_0,.int .i64 0]) ?_ 1 _ rfl;(with_reducible repeat (first|refine qb ?_ _|refine qe ?_|refine qc ?_ _));refine blk_put (cs:=#[.slice none 0 0,.int .i64 0]) ?_ 0 _ rfl;(with_reducible repeat (first|refine qb ?_ _|refine qe ?_|refine qc ?_ _));exact BK141.out⟩,⟨by repeat (first|(with_reducible first|exact HB.out|apply qf|apply qa|apply qd|refine qg ?_ GE135.out|refine qg ?_ GE136.out|refine qg ?_ GE141.out)|exact HB.out)⟩⟩
                          · rw [if_neg c46] at H
                            have c46b0 : (((((rd_T97 l1_1 x6_3).f0).length : Int) % 2) == 0) = false:=beq_eq_false_iff_ne.mpr c46
                            have c46b1 : (((((rd_T97 l1_1 x6_3).f0).length : Int) % 2) != 0) = true:=bne_iff_ne.mpr c46
                            by_cases c50 : (((rd_T97 l1_1 x6_3).f0).length : Int) > a0_0
                            · rw [if_pos c50] at H
                              have c50b0 : decide (a0_0 < (((rd_T97 l1_1 x6_3).f0).length : Int)) = true:=decide_eq_true c50
                              clear c50
                              have H':=qn.mk H
                              clear H
                              have hnb51:=NB141_135.out
                              have hnc51:=NB135_141.out
                              have hnb52:=NB141_136.out
                              have hnc52:=NB136_141.out
                              have hcz53_0 : w38.cell? ⟨gb141,0,none⟩ = some (.slice none 0 0):=(qh BK141.out 0).trans rfl
                              have hcz53_1 : w38.cell? ⟨gb141,1,none⟩ = some (.int .i64 0):=(qh BK141.out 1).trans rfl
                              have hfz53_0:=qi BK141.out 0
                              have hfz53_1:=qi BK141.out 1
                              have hnb54:=NB135_136.out
                              have hnc54:=NB136_135.out
                              have hcz55_0 : w38.cell? ⟨gb135,0,none⟩ = some (.int .i64 a0_0):=(qh BK135.out 0).trans rfl
                              have hcz55_1 : w38.cell? ⟨gb135,1,none⟩ = some (.slice A0_1 l0_1.length c0_1):=(qh BK135.out 1).trans rfl
                              have hfz55_0:=qi BK135.out 0
                              have hfz55_1:=qi BK135.out 1
                              go_wp2
                              go_meet
                              case rel=>exact ⟨_,(true),(by first|rfl|(simp;done)|(simp [*];done)),H',⟨by have:=HJ2.out;have:=HK2.out;have:=HK3.out;first|omega|exact Nat.le_refl _⟩,⟨by (with_reducible repeat (first|refine qb ?_ _|refine qe ?_|refine qc ?_ _));refine blk_far ?_ NB135_141.out _;(with_reducible repeat (first|refine qb ?_ _|refine qe ?_|refine qc ?_ _));refine blk_far ?_ NB135_141.out _;(with_reducible repeat (first|refine qb ?_ _|refine qe ?_|refine qc ?_ _));exact BK135.out⟩,⟨by (with_reducible repeat (first|refine qb ?_ _|refine qe ?_|refine qc ?_ _));refine blk_far ?_ NB136_141.out _;(with_reducible repeat (first|refine qb ?_ _|refine qe ?_|refine qc ?_ _));refine blk_far ?_ NB136_141.out _;(with_reducible repeat (first|refine qb ?_ _|refine qe ?_|refine qc ?_ _));exact BK136.out⟩,⟨by (with_reducible repeat (first|refine qb ?_ _|refine qe ?_|refine qc ?_ _));refine blk_put (cs:=#[.slice A140_0 ((rd_T97 l1_1 x6_3).f0).length c140_0,.int .i64 0]) ?_ 1 _ rfl;(with_reducible repeat (first|refine qb ?_ _|refine qe ?_|refine qc ?_ _));refine blk_put (cs:=#[.slice none 0 0,.int .i64 0]) ?_ 0 _ rfl;(with_reducible repeat (first|refine qb ?_ _|refine qe ?_|refine qc ?_ _));exact BK141.out⟩,⟨by repeat (first|(with_reducible first|exact HB.out|apply qf|apply qa|apply qd|refine qg ?_ GE135.out|refine qg ?_ GE136.out|refine qg ?_ GE141.out)|exact HB.out)⟩⟩
                            · rw [if_neg c50] at H
                              have c50b0 : decide (a0_0 < (((rd_T97 l1_1 x6_3).f0).length : Int)) = false:=decide_eq_false c50
                              clear c50
                              replace H:=Option.bind_eq_some_iff.mp H
                              obtain ⟨t142,A560,H⟩:=H
                              replace H : (spec_ProofOk.j3 k3 x6_3 (!t142) a0_0 l0_1 l1_0 l1_1 ((rd_T97 l1_1 x6_3).f0) ((rd_T97 l1_1 x6_3).f1)) = some r:=H
                              have A56:=qn.mk A560
                              clear A560
                              have H':=qn.mk H
                              clear H
                              have hnb57:=NB141_135.out
                              have hnc57:=NB135_141.out
                              have hnb58:=NB141_136.out
                              have hnc58:=NB136_141.out
                              have hcz59_0 : w38.cell? ⟨gb141,0,none⟩ = some (.slice none 0 0):=(qh BK141.out 0).trans rfl
                              have hcz59_1 : w38.cell? ⟨gb141,1,none⟩ = some (.int .i64 0):=(qh BK141.out 1).trans rfl
                              have hfz59_0:=qi BK141.out 0
                              have hfz59_1:=qi BK141.out 1
                              have hnb60:=NB135_136.out
                              have hnc60:=NB136_135.out
                              have hcz61_0 : w38.cell? ⟨gb135,0,none⟩ = some (.int .i64 a0_0):=(qh BK135.out 0).trans rfl
                              have hcz61_1 : w38.cell? ⟨gb135,1,none⟩ = some (.slice A0_1 l0_1.length c0_1):=(qh BK135.out 1).trans rfl
                              have hfz61_0:=qi BK135.out 0
                              have hfz61_1:=qi BK135.out 1
                              go_wp2_with (first|(go_at_call 30;(with_reducible refine (spec_l01In.calls ((rd_T97 l1_1 x6_3).f1) 1 1000000000 t142 _ A56.out).mono ?_);rintro e w' ⟨rfl,⟨nd,rfl⟩⟩))
                              go_meet
                              case rel=>exact ⟨_,(!t142),(by first|rfl|(simp;done)|(simp [*];done)),H',⟨by have:=HJ2.out;have:=HK2.out;have:=HK3.out;first|omega|exact Nat.le_refl _⟩,⟨by (with_reducible repeat (first|refine qb ?_ _|refine qe ?_|refine qc ?_ _));refine blk_far ?_ NB135_141.out _;(with_reducible repeat (first|refine qb ?_ _|refine qe ?_|refine qc ?_ _));refine blk_far ?_ NB135_141.out _;(with_reducible repeat (first|refine qb ?_ _|refine qe ?_|refine qc ?_ _));exact BK135.out⟩,⟨by (with_reducible repeat (first|refine qb ?_ _|refine qe ?_|refine qc ?_ _));refine blk_far ?_ NB136_141.out _;(with_reducible repeat (first|refine qb ?_ _|refine qe ?_|refine qc ?_ _));refine blk_far ?_ NB136_141.out _;(with_reducible repeat (first|refine qb ?_ _|refine qe ?_|refine qc ?_ _));exact BK136.out⟩,⟨by (with_reducible repeat (first|refine qb ?_ _|refine qe ?_|refine qc ?_ _));refine blk_put (cs:=#[.slice A140_0 ((rd_T97 l1_1 x6_3).f0).length c140_0,.int .i64 0]) ?_ 1 _ rfl;(with_reducible repeat (first|refine qb ?_ _|refine qe ?_|refine qc ?_ _));refine blk_put (cs:=#[.slice none 0 0,.int .i64 0]) ?_ 0 _ rfl;(with_reducible repeat (first|refine qb ?_ _|refine qe ?_|refine qc ?_ _));exact BK141.out⟩,⟨by repeat (first|(with_reducible first|exact HB.out|apply qf|apply qa|apply qd|refine qg ?_ GE135.out|refine qg ?_ GE136.out|refine qg ?_ GE141.out)|exact HB.out)⟩⟩
                      case rest =>
                        clear HC35
                        try clear c1
                        try clear p1
                        try clear q1
                        try clear hx1
                        try clear c2
                        try clear p2
                        try clear c3
                        try clear c4
                        try clear c5
                        try clear c6
                        try clear p6
                        try clear c7
                        try clear c8
                        try clear c8b0
                        try clear c8b1
                        try clear c9
                        try clear p13
                        try clear q13
                        try clear hx13
                        try clear c14
                        try clear p14
                        try clear q14
                        try clear hx14
                        try clear c19
                        try clear c20
                        try clear c22
                        try clear c23
                        try clear c23b0
                        try clear c24
                        try clear c24b0
                        try clear c26
                        try clear c27
                        try clear c29
                        try clear c30
                        try clear c31
                        try clear c33
                        try clear c33b0
                        try clear c34
                        try clear c34b0
                        try clear c36
                        try clear c39
                        try clear c40
                        try clear c42
                        try clear c42b0
                        try clear c42b1
                        try clear c43
                        try clear c44
                        try clear c46
                        try clear c46b0
                        try clear c46b1
                        try clear c47
                        try clear c48
                        try clear c50
                        try clear c50b0
                        try clear c51
                        try clear c52
                        try clear c54
                        try clear c57
                        try clear c58
                        try clear c60
                        try clear hcz10_0
                        try clear hcz10_1
                        try clear hcz12_0
                        try clear hcz12_1
                        try clear hcz13_0
                        try clear hcz13_1
                        try clear hcz15_0
                        try clear hcz15_1
                        try clear hcz17_0
                        try clear hcz17_1
                        try clear hcz18_0
                        try clear hcz18_1
                        try clear hcz20_0
                        try clear hcz20_1
                        try clear hcz28_0
                        try clear hcz28_1
                        try clear hcz30_0
                        try clear hcz30_1
                        try clear hcz32_0
                        try clear hcz32_1
                        try clear hcz37_0
                        try clear hcz37_1
                        try clear hcz41_0
                        try clear hcz41_1
                        try clear hcz45_0
                        try clear hcz45_1
                        try clear hcz49_0
                        try clear hcz49_1
                        try clear hcz53_0
                        try clear hcz53_1
                        try clear hcz55_0
                        try clear hcz55_1
                        try clear hcz59_0
                        try clear hcz59_1
                        try clear hcz61_0
                        try clear hcz61_1
                        try clear hfz10_0
                        try clear hfz10_1
                        try clear hfz12_0
                        try clear hfz12_1
                        try clear hfz13_0
                        try clear hfz13_1
                        try clear hfz15_0
                        try clear hfz15_1
                        try clear hfz17_0
                        try clear hfz17_1
                        try clear hfz18_0
                        try clear hfz18_1
                        try clear hfz20_0
                        try clear hfz20_1
                        try clear hfz28_0
                        try clear hfz28_1
                        try clear hfz30_0
                        try clear hfz30_1
                        try clear hfz32_0
                        try clear hfz32_1
                        try clear hfz37_0
                        try clear hfz37_1
                        try clear hfz41_0
                        try clear hfz41_1
                        try clear hfz45_0
                        try clear hfz45_1
                        try clear hfz49_0
                        try clear hfz49_1
                        try clear hfz53_0
                        try clear hfz53_1
                        try clear hfz55_0
                        try clear hfz55_1
                        try clear hfz59_0
                        try clear hfz59_1
                        try clear hfz61_0
                        try clear hfz61_1
                        try clear hx138_0
                        try clear hx140_0
                        try clear hx140_1
                        try clear p1
                        try clear p13
                        try clear p138
                        try clear p140
                        try clear p2
                        try clear p6
                        try clear q1
                        try clear q13
                        try clear q138
                        try clear q140
                        obtain ⟨kq,x78_34,rfl,HA,HJ34,BK135,BK136,BK141,HB⟩:=hcut
                        cases kq with
                        | zero=>exact absurd HA.out (by simp [spec_ProofOk.j3])
                        | succ kj34 =>
                          have H:=HA.out
                          clear HA
                          simp only [spec_ProofOk.j3] at H
                          by_cases c62 : x78_34 = true
                          · subst c62
                            have H1 : (some false) = some r:=by rw [if_pos rfl] at H;exact H
                            clear H
                            have H:=H1
                            clear H1
                            obtain rfl:=Option.some.inj H
                            go_wp2
                            go_ret
                            exact ⟨by first|rfl|(simp [errW_none,errW_some] <;> rfl)|(simp [*,errW_none,errW_some] <;> rfl),by repeat (first|(with_reducible first|exact HB.out|apply qf|apply qa|apply qd|refine qg ?_ GE135.out|refine qg ?_ GE136.out|refine qg ?_ GE141.out)|exact HB.out)⟩
                          · replace c62:=Bool.eq_false_iff.mpr c62
                            subst c62
                            have H1 : (spec_ProofOk.l2 kj34 x6_3 0 a0_0 l0_1 l1_0 l1_1 ((rd_T97 l1_1 x6_3).f0) ((rd_T97 l1_1 x6_3).f1)) = some r:=by rw [if_neg (show ¬ (false = true) by decide)] at H;exact H
                            clear H
                            have H:=H1
                            clear H1
                            have H':=qn.mk H
                            clear H
                            go_wp2
                            go_loopg [8] kj34 (fun kq v8 w'=>∃ (x8_5 : Int),v8 = .int .i64 x8_5 ∧ qn (spec_ProofOk.l2 kq x6_3 x8_5 a0_0 l0_1 l1_0 l1_1 ((rd_T97 l1_1 x6_3).f0) ((rd_T97 l1_1 x6_3).f1) = some r) ∧ qn (kq ≤ kj34) ∧ qn (w'.heap[gb135]? = some (.cells #[.int .i64 a0_0,(.slice A0_1 l0_1.length c0_1)] 61 (0,0))) ∧ qn (w'.heap[gb136]? = some (.cells #[(.slice A1_0 l1_0.length c1_0),(.slice (some ad140) l1_1.length c1_1)] 65 (0,0))) ∧ qn (w'.heap[gb141]? = some (.cells #[(.slice A140_0 ((rd_T97 l1_1 x6_3).f0).length c140_0),.int .i64 ((rd_T97 l1_1 x6_3).f1)] 97 (0,0))) ∧ qn (Below w.heap.size w w'))
                            case atStart=>exact ⟨(0),(by first|rfl|(simp;done)|(simp [*];done)),H',⟨Nat.le_refl _⟩,⟨by (with_reducible repeat (first|refine qb ?_ _|refine qe ?_|refine qc ?_ _));exact BK135.out⟩,⟨by (with_reducible repeat (first|refine qb ?_ _|refine qe ?_|refine qc ?_ _));exact BK136.out⟩,⟨by (with_reducible repeat (first|refine qb ?_ _|refine qe ?_|refine qc ?_ _));exact BK141.out⟩,⟨by repeat (first|(with_reducible first|exact HB.out|apply qf|apply qa|apply qd|refine qg ?_ GE135.out|refine qg ?_ GE136.out|refine qg ?_ GE141.out)|exact HB.out)⟩⟩
                            case round =>
                              clear H'
                              try clear c1
                              try clear p1
                              try clear q1
                              try clear hx1
                              try clear c2
                              try clear p2
                              try clear c3
                              try clear c4
                              try clear c5
                              try clear c6
                              try clear p6
                              try clear c7
                              try clear c8
                              try clear c8b0
                              try clear c8b1
                              try clear c9
                              try clear p13
                              try clear q13
                              try clear hx13
                              try clear c14
                              try clear p14
                              try clear q14
                              try clear hx14
                              try clear c19
                              try clear c20
                              try clear c22
                              try clear c23
                              try clear c23b0
                              try clear c24
                              try clear c24b0
                              try clear c26
                              try clear c27
                              try clear c29
                              try clear c30
                              try clear c31
                              try clear c33
                              try clear c33b0
                              try clear c34
                              try clear c34b0
                              try clear c36
                              try clear c39
                              try clear c40
                              try clear c42
                              try clear c42b0
                              try clear c42b1
                              try clear c43
                              try clear c44
                              try clear c46
                              try clear c46b0
                              try clear c46b1
                              try clear c47
                              try clear c48
                              try clear c50
                              try clear c50b0
                              try clear c51
                              try clear c52
                              try clear c54
                              try clear c57
                              try clear c58
                              try clear c60
                              try clear c62
                              try clear hcz10_0
                              try clear hcz10_1
                              try clear hcz12_0
                              try clear hcz12_1
                              try clear hcz13_0
                              try clear hcz13_1
                              try clear hcz15_0
                              try clear hcz15_1
                              try clear hcz17_0
                              try clear hcz17_1
                              try clear hcz18_0
                              try clear hcz18_1
                              try clear hcz20_0
                              try clear hcz20_1
                              try clear hcz28_0
                              try clear hcz28_1
                              try clear hcz30_0
                              try clear hcz30_1
                              try clear hcz32_0
                              try clear hcz32_1
                              try clear hcz37_0
                              try clear hcz37_1
                              try clear hcz41_0
                              try clear hcz41_1
                              try clear hcz45_0
                              try clear hcz45_1
                              try clear hcz49_0
                              try clear hcz49_1
                              try clear hcz53_0
                              try clear hcz53_1
                              try clear hcz55_0
                              try clear hcz55_1
                              try clear hcz59_0
                              try clear hcz59_1
                              try clear hcz61_0
                              try clear hcz61_1
                              try clear hfz10_0
                              try clear hfz10_1
                              try clear hfz12_0
                              try clear hfz12_1
                              try clear hfz13_0
                              try clear hfz13_1
                              try clear hfz15_0
                              try clear hfz15_1
                              try clear hfz17_0
                              try clear hfz17_1
                              try clear hfz18_0
                              try clear hfz18_1
                              try clear hfz20_0
                              try clear hfz20_1
                              try clear hfz28_0
                              try clear hfz28_1
                              try clear hfz30_0
                              try clear hfz30_1
                              try clear hfz32_0
                              try clear hfz32_1
                              try clear hfz37_0
                              try clear hfz37_1
                              try clear hfz41_0
                              try clear hfz41_1
                              try clear hfz45_0
                              try clear hfz45_1
                              try clear hfz49_0
                              try clear hfz49_1
                              try clear hfz53_0
                              try clear hfz53_1
                              try clear hfz55_0
                              try clear hfz55_1
                              try clear hfz59_0
                              try clear hfz59_1
                              try clear hfz61_0
                              try clear hfz61_1
                              try clear hx138_0
                              try clear hx140_0
                              try clear hx140_1
                              try clear p1
                              try clear p13
                              try clear p138
                              try clear p14
                              try clear p140
                              try clear p2
                              try clear p6
                              try clear q1
                              try clear q13
                              try clear q138
                              try clear q14
                              try clear q140
                              obtain ⟨x8_5,rfl,HA,HK5,BK135,BK136,BK141,HB⟩:=hrel
                              cases gk with
                              | zero=>exact absurd HA.out (by simp [spec_ProofOk.l2])
                              | succ k5 =>
                                have H:=HA.out
                                clear HA
                                simp only [spec_ProofOk.l2] at H
                                by_cases c63 : x8_5 < (((rd_T97 l1_1 x6_3).f0).length : Int)
                                · rw [if_pos c63] at H
                                  have c63b0 : decide (x8_5 < (((rd_T97 l1_1 x6_3).f0).length : Int)) = true:=decide_eq_true c63
                                  clear c63
                                  by_cases c64 : 0 ≤ x8_5
                                  · rw [if_pos c64] at H
                                    have c64b0 : decide (0 ≤ x8_5) = true:=decide_eq_true c64
                                    clear c64
                                    replace H:=Option.bind_eq_some_iff.mp H
                                    obtain ⟨t144,A650,H⟩:=H
                                    replace H : (if t144 = true then (if x8_5 > 0 then (if 0 ≤ (wrap64 (x8_5 - 1)) then (if (wrap64 (x8_5 - 1)) < (((rd_T97 l1_1 x6_3).f0).length : Int) then (if (rd ((rd_T97 l1_1 x6_3).f0) (wrap64 (x8_5 - 1))) ≥ (rd ((rd_T97 l1_1 x6_3).f0) x8_5) then (some false) else (spec_ProofOk.l2 k5 x6_3 (wrap64 (x8_5 + 1)) a0_0 l0_1 l1_0 l1_1 ((rd_T97 l1_1 x6_3).f0) ((rd_T97 l1_1 x6_3).f1))) else (none)) else (none)) else (spec_ProofOk.l2 k5 x6_3 (wrap64 (x8_5 + 1)) a0_0 l0_1 l1_0 l1_1 ((rd_T97 l1_1 x6_3).f0) ((rd_T97 l1_1 x6_3).f1))) else (some false)) = some r:=H
                                    have A65:=qn.mk A650
                                    clear A650
                                    by_cases c66 : t144 = true
                                    · subst c66
                                      have H1 : (if x8_5 > 0 then (if 0 ≤ (wrap64 (x8_5 - 1)) then (if (wrap64 (x8_5 - 1)) < (((rd_T97 l1_1 x6_3).f0).length : Int) then (if (rd ((rd_T97 l1_1 x6_3).f0) (wrap64 (x8_5 - 1))) ≥ (rd ((rd_T97 l1_1 x6_3).f0) x8_5) then (some false) else (spec_ProofOk.l2 k5 x6_3 (wrap64 (x8_5 + 1)) a0_0 l0_1 l1_0 l1_1 ((rd_T97 l1_1 x6_3).f0) ((rd_T97 l1_1 x6_3).f1))) else (none)) else (none)) else (spec_ProofOk.l2 k5 x6_3 (wrap64 (x8_5 + 1)) a0_0 l0_1 l1_0 l1_1 ((rd_T97 l1_1 x6_3).f0) ((rd_T97 l1_1 x6_3).f1))) = some r:=by rw [if_pos rfl] at H;exact H
                                      clear H
                                      have H:=H1
                                      clear H1
                                      by_cases c67 : x8_5 > 0
                                      · rw [if_pos c67] at H
                                        have c67b0 : decide (0 < x8_5) = true:=decide_eq_true c67
                                        clear c67
                                        obtain ⟨ji68,hji68⟩ : ∃ j_ : Int,(wrap64 (x8_5 - 1)) = j_:=⟨_,rfl⟩
                                        replace H : (if 0 ≤ (ji68) then (if (ji68) < (((rd_T97 l1_1 x6_3).f0).length : Int) then (if (rd ((rd_T97 l1_1 x6_3).f0) (ji68)) ≥ (rd ((rd_T97 l1_1 x6_3).f0) x8_5) then (some false) else (spec_ProofOk.l2 k5 x6_3 (wrap64 (x8_5 + 1)) a0_0 l0_1 l1_0 l1_1 ((rd_T97 l1_1 x6_3).f0) ((rd_T97 l1_1 x6_3).f1))) else (none)) else (none)) = some r:=by first|(rw [hji68] at H;exact H)|(simp only [hji68] at H ⊢;exact H)
                                        (try rw [hji68] at A65)
                                        have hji68w : (IntKind.i64.wrap (x8_5 - 1)) = ji68:=(i64_w _).trans hji68
                                        by_cases c69 : 0 ≤ (ji68)
                                        · rw [if_pos c69] at H
                                          have c69b0 : decide (0 ≤ (ji68)) = true:=decide_eq_true c69
                                          clear c69
                                          by_cases c70 : (ji68) < (((rd_T97 l1_1 x6_3).f0).length : Int)
                                          · rw [if_pos c70] at H
                                            have c70b0 : decide ((ji68) < (((rd_T97 l1_1 x6_3).f0).length : Int)) = true:=decide_eq_true c70
                                            clear c70
                                            by_cases c71 : (rd ((rd_T97 l1_1 x6_3).f0) (ji68)) ≥ (rd ((rd_T97 l1_1 x6_3).f0) x8_5)
                                            · rw [if_pos c71] at H
                                              have c71b0 : decide ((rd ((rd_T97 l1_1 x6_3).f0) x8_5) ≤ (rd ((rd_T97 l1_1 x6_3).f0) (ji68))) = true:=decide_eq_true c71
                                              clear c71
                                              obtain rfl:=Option.some.inj H
                                              have hnb72:=NB141_135.out
                                              have hnc72:=NB135_141.out
                                              have hnb73:=NB141_136.out
                                              have hnc73:=NB136_141.out
                                              have hcz74_0 : wr.cell? ⟨gb141,0,none⟩ = some (.slice A140_0 ((rd_T97 l1_1 x6_3).f0).length c140_0):=(qh BK141.out 0).trans rfl
                                              have hcz74_1 : wr.cell? ⟨gb141,1,none⟩ = some (.int .i64 ((rd_T97 l1_1 x6_3).f1)):=(qh BK141.out 1).trans rfl
                                              have hfz74_0:=qi BK141.out 0
                                              have hfz74_1:=qi BK141.out 1
                                              try go_wp2
                                              have n0_:=qn.mk (qe BK135.out)
                                              have n1_:=qn.mk (qe BK136.out)
                                              have n2_:=qn.mk (qe BK141.out)
                                              have n3_:=qn.mk (qd HB.out)
                                              clear BK135
                                              clear BK136
                                              clear BK141
                                              clear HB
                                              have BK135:=n0_
                                              have BK136:=n1_
                                              have BK141:=n2_
                                              have HB:=n3_
                                              clear n0_ n1_ n2_ n3_
                                              have p143 : 0 ≤ (x8_5 : Int):=of_decide_eq_true (by first|(with_reducible assumption)|assumption)
                                              have q143 : x8_5 < (((rd_T97 l1_1 x6_3).f0).length : Int):=of_decide_eq_true (by first|(with_reducible assumption)|assumption)
                                              obtain ⟨ad143,e143,hx143_0⟩:=Kd.at_int HR140_0.out x8_5 p143 q143
                                              have hw143_0:=hx143_0
                                              cases e143
                                              replace hx143_0:=cb_ HB hx143_0
                                              replace p143:=eq_true p143
                                              replace q143:=eq_true q143
                                              have p145 : 0 ≤ ((ji68) : Int):=of_decide_eq_true (by first|(with_reducible assumption)|assumption)
                                              have q145 : (ji68) < (((rd_T97 l1_1 x6_3).f0).length : Int):=of_decide_eq_true (by first|(with_reducible assumption)|assumption)
                                              obtain ⟨ad145,e145,hx145_0⟩:=Kd.at_int HR140_0.out (ji68) p145 q145
                                              have hw145_0:=hx145_0
                                              obtain rfl : ad143 = ad145:=(by injection e145)
                                              replace hx145_0:=cb_ HB hx145_0
                                              replace p145:=eq_true p145
                                              replace q145:=eq_true q145
                                              have p146 : 0 ≤ (x8_5 : Int):=of_decide_eq_true (by first|(with_reducible assumption)|assumption)
                                              have q146 : x8_5 < (((rd_T97 l1_1 x6_3).f0).length : Int):=of_decide_eq_true (by first|(with_reducible assumption)|assumption)
                                              obtain ⟨ad146,e146,hx146_0⟩:=Kd.at_int HR140_0.out x8_5 p146 q146
                                              have hw146_0:=hx146_0
                                              obtain rfl : ad143 = ad146:=(by injection e146)
                                              replace hx146_0:=cb_ HB hx146_0
                                              replace p146:=eq_true p146
                                              replace q146:=eq_true q146
                                              refine start_ (n:=28) (S:=fun w'=>w'.cell? ⟨gb141,0,none⟩ = some (.slice (some ad143) ((rd_T97 l1_1 x6_3).f0).length c140_0) ∧ w'.cell? ⟨gb141,1,none⟩ = some (.int .i64 ((rd_T97 l1_1 x6_3).f1)) ∧ w'.cell? ⟨gb135,0,none⟩ = some (.int .i64 a0_0) ∧ w'.cell? ⟨gb135,1,none⟩ = some (.slice A0_1 l0_1.length c0_1) ∧ w'.cell? (ad143.add (x8_5).toNat) = some (.int .i64 (rd ((rd_T97 l1_1 x6_3).f0) x8_5)) ∧ w'.cell? (ad143.add ((ji68)).toNat) = some (.int .i64 (rd ((rd_T97 l1_1 x6_3).f0) (ji68))) ∧ w'.cell? (ad143.add (x8_5).toNat) = some (.int .i64 (rd ((rd_T97 l1_1 x6_3).f0) x8_5))) (ds:=[]) #[false,false,false,false,false,false,false,false,false,false,false,false,false,false,false,false,false,false,false,false,false,false,false,false,false,false,false,false] (by kernel_rfl) rfl rfl ⟨(qh BK141.out 0).trans rfl,(qh BK141.out 1).trans rfl,(qh BK135.out 0).trans rfl,(qh BK135.out 1).trans rfl,(cb_ HB hw143_0:),(cb_ HB hw145_0:),(cb_ HB hw146_0:)⟩ (fun hHeld=>?_);refine with_tabW spec_ProofOk.tab17 spec_ProofOk.bits17 (fun HT_ HW_=>?_)
                                              generalize wr.drew = w75 at BK135 BK136 BK141 HB hx143_0 hx145_0 hx146_0 hHeld ⊢
                                              refine pure_ (i:=0) (N:=some 86) (v:=?_) (a':=?_) #[true,false,false,false,false,false,false,false,false,false,false,false,false,false,false,false,false,false,false,false,false,false,false,false,false,false,false,false] rfl rfl (any_of HT_.out (by kernel_rfl)) (fun _ _ _ h=>h) (Or.inl ⟨by rfl,?_⟩) ?_ ?_
                                              rotate_left
                                              · intro w'
                                                go_simp
                                                with_reducible rfl
                                              rotate_left
                                              · simp only [Act.put,List.setIfInBounds_toArray,List.set_cons_zero,List.set_cons_succ,i64_w,i32_w]
                                                rfl
                                              refine pure_ (i:=2) (N:=some 88) (v:=?_) (a':=?_) #[true,false,true,false,false,false,false,false,false,false,false,false,false,false,false,false,false,false,false,false,false,false,false,false,false,false,false,false] rfl rfl (any_of HT_.out (by kernel_rfl)) (fun _ _ _ h=>h) (Or.inl ⟨by rfl,?_⟩) ?_ ?_
                                              rotate_left
                                              · intro w'
                                                go_simp
                                                with_reducible rfl
                                              rotate_left
                                              · simp only [Act.put,List.setIfInBounds_toArray,List.set_cons_zero,List.set_cons_succ,i64_w,i32_w]
                                                rfl
                                              refine pure_ (i:=5) (N:=some 91) (v:=?_) (a':=?_) #[true,false,true,false,false,true,false,false,false,false,false,false,false,false,false,false,false,false,false,false,false,false,false,false,false,false,false,false] rfl rfl (any_of HT_.out (by kernel_rfl)) (fun _ _ _ h=>h) (Or.inl ⟨by rfl,?_⟩) ?_ ?_
                                              rotate_left
                                              · intro w'
                                                go_simp
                                                with_reducible rfl
                                              rotate_left
                                              · simp only [Act.put,List.setIfInBounds_toArray,List.set_cons_zero,List.set_cons_succ,i64_w,i32_w]
                                                rfl
                                              refine take_ (i:=1) (N:=some 87) (v:=?_) (a':=?_) #[true,true,true,false,false,true,false,false,false,false,false,false,false,false,false,false,false,false,false,false,false,false,false,false,false,false,false,false] rfl rfl (take_ofW HT_.out HW_.out (by kernel_rfl)) (fun _ _ _ h=>h) (Or.inl ⟨by rfl,?_⟩) hHeld ?_ ?_
                                              rotate_left
                                              · rintro w' ⟨s0,s1,s2,s3,s4,s5,s6⟩
                                                go_simp
                                                with_reducible rfl
                                              rotate_left
                                              · simp only [Act.put,List.setIfInBounds_toArray,List.set_cons_zero,List.set_cons_succ,i64_w,i32_w]
                                                rfl
                                              refine pure_ (i:=3) (N:=some 89) (v:=?_) (a':=?_) #[true,true,true,true,false,true,false,false,false,false,false,false,false,false,false,false,false,false,false,false,false,false,false,false,false,false,false,false] rfl rfl (any_of HT_.out (by kernel_rfl)) (fun _ _ _ h=>h) (Or.inl ⟨by rfl,?_⟩) ?_ ?_
                                              rotate_left
                                              · intro w'
                                                go_simp
                                                with_reducible rfl
                                              rotate_left
                                              · simp only [Act.put,List.setIfInBounds_toArray,List.set_cons_zero,List.set_cons_succ,i64_w,i32_w]
                                                rfl
                                              refine take_ (i:=4) (N:=some 90) (v:=?_) (a':=?_) #[true,true,true,true,true,true,false,false,false,false,false,false,false,false,false,false,false,false,false,false,false,false,false,false,false,false,false,false] rfl rfl (take_ofW HT_.out HW_.out (by kernel_rfl)) (fun _ _ _ h=>h) (Or.inl ⟨by rfl,?_⟩) hHeld ?_ ?_
                                              rotate_left
                                              · rintro w' ⟨s0,s1,s2,s3,s4,s5,s6⟩
                                                go_simp
                                                with_reducible rfl
                                              rotate_left
                                              · simp only [Act.put,List.setIfInBounds_toArray,List.set_cons_zero,List.set_cons_succ,i64_w,i32_w]
                                                rfl
                                              refine take_ (i:=6) (N:=some 92) (v:=?_) (a':=?_) #[true,true,true,true,true,true,true,false,false,false,false,false,false,false,false,false,false,false,false,false,false,false,false,false,false,false,false,false] rfl rfl (take_ofW HT_.out HW_.out (by kernel_rfl)) (fun _ _ _ h=>h) (Or.inl ⟨by rfl,?_⟩) hHeld ?_ ?_
                                              rotate_left
                                              · rintro w' ⟨s0,s1,s2,s3,s4,s5,s6⟩
                                                go_simp
                                                with_reducible rfl
                                              rotate_left
                                              · simp only [Act.put,List.setIfInBounds_toArray,List.set_cons_zero,List.set_cons_succ,i64_w,i32_w]
                                                rfl
                                              refine pure_ (i:=7) (N:=some 93) (v:=?_) (a':=?_) #[true,true,true,true,true,true,true,true,false,false,false,false,false,false,false,false,false,false,false,false,false,false,false,false,false,false,false,false] rfl rfl (any_of HT_.out (by kernel_rfl)) (fun _ _ _ h=>h) (Or.inl ⟨by rfl,?_⟩) ?_ ?_
                                              rotate_left
                                              · intro w'
                                                go_simp
                                                with_reducible rfl
                                              rotate_left
                                              · simp only [Act.put,List.setIfInBounds_toArray,List.set_cons_zero,List.set_cons_succ,i64_w,i32_w]
                                                rfl
                                              refine one_ (i:=8) (N:=some 94) #[true,true,true,true,true,true,true,true,true,false,false,false,false,false,false,false,false,false,false,false,false,false,false,false,false,false,false,false] rfl rfl (one_of HT_.out (by kernel_rfl)) (by decide) (fun K hK=>?_)
                                              refine goes_ Try.func30 (by kernel_rfl) rfl #[.int .i64 (rd ((rd_T97 l1_1 x6_3).f0) x8_5),.int .i64 0,.int .i64 (wrap64 (a0_0 - 1))] (by rfl) rfl rfl (by (try simp only [List.map_toArray,List.map_cons,List.map_nil]);first|done|rfl|(simp only [List.length_drop,List.length_take];rfl)) ?_
                                              with_reducible refine (spec_l01In.calls (rd ((rd_T97 l1_1 x6_3).f0) x8_5) 0 (wrap64 (a0_0 - 1)) true _ A65.out).mono ?_
                                              rintro e w' ⟨rfl,⟨nd,rfl⟩⟩
                                              refine ⟨_,rfl,?_⟩
                                              refine hK.out _ _ ⟨(qh BK141.out 0).trans rfl,(qh BK141.out 1).trans rfl,(qh BK135.out 0).trans rfl,(qh BK135.out 1).trans rfl,(cb_ HB hw143_0:),(cb_ HB hw145_0:),(cb_ HB hw146_0:)⟩ (fun hHeld=>?_)
                                              clear hK K
                                              refine norm_ (a':=?_) ?_ ?_
                                              rotate_left
                                              · show Act.put _ (some 94) _ = _
                                                simp only [Act.put,List.setIfInBounds_toArray,List.set_cons_zero,List.set_cons_succ,i64_w,i32_w]
                                                rfl
                                              refine pure_ (i:=9) (N:=some 95) (v:=?_) (a':=?_) #[true,true,true,true,true,true,true,true,true,true,false,false,false,false,false,false,false,false,false,false,false,false,false,false,false,false,false,false] rfl rfl (any_of HT_.out (by kernel_rfl)) (fun _ _ _ h=>h) (Or.inl ⟨by rfl,?_⟩) ?_ ?_
                                              rotate_left
                                              · intro w'
                                                go_simp
                                                with_reducible rfl
                                              rotate_left
                                              · simp only [Act.put,List.setIfInBounds_toArray,List.set_cons_zero,List.set_cons_succ,i64_w,i32_w]
                                                rfl
                                              refine pure_ (i:=10) (N:=some 96) (v:=?_) (a':=?_) #[true,true,true,true,true,true,true,true,true,true,true,false,false,false,false,false,false,false,false,false,false,false,false,false,false,false,false,false] rfl rfl (any_of HT_.out (by kernel_rfl)) (fun _ _ _ h=>h) (Or.inl ⟨by rfl,?_⟩) ?_ ?_
                                              rotate_left
                                              · intro w'
                                                go_simp
                                                with_reducible rfl
                                              rotate_left
                                              · simp only [Act.put,List.setIfInBounds_toArray,List.set_cons_zero,List.set_cons_succ,i64_w,i32_w]
                                                rfl
                                              refine pure_ (i:=11) (N:=some 97) (v:=?_) (a':=?_) #[true,true,true,true,true,true,true,true,true,true,true,true,false,false,false,false,false,false,false,false,false,false,false,false,false,false,false,false] rfl rfl (any_of HT_.out (by kernel_rfl)) (fun _ _ _ h=>h) (Or.inl ⟨by rfl,?_⟩) ?_ ?_
                                              rotate_left
                                              · intro w'
                                                go_simp
                                                with_reducible rfl
                                              rotate_left
                                              · simp only [Act.put,List.setIfInBounds_toArray,List.set_cons_zero,List.set_cons_succ,i64_w,i32_w]
                                                rfl
                                              refine pure_ (i:=12) (N:=some 98) (v:=?_) (a':=?_) #[true,true,true,true,true,true,true,true,true,true,true,true,true,false,false,false,false,false,false,false,false,false,false,false,false,false,false,false] rfl rfl (any_of HT_.out (by kernel_rfl)) (fun _ _ _ h=>h) (Or.inl ⟨by rfl,?_⟩) ?_ ?_
                                              rotate_left
                                              · intro w'
                                                go_simp
                                                with_reducible rfl
                                              rotate_left
                                              · simp only [Act.put,List.setIfInBounds_toArray,List.set_cons_zero,List.set_cons_succ,i64_w,i32_w]
                                                rfl
                                              refine pure_ (i:=13) (N:=some 99) (v:=?_) (a':=?_) #[true,true,true,true,true,true,true,true,true,true,true,true,true,true,false,false,false,false,false,false,false,false,false,false,false,false,false,false] rfl rfl (any_of HT_.out (by kernel_rfl)) (fun _ _ _ h=>h) (Or.inl ⟨by rfl,?_⟩) ?_ ?_
                                              rotate_left
                                              · intro w'
                                                go_simp
                                                with_reducible rfl
                                              rotate_left
                                              · simp only [Act.put,List.setIfInBounds_toArray,List.set_cons_zero,List.set_cons_succ,i64_w,i32_w]
                                                rfl
                                              refine pure_ (i:=14) (N:=some 100) (v:=?_) (a':=?_) #[true,true,true,true,true,true,true,true,true,true,true,true,true,true,true,false,false,false,false,false,false,false,false,false,false,false,false,false] rfl rfl (any_of HT_.out (by kernel_rfl)) (fun _ _ _ h=>h) (Or.inl ⟨by rfl,?_⟩) ?_ ?_
                                              rotate_left
                                              · intro w'
                                                go_simp
                                                with_reducible rfl
                                              rotate_left
                                              · simp only [Act.put,List.setIfInBounds_toArray,List.set_cons_zero,List.set_cons_succ,i64_w,i32_w]
                                                rfl
                                              refine pure_ (i:=16) (N:=some 102) (v:=?_) (a':=?_) #[true,true,true,true,true,true,true,true,true,true,true,true,true,true,true,false,true,false,false,false,false,false,false,false,false,false,false,false] rfl rfl (any_of HT_.out (by kernel_rfl)) (fun _ _ _ h=>h) (Or.inl ⟨by rfl,?_⟩) ?_ ?_
                                              rotate_left
                                              · intro w'
                                                go_simp
                                                with_reducible rfl
                                              rotate_left
                                              · simp only [Act.put,List.setIfInBounds_toArray,List.set_cons_zero,List.set_cons_succ,i64_w,i32_w]
                                                rfl
                                              refine pure_ (i:=17) (N:=some 103) (v:=?_) (a':=?_) #[true,true,true,true,true,true,true,true,true,true,true,true,true,true,true,false,true,true,false,false,false,false,false,false,false,false,false,false] rfl rfl (any_of HT_.out (by kernel_rfl)) (fun _ _ _ h=>h) (Or.inl ⟨by rfl,?_⟩) ?_ ?_
                                              rotate_left
                                              · intro w'
                                                go_simp
                                                with_reducible rfl
                                              rotate_left
                                              · simp only [Act.put,List.setIfInBounds_toArray,List.set_cons_zero,List.set_cons_succ,i64_w,i32_w]
                                                rfl
                                              refine pure_ (i:=20) (N:=some 106) (v:=?_) (a':=?_) #[true,true,true,true,true,true,true,true,true,true,true,true,true,true,true,false,true,true,false,false,true,false,false,false,false,false,false,false] rfl rfl (any_of HT_.out (by kernel_rfl)) (fun _ _ _ h=>h) (Or.inl ⟨by rfl,?_⟩) ?_ ?_
                                              rotate_left
                                              · intro w'
                                                go_simp
                                                with_reducible rfl
                                              rotate_left
                                              · simp only [Act.put,List.setIfInBounds_toArray,List.set_cons_zero,List.set_cons_succ,i64_w,i32_w]
                                                rfl
                                              refine pure_ (i:=22) (N:=some 108) (v:=?_) (a':=?_) #[true,true,true,true,true,true,true,true,true,true,true,true,true,true,true,false,true,true,false,false,true,false,true,false,false,false,false,false] rfl rfl (any_of HT_.out (by kernel_rfl)) (fun _ _ _ h=>h) (Or.inl ⟨by rfl,?_⟩) ?_ ?_
                                              rotate_left
                                              · intro w'
                                                go_simp
                                                with_reducible rfl
                                              rotate_left
                                              · simp only [Act.put,List.setIfInBounds_toArray,List.set_cons_zero,List.set_cons_succ,i64_w,i32_w]
                                                rfl
                                              refine take_ (i:=15) (N:=some 101) (v:=?_) (a':=?_) #[true,true,true,true,true,true,true,true,true,true,true,true,true,true,true,true,true,true,false,false,true,false,true,false,false,false,false,false] rfl rfl (take_ofW HT_.out HW_.out (by kernel_rfl)) (fun _ _ _ h=>h) (Or.inl ⟨by rfl,?_⟩) hHeld ?_ ?_
                                              rotate_left
                                              · rintro w' ⟨s0,s1,s2,s3,s4,s5,s6⟩
                                                go_simp
                                                with_reducible rfl
                                              rotate_left
                                              · simp only [Act.put,List.setIfInBounds_toArray,List.set_cons_zero,List.set_cons_succ,i64_w,i32_w]
                                                rfl
                                              refine pure_ (i:=18) (N:=some 104) (v:=?_) (a':=?_) #[true,true,true,true,true,true,true,true,true,true,true,true,true,true,true,true,true,true,true,false,true,false,true,false,false,false,false,false] rfl rfl (any_of HT_.out (by kernel_rfl)) (fun _ _ _ h=>h) (Or.inl ⟨by rfl,?_⟩) ?_ ?_
                                              rotate_left
                                              · intro w'
                                                go_simp
                                                with_reducible rfl
                                              rotate_left
                                              · simp only [Act.put,List.setIfInBounds_toArray,List.set_cons_zero,List.set_cons_succ,i64_w,i32_w]
                                                rfl
                                              refine take_ (i:=19) (N:=some 105) (v:=?_) (a':=?_) #[true,true,true,true,true,true,true,true,true,true,true,true,true,true,true,true,true,true,true,true,true,false,true,false,false,false,false,false] rfl rfl (take_ofW HT_.out HW_.out (by kernel_rfl)) (fun _ _ _ h=>h) (Or.inl ⟨by rfl,?_⟩) hHeld ?_ ?_
                                              rotate_left
                                              · rintro w' ⟨s0,s1,s2,s3,s4,s5,s6⟩
                                                go_simp
                                                with_reducible rfl
                                              rotate_left
                                              · simp only [Act.put,List.setIfInBounds_toArray,List.set_cons_zero,List.set_cons_succ,i64_w,i32_w]
                                                rfl
                                              refine take_ (i:=21) (N:=some 107) (v:=?_) (a':=?_) #[true,true,true,true,true,true,true,true,true,true,true,true,true,true,true,true,true,true,true,true,true,true,true,false,false,false,false,false] rfl rfl (take_ofW HT_.out HW_.out (by kernel_rfl)) (fun _ _ _ h=>h) (Or.inl ⟨by rfl,?_⟩) hHeld ?_ ?_
                                              rotate_left
                                              · rintro w' ⟨s0,s1,s2,s3,s4,s5,s6⟩
                                                go_simp
                                                with_reducible rfl
                                              rotate_left
                                              · simp only [Act.put,List.setIfInBounds_toArray,List.set_cons_zero,List.set_cons_succ,i64_w,i32_w]
                                                rfl
                                              refine pure_ (i:=23) (N:=some 109) (v:=?_) (a':=?_) #[true,true,true,true,true,true,true,true,true,true,true,true,true,true,true,true,true,true,true,true,true,true,true,true,false,false,false,false] rfl rfl (any_of HT_.out (by kernel_rfl)) (fun _ _ _ h=>h) (Or.inl ⟨by rfl,?_⟩) ?_ ?_
                                              rotate_left
                                              · intro w'
                                                go_simp
                                                with_reducible rfl
                                              rotate_left
                                              · simp only [Act.put,List.setIfInBounds_toArray,List.set_cons_zero,List.set_cons_succ,i64_w,i32_w]
                                                rfl
                                              refine take_ (i:=24) (N:=some 110) (v:=?_) (a':=?_) #[true,true,true,true,true,true,true,true,true,true,true,true,true,true,true,true,true,true,true,true,true,true,true,true,true,false,false,false] rfl rfl (take_ofW HT_.out HW_.out (by kernel_rfl)) (fun _ _ _ h=>h) (Or.inl ⟨by rfl,?_⟩) hHeld ?_ ?_
                                              rotate_left
                                              · rintro w' ⟨s0,s1,s2,s3,s4,s5,s6⟩
                                                go_simp
                                                with_reducible rfl
                                              rotate_left
                                              · simp only [Act.put,List.setIfInBounds_toArray,List.set_cons_zero,List.set_cons_succ,i64_w,i32_w]
                                                rfl
                                              refine pure_ (i:=25) (N:=some 111) (v:=?_) (a':=?_) #[true,true,true,true,true,true,true,true,true,true,true,true,true,true,true,true,true,true,true,true,true,true,true,true,true,true,false,false] rfl rfl (any_of HT_.out (by kernel_rfl)) (fun _ _ _ h=>h) (Or.inl ⟨by rfl,?_⟩) ?_ ?_
                                              rotate_left
                                              · intro w'
                                                go_simp
                                                with_reducible rfl
                                              rotate_left
                                              · simp only [Act.put,List.setIfInBounds_toArray,List.set_cons_zero,List.set_cons_succ,i64_w,i32_w]
                                                rfl
                                              refine pure_ (i:=26) (N:=some 112) (v:=?_) (a':=?_) #[true,true,true,true,true,true,true,true,true,true,true,true,true,true,true,true,true,true,true,true,true,true,true,true,true,true,true,false] rfl rfl (any_of HT_.out (by kernel_rfl)) (fun _ _ _ h=>h) (Or.inl ⟨by rfl,?_⟩) ?_ ?_
                                              rotate_left
                                              · intro w'
                                                go_simp
                                                with_reducible rfl
                                              rotate_left
                                              · simp only [Act.put,List.setIfInBounds_toArray,List.set_cons_zero,List.set_cons_succ,i64_w,i32_w]
                                                rfl
                                              refine pure_ (i:=27) (N:=some 113) (v:=?_) (a':=?_) #[true,true,true,true,true,true,true,true,true,true,true,true,true,true,true,true,true,true,true,true,true,true,true,true,true,true,true,true] rfl rfl (any_of HT_.out (by kernel_rfl)) (fun _ _ _ h=>h) (Or.inl ⟨by rfl,?_⟩) ?_ ?_
                                              rotate_left
                                              · intro w'
                                                go_simp
                                                with_reducible rfl
                                              rotate_left
                                              · simp only [Act.put,List.setIfInBounds_toArray,List.set_cons_zero,List.set_cons_succ,i64_w,i32_w]
                                                rfl
                                              refine done_ (done_of HT_.out (by kernel_rfl)) ?_
                                              try go_wp2
                                              go_ret
                                              exact ⟨by first|rfl|(simp [errW_none,errW_some] <;> rfl)|(simp only [← hji68];first|rfl|(simp [errW_none,errW_some] <;> rfl))|(simp [*,errW_none,errW_some] <;> rfl),by repeat (first|(with_reducible first|exact HB.out|apply qf|apply qa|apply qd|refine qg ?_ GE135.out|refine qg ?_ GE136.out|refine qg ?_ GE141.out)|exact HB.out)⟩
                                            · rw [if_neg c71] at H
                                              have c71b0 : decide ((rd ((rd_T97 l1_1 x6_3).f0) x8_5) ≤ (rd ((rd_T97 l1_1 x6_3).f0) (ji68))) = false:=decide_eq_false c71
                                              clear c71
                                              have H':=qn.mk H
                                              clear H
                                              have hnb76:=NB141_135.out
                                              have hnc76:=NB135_141.out
                                              have hnb77:=NB141_136.out
                                              have hnc77:=NB136_141.out
                                              have hcz78_0 : wr.cell? ⟨gb141,0,none⟩ = some (.slice A140_0 ((rd_T97 l1_1 x6_3).f0).length c140_0):=(qh BK141.out 0).trans rfl
                                              have hcz78_1 : wr.cell? ⟨gb141,1,none⟩ = some (.int .i64 ((rd_T97 l1_1 x6_3).f1)):=(qh BK141.out 1).trans rfl
                                              have hfz78_0:=qi BK141.out 0
                                              have hfz78_1:=qi BK141.out 1
                                              try go_wp2
                                              have n0_:=qn.mk (qe BK135.out)
                                              have n1_:=qn.mk (qe BK136.out)
                                              have n2_:=qn.mk (qe BK141.out)
                                              have n3_:=qn.mk (qd HB.out)
                                              clear BK135
                                              clear BK136
                                              clear BK141
                                              clear HB
                                              have BK135:=n0_
                                              have BK136:=n1_
                                              have BK141:=n2_
                                              have HB:=n3_
                                              clear n0_ n1_ n2_ n3_
                                              have p143 : 0 ≤ (x8_5 : Int):=of_decide_eq_true (by first|(with_reducible assumption)|assumption)
                                              have q143 : x8_5 < (((rd_T97 l1_1 x6_3).f0).length : Int):=of_decide_eq_true (by first|(with_reducible assumption)|assumption)
                                              obtain ⟨ad143,e143,hx143_0⟩:=Kd.at_int HR140_0.out x8_5 p143 q143
                                              have hw143_0:=hx143_0
                                              cases e143
                                              replace hx143_0:=cb_ HB hx143_0
                                              replace p143:=eq_true p143
                                              replace q143:=eq_true q143
                                              have p145 : 0 ≤ ((ji68) : Int):=of_decide_eq_true (by first|(with_reducible assumption)|assumption)
                                              have q145 : (ji68) < (((rd_T97 l1_1 x6_3).f0).length : Int):=of_decide_eq_true (by first|(with_reducible assumption)|assumption)
                                              obtain ⟨ad145,e145,hx145_0⟩:=Kd.at_int HR140_0.out (ji68) p145 q145
                                              have hw145_0:=hx145_0
                                              obtain rfl : ad143 = ad145:=(by injection e145)
                                              replace hx145_0:=cb_ HB hx145_0
                                              replace p145:=eq_true p145
                                              replace q145:=eq_true q145
                                              have p146 : 0 ≤ (x8_5 : Int):=of_decide_eq_true (by first|(with_reducible assumption)|assumption)
                                              have q146 : x8_5 < (((rd_T97 l1_1 x6_3).f0).length : Int):=of_decide_eq_true (by first|(with_reducible assumption)|assumption)
                                              obtain ⟨ad146,e146,hx146_0⟩:=Kd.at_int HR140_0.out x8_5 p146 q146
                                              have hw146_0:=hx146_0
                                              obtain rfl : ad143 = ad146:=(by injection e146)
                                              replace hx146_0:=cb_ HB hx146_0
                                              replace p146:=eq_true p146
                                              replace q146:=eq_true q146
                                              refine start_ (n:=28) (S:=fun w'=>w'.cell? ⟨gb141,0,none⟩ = some (.slice (some ad143) ((rd_T97 l1_1 x6_3).f0).length c140_0) ∧ w'.cell? ⟨gb141,1,none⟩ = some (.int .i64 ((rd_T97 l1_1 x6_3).f1)) ∧ w'.cell? ⟨gb135,0,none⟩ = some (.int .i64 a0_0) ∧ w'.cell? ⟨gb135,1,none⟩ = some (.slice A0_1 l0_1.length c0_1) ∧ w'.cell? (ad143.add (x8_5).toNat) = some (.int .i64 (rd ((rd_T97 l1_1 x6_3).f0) x8_5)) ∧ w'.cell? (ad143.add ((ji68)).toNat) = some (.int .i64 (rd ((rd_T97 l1_1 x6_3).f0) (ji68))) ∧ w'.cell? (ad143.add (x8_5).toNat) = some (.int .i64 (rd ((rd_T97 l1_1 x6_3).f0) x8_5))) (ds:=[]) #[false,false,false,false,false,false,false,false,false,false,false,false,false,false,false,false,false,false,false,false,false,false,false,false,false,false,false,false] (by kernel_rfl) rfl rfl ⟨(qh BK141.out 0).trans rfl,(qh BK141.out 1).trans rfl,(qh BK135.out 0).trans rfl,(qh BK135.out 1).trans rfl,(cb_ HB hw143_0:),(cb_ HB hw145_0:),(cb_ HB hw146_0:)⟩ (fun hHeld=>?_);refine with_tabW spec_ProofOk.tab17 spec_ProofOk.bits17 (fun HT_ HW_=>?_)
                                              generalize wr.drew = w79 at BK135 BK136 BK141 HB hx143_0 hx145_0 hx146_0 hHeld ⊢
                                              refine pure_ (i:=0) (N:=some 86) (v:=?_) (a':=?_) #[true,false,false,false,false,false,false,false,false,false,false,false,false,false,false,false,false,false,false,false,false,false,false,false,false,false,false,false] rfl rfl (any_of HT_.out (by kernel_rfl)) (fun _ _ _ h=>h) (Or.inl ⟨by rfl,?_⟩) ?_ ?_
                                              rotate_left
                                              · intro w'
                                                go_simp
                                                with_reducible rfl
                                              rotate_left
                                              · simp only [Act.put,List.setIfInBounds_toArray,List.set_cons_zero,List.set_cons_succ,i64_w,i32_w]
                                                rfl
                                              refine pure_ (i:=2) (N:=some 88) (v:=?_) (a':=?_) #[true,false,true,false,false,false,false,false,false,false,false,false,false,false,false,false,false,false,false,false,false,false,false,false,false,false,false,false] rfl rfl (any_of HT_.out (by kernel_rfl)) (fun _ _ _ h=>h) (Or.inl ⟨by rfl,?_⟩) ?_ ?_
                                              rotate_left
                                              · intro w'
                                                go_simp
                                                with_reducible rfl
                                              rotate_left
                                              · simp only [Act.put,List.setIfInBounds_toArray,List.set_cons_zero,List.set_cons_succ,i64_w,i32_w]
                                                rfl
                                              refine pure_ (i:=5) (N:=some 91) (v:=?_) (a':=?_) #[true,false,true,false,false,true,false,false,false,false,false,false,false,false,false,false,false,false,false,false,false,false,false,false,false,false,false,false] rfl rfl (any_of HT_.out (by kernel_rfl)) (fun _ _ _ h=>h) (Or.inl ⟨by rfl,?_⟩) ?_ ?_
                                              rotate_left
                                              · intro w'
                                                go_simp
                                                with_reducible rfl
                                              rotate_left
                                              · simp only [Act.put,List.setIfInBounds_toArray,List.set_cons_zero,List.set_cons_succ,i64_w,i32_w]
                                                rfl
                                              refine take_ (i:=1) (N:=some 87) (v:=?_) (a':=?_) #[true,true,true,false,false,true,false,false,false,false,false,false,false,false,false,false,false,false,false,false,false,false,false,false,false,false,false,false] rfl rfl (take_ofW HT_.out HW_.out (by kernel_rfl)) (fun _ _ _ h=>h) (Or.inl ⟨by rfl,?_⟩) hHeld ?_ ?_
                                              rotate_left
                                              · rintro w' ⟨s0,s1,s2,s3,s4,s5,s6⟩
                                                go_simp
                                                with_reducible rfl
                                              rotate_left
                                              · simp only [Act.put,List.setIfInBounds_toArray,List.set_cons_zero,List.set_cons_succ,i64_w,i32_w]
                                                rfl
                                              refine pure_ (i:=3) (N:=some 89) (v:=?_) (a':=?_) #[true,true,true,true,false,true,false,false,false,false,false,false,false,false,false,false,false,false,false,false,false,false,false,false,false,false,false,false] rfl rfl (any_of HT_.out (by kernel_rfl)) (fun _ _ _ h=>h) (Or.inl ⟨by rfl,?_⟩) ?_ ?_
                                              rotate_left
                                              · intro w'
                                                go_simp
                                                with_reducible rfl
                                              rotate_left
                                              · simp only [Act.put,List.setIfInBounds_toArray,List.set_cons_zero,List.set_cons_succ,i64_w,i32_w]
                                                rfl
                                              refine take_ (i:=4) (N:=some 90) (v:=?_) (a':=?_) #[true,true,true,true,true,true,false,false,false,false,false,false,false,false,false,false,false,false,false,false,false,false,false,false,false,false,false,false] rfl rfl (take_ofW HT_.out HW_.out (by kernel_rfl)) (fun _ _ _ h=>h) (Or.inl ⟨by rfl,?_⟩) hHeld ?_ ?_
                                              rotate_left
                                              · rintro w' ⟨s0,s1,s2,s3,s4,s5,s6⟩
                                                go_simp
                                                with_reducible rfl
                                              rotate_left
                                              · simp only [Act.put,List.setIfInBounds_toArray,List.set_cons_zero,List.set_cons_succ,i64_w,i32_w]
                                                rfl
                                              refine take_ (i:=6) (N:=some 92) (v:=?_) (a':=?_) #[true,true,true,true,true,true,true,false,false,false,false,false,false,false,false,false,false,false,false,false,false,false,false,false,false,false,false,false] rfl rfl (take_ofW HT_.out HW_.out (by kernel_rfl)) (fun _ _ _ h=>h) (Or.inl ⟨by rfl,?_⟩) hHeld ?_ ?_
                                              rotate_left
                                              · rintro w' ⟨s0,s1,s2,s3,s4,s5,s6⟩
                                                go_simp
                                                with_reducible rfl
                                              rotate_left
                                              · simp only [Act.put,List.setIfInBounds_toArray,List.set_cons_zero,List.set_cons_succ,i64_w,i32_w]
                                                rfl
                                              refine pure_ (i:=7) (N:=some 93) (v:=?_) (a':=?_) #[true,true,true,true,true,true,true,true,false,false,false,false,false,false,false,false,false,false,false,false,false,false,false,false,false,false,false,false] rfl rfl (any_of HT_.out (by kernel_rfl)) (fun _ _ _ h=>h) (Or.inl ⟨by rfl,?_⟩) ?_ ?_
                                              rotate_left
                                              · intro w'
                                                go_simp
                                                with_reducible rfl
                                              rotate_left
                                              · simp only [Act.put,List.setIfInBounds_toArray,List.set_cons_zero,List.set_cons_succ,i64_w,i32_w]
                                                rfl
                                              refine one_ (i:=8) (N:=some 94) #[true,true,true,true,true,true,true,true,true,false,false,false,false,false,false,false,false,false,false,false,false,false,false,false,false,false,false,false] rfl rfl (one_of HT_.out (by kernel_rfl)) (by decide) (fun K hK=>?_)
                                              refine goes_ Try.func30 (by kernel_rfl) rfl #[.int .i64 (rd ((rd_T97 l1_1 x6_3).f0) x8_5),.int .i64 0,.int .i64 (wrap64 (a0_0 - 1))] (by rfl) rfl rfl (by (try simp only [List.map_toArray,List.map_cons,List.map_nil]);first|done|rfl|(simp only [List.length_drop,List.length_take];rfl)) ?_
                                              with_reducible refine (spec_l01In.calls (rd ((rd_T97 l1_1 x6_3).f0) x8_5) 0 (wrap64 (a0_0 - 1)) true _ A65.out).mono ?_
                                              rintro e w' ⟨rfl,⟨nd,rfl⟩⟩
                                              refine ⟨_,rfl,?_⟩
                                              refine hK.out _ _ ⟨(qh BK141.out 0).trans rfl,(qh BK141.out 1).trans rfl,(qh BK135.out 0).trans rfl,(qh BK135.out 1).trans rfl,(cb_ HB hw143_0:),(cb_ HB hw145_0:),(cb_ HB hw146_0:)⟩ (fun hHeld=>?_)
                                              clear hK K
                                              refine norm_ (a':=?_) ?_ ?_
                                              rotate_left
                                              · show Act.put _ (some 94) _ = _
                                                simp only [Act.put,List.setIfInBounds_toArray,List.set_cons_zero,List.set_cons_succ,i64_w,i32_w]
                                                rfl
                                              refine pure_ (i:=9) (N:=some 95) (v:=?_) (a':=?_) #[true,true,true,true,true,true,true,true,true,true,false,false,false,false,false,false,false,false,false,false,false,false,false,false,false,false,false,false] rfl rfl (any_of HT_.out (by kernel_rfl)) (fun _ _ _ h=>h) (Or.inl ⟨by rfl,?_⟩) ?_ ?_
                                              rotate_left
                                              · intro w'
                                                go_simp
                                                with_reducible rfl
                                              rotate_left
                                              · simp only [Act.put,List.setIfInBounds_toArray,List.set_cons_zero,List.set_cons_succ,i64_w,i32_w]
                                                rfl
                                              refine pure_ (i:=10) (N:=some 96) (v:=?_) (a':=?_) #[true,true,true,true,true,true,true,true,true,true,true,false,false,false,false,false,false,false,false,false,false,false,false,false,false,false,false,false] rfl rfl (any_of HT_.out (by kernel_rfl)) (fun _ _ _ h=>h) (Or.inl ⟨by rfl,?_⟩) ?_ ?_
                                              rotate_left
                                              · intro w'
                                                go_simp
                                                with_reducible rfl
                                              rotate_left
                                              · simp only [Act.put,List.setIfInBounds_toArray,List.set_cons_zero,List.set_cons_succ,i64_w,i32_w]
                                                rfl
                                              refine pure_ (i:=11) (N:=some 97) (v:=?_) (a':=?_) #[true,true,true,true,true,true,true,true,true,true,true,true,false,false,false,false,false,false,false,false,false,false,false,false,false,false,false,false] rfl rfl (any_of HT_.out (by kernel_rfl)) (fun _ _ _ h=>h) (Or.inl ⟨by rfl,?_⟩) ?_ ?_
                                              rotate_left
                                              · intro w'
                                                go_simp
                                                with_reducible rfl
                                              rotate_left
                                              · simp only [Act.put,List.setIfInBounds_toArray,List.set_cons_zero,List.set_cons_succ,i64_w,i32_w]
                                                rfl
                                              refine pure_ (i:=12) (N:=some 98) (v:=?_) (a':=?_) #[true,true,true,true,true,true,true,true,true,true,true,true,true,false,false,false,false,false,false,false,false,false,false,false,false,false,false,false] rfl rfl (any_of HT_.out (by kernel_rfl)) (fun _ _ _ h=>h) (Or.inl ⟨by rfl,?_⟩) ?_ ?_
                                              rotate_left
                                              · intro w'
                                                go_simp
                                                with_reducible rfl
                                              rotate_left
                                              · simp only [Act.put,List.setIfInBounds_toArray,List.set_cons_zero,List.set_cons_succ,i64_w,i32_w]
                                                rfl
                                              refine pure_ (i:=13) (N:=some 99) (v:=?_) (a':=?_) #[true,true,true,true,true,true,true,true,true,true,true,true,true,true,false,false,false,false,false,false,false,false,false,false,false,false,false,false] rfl rfl (any_of HT_.out (by kernel_rfl)) (fun _ _ _ h=>h) (Or.inl ⟨by rfl,?_⟩) ?_ ?_
                                              rotate_left
                                              · intro w'
                                                go_simp
                                                with_reducible rfl
                                              rotate_left
                                              · simp only [Act.put,List.setIfInBounds_toArray,List.set_cons_zero,List.set_cons_succ,i64_w,i32_w]
                                                rfl
                                              refine pure_ (i:=14) (N:=some 100) (v:=?_) (a':=?_) #[true,true,true,true,true,true,true,true,true,true,true,true,true,true,true,false,false,false,false,false,false,false,false,false,false,false,false,false] rfl rfl (any_of HT_.out (by kernel_rfl)) (fun _ _ _ h=>h) (Or.inl ⟨by rfl,?_⟩) ?_ ?_
                                              rotate_left
                                              · intro w'
                                                go_simp
                                                with_reducible rfl
                                              rotate_left
                                              · simp only [Act.put,List.setIfInBounds_toArray,List.set_cons_zero,List.set_cons_succ,i64_w,i32_w]
                                                rfl
                                              refine pure_ (i:=16) (N:=some 102) (v:=?_) (a':=?_) #[true,true,true,true,true,true,true,true,true,true,true,true,true,true,true,false,true,false,false,false,false,false,false,false,false,false,false,false] rfl rfl (any_of HT_.out (by kernel_rfl)) (fun _ _ _ h=>h) (Or.inl ⟨by rfl,?_⟩) ?_ ?_
                                              rotate_left
                                              · intro w'
                                                go_simp
                                                with_reducible rfl
                                              rotate_left
                                              · simp only [Act.put,List.setIfInBounds_toArray,List.set_cons_zero,List.set_cons_succ,i64_w,i32_w]
                                                rfl
                                              refine pure_ (i:=17) (N:=some 103) (v:=?_) (a':=?_) #[true,true,true,true,true,true,true,true,true,true,true,true,true,true,true,false,true,true,false,false,false,false,false,false,false,false,false,false] rfl rfl (any_of HT_.out (by kernel_rfl)) (fun _ _ _ h=>h) (Or.inl ⟨by rfl,?_⟩) ?_ ?_
                                              rotate_left
                                              · intro w'
                                                go_simp
                                                with_reducible rfl
                                              rotate_left
                                              · simp only [Act.put,List.setIfInBounds_toArray,List.set_cons_zero,List.set_cons_succ,i64_w,i32_w]
                                                rfl
                                              refine pure_ (i:=20) (N:=some 106) (v:=?_) (a':=?_) #[true,true,true,true,true,true,true,true,true,true,true,true,true,true,true,false,true,true,false,false,true,false,false,false,false,false,false,false] rfl rfl (any_of HT_.out (by kernel_rfl)) (fun _ _ _ h=>h) (Or.inl ⟨by rfl,?_⟩) ?_ ?_
                                              rotate_left
                                              · intro w'
                                                go_simp
                                                with_reducible rfl
                                              rotate_left
                                              · simp only [Act.put,List.setIfInBounds_toArray,List.set_cons_zero,List.set_cons_succ,i64_w,i32_w]
                                                rfl
                                              refine pure_ (i:=22) (N:=some 108) (v:=?_) (a':=?_) #[true,true,true,true,true,true,true,true,true,true,true,true,true,true,true,false,true,true,false,false,true,false,true,false,false,false,false,false] rfl rfl (any_of HT_.out (by kernel_rfl)) (fun _ _ _ h=>h) (Or.inl ⟨by rfl,?_⟩) ?_ ?_
                                              rotate_left
                                              · intro w'
                                                go_simp
                                                with_reducible rfl
                                              rotate_left
                                              · simp only [Act.put,List.setIfInBounds_toArray,List.set_cons_zero,List.set_cons_succ,i64_w,i32_w]
                                                rfl
                                              refine take_ (i:=15) (N:=some 101) (v:=?_) (a':=?_) #[true,true,true,true,true,true,true,true,true,true,true,true,true,true,true,true,true,true,false,false,true,false,true,false,false,false,false,false] rfl rfl (take_ofW HT_.out HW_.out (by kernel_rfl)) (fun _ _ _ h=>h) (Or.inl ⟨by rfl,?_⟩) hHeld ?_ ?_
                                              rotate_left
                                              · rintro w' ⟨s0,s1,s2,s3,s4,s5,s6⟩
                                                go_simp
                                                with_reducible rfl
                                              rotate_left
                                              · simp only [Act.put,List.setIfInBounds_toArray,List.set_cons_zero,List.set_cons_succ,i64_w,i32_w]
                                                rfl
                                              refine pure_ (i:=18) (N:=some 104) (v:=?_) (a':=?_) #[true,true,true,true,true,true,true,true,true,true,true,true,true,true,true,true,true,true,true,false,true,false,true,false,false,false,false,false] rfl rfl (any_of HT_.out (by kernel_rfl)) (fun _ _ _ h=>h) (Or.inl ⟨by rfl,?_⟩) ?_ ?_
                                              rotate_left
                                              · intro w'
                                                go_simp
                                                with_reducible rfl
                                              rotate_left
                                              · simp only [Act.put,List.setIfInBounds_toArray,List.set_cons_zero,List.set_cons_succ,i64_w,i32_w]
                                                rfl
                                              refine take_ (i:=19) (N:=some 105) (v:=?_) (a':=?_) #[true,true,true,true,true,true,true,true,true,true,true,true,true,true,true,true,true,true,true,true,true,false,true,false,false,false,false,false] rfl rfl (take_ofW HT_.out HW_.out (by kernel_rfl)) (fun _ _ _ h=>h) (Or.inl ⟨by rfl,?_⟩) hHeld ?_ ?_
                                              rotate_left
                                              · rintro w' ⟨s0,s1,s2,s3,s4,s5,s6⟩
                                                go_simp
                                                with_reducible rfl
                                              rotate_left
                                              · simp only [Act.put,List.setIfInBounds_toArray,List.set_cons_zero,List.set_cons_succ,i64_w,i32_w]
                                                rfl
                                              refine take_ (i:=21) (N:=some 107) (v:=?_) (a':=?_) #[true,true,true,true,true,true,true,true,true,true,true,true,true,true,true,true,true,true,true,true,true,true,true,false,false,false,false,false] rfl rfl (take_ofW HT_.out HW_.out (by kernel_rfl)) (fun _ _ _ h=>h) (Or.inl ⟨by rfl,?_⟩) hHeld ?_ ?_
                                              rotate_left
                                              · rintro w' ⟨s0,s1,s2,s3,s4,s5,s6⟩
                                                go_simp
                                                with_reducible rfl
                                              rotate_left
                                              · simp only [Act.put,List.setIfInBounds_toArray,List.set_cons_zero,List.set_cons_succ,i64_w,i32_w]
                                                rfl
                                              refine pure_ (i:=23) (N:=some 109) (v:=?_) (a':=?_) #[true,true,true,true,true,true,true,true,true,true,true,true,true,true,true,true,true,true,true,true,true,true,true,true,false,false,false,false] rfl rfl (any_of HT_.out (by kernel_rfl)) (fun _ _ _ h=>h) (Or.inl ⟨by rfl,?_⟩) ?_ ?_
                                              rotate_left
                                              · intro w'
                                                go_simp
                                                with_reducible rfl
                                              rotate_left
                                              · simp only [Act.put,List.setIfInBounds_toArray,List.set_cons_zero,List.set_cons_succ,i64_w,i32_w]
                                                rfl
                                              refine take_ (i:=24) (N:=some 110) (v:=?_) (a':=?_) #[true,true,true,true,true,true,true,true,true,true,true,true,true,true,true,true,true,true,true,true,true,true,true,true,true,false,false,false] rfl rfl (take_ofW HT_.out HW_.out (by kernel_rfl)) (fun _ _ _ h=>h) (Or.inl ⟨by rfl,?_⟩) hHeld ?_ ?_
                                              rotate_left
                                              · rintro w' ⟨s0,s1,s2,s3,s4,s5,s6⟩
                                                go_simp
                                                with_reducible rfl
                                              rotate_left
                                              · simp only [Act.put,List.setIfInBounds_toArray,List.set_cons_zero,List.set_cons_succ,i64_w,i32_w]
                                                rfl
                                              refine pure_ (i:=25) (N:=some 111) (v:=?_) (a':=?_) #[true,true,true,true,true,true,true,true,true,true,true,true,true,true,true,true,true,true,true,true,true,true,true,true,true,true,false,false] rfl rfl (any_of HT_.out (by kernel_rfl)) (fun _ _ _ h=>h) (Or.inl ⟨by rfl,?_⟩) ?_ ?_
                                              rotate_left
                                              · intro w'
                                                go_simp
                                                with_reducible rfl
                                              rotate_left
                                              · simp only [Act.put,List.setIfInBounds_toArray,List.set_cons_zero,List.set_cons_succ,i64_w,i32_w]
                                                rfl
                                              refine pure_ (i:=26) (N:=some 112) (v:=?_) (a':=?_) #[true,true,true,true,true,true,true,true,true,true,true,true,true,true,true,true,true,true,true,true,true,true,true,true,true,true,true,false] rfl rfl (any_of HT_.out (by kernel_rfl)) (fun _ _ _ h=>h) (Or.inl ⟨by rfl,?_⟩) ?_ ?_
                                              rotate_left
                                              · intro w'
                                                go_simp
                                                with_reducible rfl
                                              rotate_left
                                              · simp only [Act.put,List.setIfInBounds_toArray,List.set_cons_zero,List.set_cons_succ,i64_w,i32_w]
                                                rfl
                                              refine pure_ (i:=27) (N:=some 113) (v:=?_) (a':=?_) #[true,true,true,true,true,true,true,true,true,true,true,true,true,true,true,true,true,true,true,true,true,true,true,true,true,true,true,true] rfl rfl (any_of HT_.out (by kernel_rfl)) (fun _ _ _ h=>h) (Or.inl ⟨by rfl,?_⟩) ?_ ?_
                                              rotate_left
                                              · intro w'
                                                go_simp
                                                with_reducible rfl
                                              rotate_left
                                              · simp only [Act.put,List.setIfInBounds_toArray,List.set_cons_zero,List.set_cons_succ,i64_w,i32_w]
                                                rfl
                                              refine done_ (done_of HT_.out (by kernel_rfl)) ?_
                                              try go_wp2
                                              go_roundg k5
                                              case measure=>have:=HJ2.out;have:=HK2.out;have:=HK3.out;have:=HJ34.out;have:=HK5.out;omega
                                              case rel=>exact ⟨(wrap64 (x8_5 + 1)),(by first|rfl|(simp;done)|(simp [*];done)),H',⟨by have:=HJ2.out;have:=HK2.out;have:=HK3.out;have:=HJ34.out;have:=HK5.out;omega⟩,⟨by (with_reducible repeat (first|refine qb ?_ _|refine qe ?_|refine qc ?_ _));exact BK135.out⟩,⟨by (with_reducible repeat (first|refine qb ?_ _|refine qe ?_|refine qc ?_ _));exact BK136.out⟩,⟨by (with_reducible repeat (first|refine qb ?_ _|refine qe ?_|refine qc ?_ _));exact BK141.out⟩,⟨by repeat (first|(with_reducible first|exact HB.out|apply qf|apply qa|apply qd|refine qg ?_ GE135.out|refine qg ?_ GE136.out|refine qg ?_ GE141.out)|exact HB.out)⟩⟩
                                          · rw [if_neg c70] at H
                                            exact absurd H (by simp)
                                        · rw [if_neg c69] at H
                                          exact absurd H (by simp)
                                      · rw [if_neg c67] at H
                                        have c67b0 : decide (0 < x8_5) = false:=decide_eq_false c67
                                        clear c67
                                        have H':=qn.mk H
                                        clear H
                                        have hnb80:=NB141_135.out
                                        have hnc80:=NB135_141.out
                                        have hnb81:=NB141_136.out
                                        have hnc81:=NB136_141.out
                                        have hcz82_0 : wr.cell? ⟨gb141,0,none⟩ = some (.slice A140_0 ((rd_T97 l1_1 x6_3).f0).length c140_0):=(qh BK141.out 0).trans rfl
                                        have hcz82_1 : wr.cell? ⟨gb141,1,none⟩ = some (.int .i64 ((rd_T97 l1_1 x6_3).f1)):=(qh BK141.out 1).trans rfl
                                        have hfz82_0:=qi BK141.out 0
                                        have hfz82_1:=qi BK141.out 1
                                        try go_wp2
                                        have n0_:=qn.mk (qe BK135.out)
                                        have n1_:=qn.mk (qe BK136.out)
                                        have n2_:=qn.mk (qe BK141.out)
                                        have n3_:=qn.mk (qd HB.out)
                                        clear BK135
                                        clear BK136
                                        clear BK141
                                        clear HB
                                        have BK135:=n0_
                                        have BK136:=n1_
                                        have BK141:=n2_
                                        have HB:=n3_
                                        clear n0_ n1_ n2_ n3_
                                        have p143 : 0 ≤ (x8_5 : Int):=of_decide_eq_true (by first|(with_reducible assumption)|assumption)
                                        have q143 : x8_5 < (((rd_T97 l1_1 x6_3).f0).length : Int):=of_decide_eq_true (by first|(with_reducible assumption)|assumption)
                                        obtain ⟨ad143,e143,hx143_0⟩:=Kd.at_int HR140_0.out x8_5 p143 q143
                                        have hw143_0:=hx143_0
                                        cases e143
                                        replace hx143_0:=cb_ HB hx143_0
                                        replace p143:=eq_true p143
                                        replace q143:=eq_true q143
                                        refine start_ (n:=28) (S:=fun w'=>w'.cell? ⟨gb141,0,none⟩ = some (.slice (some ad143) ((rd_T97 l1_1 x6_3).f0).length c140_0) ∧ w'.cell? ⟨gb141,1,none⟩ = some (.int .i64 ((rd_T97 l1_1 x6_3).f1)) ∧ w'.cell? ⟨gb135,0,none⟩ = some (.int .i64 a0_0) ∧ w'.cell? ⟨gb135,1,none⟩ = some (.slice A0_1 l0_1.length c0_1) ∧ w'.cell? (ad143.add (x8_5).toNat) = some (.int .i64 (rd ((rd_T97 l1_1 x6_3).f0) x8_5))) (ds:=[]) #[false,false,false,false,false,false,false,false,false,false,false,false,false,false,false,false,false,false,false,false,false,false,false,false,false,false,false,false] (by kernel_rfl) rfl rfl ⟨(qh BK141.out 0).trans rfl,(qh BK141.out 1).trans rfl,(qh BK135.out 0).trans rfl,(qh BK135.out 1).trans rfl,(cb_ HB hw143_0:)⟩ (fun hHeld=>?_);refine with_tabW spec_ProofOk.tab17 spec_ProofOk.bits17 (fun HT_ HW_=>?_)
                                        generalize wr.drew = w83 at BK135 BK136 BK141 HB hx143_0 hHeld ⊢
                                        refine pure_ (i:=0) (N:=some 86) (v:=?_) (a':=?_) #[true,false,false,false,false,false,false,false,false,false,false,false,false,false,false,false,false,false,false,false,false,false,false,false,false,false,false,false] rfl rfl (any_of HT_.out (by kernel_rfl)) (fun _ _ _ h=>h) (Or.inl ⟨by rfl,?_⟩) ?_ ?_
                                        rotate_left
                                        · intro w'
                                          go_simp
                                          with_reducible rfl
                                        rotate_left
                                        · simp only [Act.put,List.setIfInBounds_toArray,List.set_cons_zero,List.set_cons_succ,i64_w,i32_w]
                                          rfl
                                        refine pure_ (i:=2) (N:=some 88) (v:=?_) (a':=?_) #[true,false,true,false,false,false,false,false,false,false,false,false,false,false,false,false,false,false,false,false,false,false,false,false,false,false,false,false] rfl rfl (any_of HT_.out (by kernel_rfl)) (fun _ _ _ h=>h) (Or.inl ⟨by rfl,?_⟩) ?_ ?_
                                        rotate_left
                                        · intro w'
                                          go_simp
                                          with_reducible rfl
                                        rotate_left
                                        · simp only [Act.put,List.setIfInBounds_toArray,List.set_cons_zero,List.set_cons_succ,i64_w,i32_w]
                                          rfl
                                        refine pure_ (i:=5) (N:=some 91) (v:=?_) (a':=?_) #[true,false,true,false,false,true,false,false,false,false,false,false,false,false,false,false,false,false,false,false,false,false,false,false,false,false,false,false] rfl rfl (any_of HT_.out (by kernel_rfl)) (fun _ _ _ h=>h) (Or.inl ⟨by rfl,?_⟩) ?_ ?_
                                        rotate_left
                                        · intro w'
                                          go_simp
                                          with_reducible rfl
                                        rotate_left
                                        · simp only [Act.put,List.setIfInBounds_toArray,List.set_cons_zero,List.set_cons_succ,i64_w,i32_w]
                                          rfl
                                        refine take_ (i:=1) (N:=some 87) (v:=?_) (a':=?_) #[true,true,true,false,false,true,false,false,false,false,false,false,false,false,false,false,false,false,false,false,false,false,false,false,false,false,false,false] rfl rfl (take_ofW HT_.out HW_.out (by kernel_rfl)) (fun _ _ _ h=>h) (Or.inl ⟨by rfl,?_⟩) hHeld ?_ ?_
                                        rotate_left
                                        · rintro w' ⟨s0,s1,s2,s3,s4⟩
                                          go_simp
                                          with_reducible rfl
                                        rotate_left
                                        · simp only [Act.put,List.setIfInBounds_toArray,List.set_cons_zero,List.set_cons_succ,i64_w,i32_w]
                                          rfl
                                        refine pure_ (i:=3) (N:=some 89) (v:=?_) (a':=?_) #[true,true,true,true,false,true,false,false,false,false,false,false,false,false,false,false,false,false,false,false,false,false,false,false,false,false,false,false] rfl rfl (any_of HT_.out (by kernel_rfl)) (fun _ _ _ h=>h) (Or.inl ⟨by rfl,?_⟩) ?_ ?_
                                        rotate_left
                                        · intro w'
                                          go_simp
                                          with_reducible rfl
                                        rotate_left
                                        · simp only [Act.put,List.setIfInBounds_toArray,List.set_cons_zero,List.set_cons_succ,i64_w,i32_w]
                                          rfl
                                        refine take_ (i:=4) (N:=some 90) (v:=?_) (a':=?_) #[true,true,true,true,true,true,false,false,false,false,false,false,false,false,false,false,false,false,false,false,false,false,false,false,false,false,false,false] rfl rfl (take_ofW HT_.out HW_.out (by kernel_rfl)) (fun _ _ _ h=>h) (Or.inl ⟨by rfl,?_⟩) hHeld ?_ ?_
                                        rotate_left
                                        · rintro w' ⟨s0,s1,s2,s3,s4⟩
                                          go_simp
                                          with_reducible rfl
                                        rotate_left
                                        · simp only [Act.put,List.setIfInBounds_toArray,List.set_cons_zero,List.set_cons_succ,i64_w,i32_w]
                                          rfl
                                        refine take_ (i:=6) (N:=some 92) (v:=?_) (a':=?_) #[true,true,true,true,true,true,true,false,false,false,false,false,false,false,false,false,false,false,false,false,false,false,false,false,false,false,false,false] rfl rfl (take_ofW HT_.out HW_.out (by kernel_rfl)) (fun _ _ _ h=>h) (Or.inl ⟨by rfl,?_⟩) hHeld ?_ ?_
                                        rotate_left
                                        · rintro w' ⟨s0,s1,s2,s3,s4⟩
                                          go_simp
                                          with_reducible rfl
                                        rotate_left
                                        · simp only [Act.put,List.setIfInBounds_toArray,List.set_cons_zero,List.set_cons_succ,i64_w,i32_w]
                                          rfl
                                        refine pure_ (i:=7) (N:=some 93) (v:=?_) (a':=?_) #[true,true,true,true,true,true,true,true,false,false,false,false,false,false,false,false,false,false,false,false,false,false,false,false,false,false,false,false] rfl rfl (any_of HT_.out (by kernel_rfl)) (fun _ _ _ h=>h) (Or.inl ⟨by rfl,?_⟩) ?_ ?_
                                        rotate_left
                                        · intro w'
                                          go_simp
                                          with_reducible rfl
                                        rotate_left
                                        · simp only [Act.put,List.setIfInBounds_toArray,List.set_cons_zero,List.set_cons_succ,i64_w,i32_w]
                                          rfl
                                        refine one_ (i:=8) (N:=some 94) #[true,true,true,true,true,true,true,true,true,false,false,false,false,false,false,false,false,false,false,false,false,false,false,false,false,false,false,false] rfl rfl (one_of HT_.out (by kernel_rfl)) (by decide) (fun K hK=>?_)
                                        refine goes_ Try.func30 (by kernel_rfl) rfl #[.int .i64 (rd ((rd_T97 l1_1 x6_3).f0) x8_5),.int .i64 0,.int .i64 (wrap64 (a0_0 - 1))] (by rfl) rfl rfl (by (try simp only [List.map_toArray,List.map_cons,List.map_nil]);first|done|rfl|(simp only [List.length_drop,List.length_take];rfl)) ?_
                                        with_reducible refine (spec_l01In.calls (rd ((rd_T97 l1_1 x6_3).f0) x8_5) 0 (wrap64 (a0_0 - 1)) true _ A65.out).mono ?_
                                        rintro e w' ⟨rfl,⟨nd,rfl⟩⟩
                                        refine ⟨_,rfl,?_⟩
                                        refine hK.out _ _ ⟨(qh BK141.out 0).trans rfl,(qh BK141.out 1).trans rfl,(qh BK135.out 0).trans rfl,(qh BK135.out 1).trans rfl,(cb_ HB hw143_0:)⟩ (fun hHeld=>?_)
                                        clear hK K
                                        refine norm_ (a':=?_) ?_ ?_
                                        rotate_left
                                        · show Act.put _ (some 94) _ = _
                                          simp only [Act.put,List.setIfInBounds_toArray,List.set_cons_zero,List.set_cons_succ,i64_w,i32_w]
                                          rfl
                                        refine pure_ (i:=9) (N:=some 95) (v:=?_) (a':=?_) #[true,true,true,true,true,true,true,true,true,true,false,false,false,false,false,false,false,false,false,false,false,false,false,false,false,false,false,false] rfl rfl (any_of HT_.out (by kernel_rfl)) (fun _ _ _ h=>h) (Or.inl ⟨by rfl,?_⟩) ?_ ?_
                                        rotate_left
                                        · intro w'
                                          go_simp
                                          with_reducible rfl
                                        rotate_left
                                        · simp only [Act.put,List.setIfInBounds_toArray,List.set_cons_zero,List.set_cons_succ,i64_w,i32_w]
                                          rfl
                                        refine pure_ (i:=10) (N:=some 96) (v:=?_) (a':=?_) #[true,true,true,true,true,true,true,true,true,true,true,false,false,false,false,false,false,false,false,false,false,false,false,false,false,false,false,false] rfl rfl (any_of HT_.out (by kernel_rfl)) (fun _ _ _ h=>h) (Or.inl ⟨by rfl,?_⟩) ?_ ?_
                                        rotate_left
                                        · intro w'
                                          go_simp
                                          with_reducible rfl
                                        rotate_left
                                        · simp only [Act.put,List.setIfInBounds_toArray,List.set_cons_zero,List.set_cons_succ,i64_w,i32_w]
                                          rfl
                                        refine pure_ (i:=11) (N:=some 97) (v:=?_) (a':=?_) #[true,true,true,true,true,true,true,true,true,true,true,true,false,false,false,false,false,false,false,false,false,false,false,false,false,false,false,false] rfl rfl (any_of HT_.out (by kernel_rfl)) (fun _ _ _ h=>h) (Or.inl ⟨by rfl,?_⟩) ?_ ?_
                                        rotate_left
                                        · intro w'
                                          go_simp
                                          with_reducible rfl
                                        rotate_left
                                        · simp only [Act.put,List.setIfInBounds_toArray,List.set_cons_zero,List.set_cons_succ,i64_w,i32_w]
                                          rfl
                                        refine pure_ (i:=12) (N:=some 98) (v:=?_) (a':=?_) #[true,true,true,true,true,true,true,true,true,true,true,true,true,false,false,false,false,false,false,false,false,false,false,false,false,false,false,false] rfl rfl (any_of HT_.out (by kernel_rfl)) (fun _ _ _ h=>h) (Or.inl ⟨by rfl,?_⟩) ?_ ?_
                                        rotate_left
                                        · intro w'
                                          go_simp
                                          with_reducible rfl
                                        rotate_left
                                        · simp only [Act.put,List.setIfInBounds_toArray,List.set_cons_zero,List.set_cons_succ,i64_w,i32_w]
                                          rfl
                                        refine pure_ (i:=13) (N:=some 99) (v:=?_) (a':=?_) #[true,true,true,true,true,true,true,true,true,true,true,true,true,true,false,false,false,false,false,false,false,false,false,false,false,false,false,false] rfl rfl (any_of HT_.out (by kernel_rfl)) (fun _ _ _ h=>h) (Or.inl ⟨by rfl,?_⟩) ?_ ?_
                                        rotate_left
                                        · intro w'
                                          go_simp
                                          with_reducible rfl
                                        rotate_left
                                        · simp only [Act.put,List.setIfInBounds_toArray,List.set_cons_zero,List.set_cons_succ,i64_w,i32_w]
                                          rfl
                                        refine pure_ (i:=14) (N:=some 100) (v:=undef) (a':=?_) #[true,true,true,true,true,true,true,true,true,true,true,true,true,true,true,false,false,false,false,false,false,false,false,false,false,false,false,false] rfl rfl (any_of HT_.out (by kernel_rfl)) (fun _ _ _ h=>h) (Or.inr ⟨by rfl,rfl⟩) ?_ ?_
                                        rotate_left
                                        · simp only [Act.put,List.setIfInBounds_toArray,List.set_cons_zero,List.set_cons_succ,i64_w,i32_w]
                                          rfl
                                        refine pure_ (i:=15) (N:=some 101) (v:=undef) (a':=?_) #[true,true,true,true,true,true,true,true,true,true,true,true,true,true,true,true,false,false,false,false,false,false,false,false,false,false,false,false] rfl rfl (any_of HT_.out (by kernel_rfl)) (fun _ _ _ h=>h) (Or.inr ⟨by rfl,rfl⟩) ?_ ?_
                                        rotate_left
                                        · simp only [Act.put,List.setIfInBounds_toArray,List.set_cons_zero,List.set_cons_succ,i64_w,i32_w]
                                          rfl
                                        refine pure_ (i:=16) (N:=some 102) (v:=undef) (a':=?_) #[true,true,true,true,true,true,true,true,true,true,true,true,true,true,true,true,true,false,false,false,false,false,false,false,false,false,false,false] rfl rfl (any_of HT_.out (by kernel_rfl)) (fun _ _ _ h=>h) (Or.inr ⟨by rfl,rfl⟩) ?_ ?_
                                        rotate_left
                                        · simp only [Act.put,List.setIfInBounds_toArray,List.set_cons_zero,List.set_cons_succ,i64_w,i32_w]
                                          rfl
                                        refine pure_ (i:=17) (N:=some 103) (v:=undef) (a':=?_) #[true,true,true,true,true,true,true,true,true,true,true,true,true,true,true,true,true,true,false,false,false,false,false,false,false,false,false,false] rfl rfl (any_of HT_.out (by kernel_rfl)) (fun _ _ _ h=>h) (Or.inr ⟨by rfl,rfl⟩) ?_ ?_
                                        rotate_left
                                        · simp only [Act.put,List.setIfInBounds_toArray,List.set_cons_zero,List.set_cons_succ,i64_w,i32_w]
                                          rfl
                                        refine pure_ (i:=18) (N:=some 104) (v:=undef) (a':=?_) #[true,true,true,true,true,true,true,true,true,true,true,true,true,true,true,true,true,true,true,false,false,false,false,false,false,false,false,false] rfl rfl (any_of HT_.out (by kernel_rfl)) (fun _ _ _ h=>h) (Or.inr ⟨by rfl,rfl⟩) ?_ ?_
                                        rotate_left
                                        · simp only [Act.put,List.setIfInBounds_toArray,List.set_cons_zero,List.set_cons_succ,i64_w,i32_w]
                                          rfl
                                        refine pure_ (i:=19) (N:=some 105) (v:=undef) (a':=?_) #[true,true,true,true,true,true,true,true,true,true,true,true,true,true,true,true,true,true,true,true,false,false,false,false,false,false,false,false] rfl rfl (any_of HT_.out (by kernel_rfl)) (fun _ _ _ h=>h) (Or.inr ⟨by rfl,rfl⟩) ?_ ?_
                                        rotate_left
                                        · simp only [Act.put,List.setIfInBounds_toArray,List.set_cons_zero,List.set_cons_succ,i64_w,i32_w]
                                          rfl
                                        refine pure_ (i:=20) (N:=some 106) (v:=undef) (a':=?_) #[true,true,true,true,true,true,true,true,true,true,true,true,true,true,true,true,true,true,true,true,true,false,false,false,false,false,false,false] rfl rfl (any_of HT_.out (by kernel_rfl)) (fun _ _ _ h=>h) (Or.inr ⟨by rfl,rfl⟩) ?_ ?_
                                        rotate_left
                                        · simp only [Act.put,List.setIfInBounds_toArray,List.set_cons_zero,List.set_cons_succ,i64_w,i32_w]
                                          rfl
                                        refine pure_ (i:=21) (N:=some 107) (v:=undef) (a':=?_) #[true,true,true,true,true,true,true,true,true,true,true,true,true,true,true,true,true,true,true,true,true,true,false,false,false,false,false,false] rfl rfl (any_of HT_.out (by kernel_rfl)) (fun _ _ _ h=>h) (Or.inr ⟨by rfl,rfl⟩) ?_ ?_
                                        rotate_left
                                        · simp only [Act.put,List.setIfInBounds_toArray,List.set_cons_zero,List.set_cons_succ,i64_w,i32_w]
                                          rfl
                                        refine pure_ (i:=22) (N:=some 108) (v:=undef) (a':=?_) #[true,true,true,true,true,true,true,true,true,true,true,true,true,true,true,true,true,true,true,true,true,true,true,false,false,false,false,false] rfl rfl (any_of HT_.out (by kernel_rfl)) (fun _ _ _ h=>h) (Or.inr ⟨by rfl,rfl⟩) ?_ ?_
                                        rotate_left
                                        · simp only [Act.put,List.setIfInBounds_toArray,List.set_cons_zero,List.set_cons_succ,i64_w,i32_w]
                                          rfl
                                        refine pure_ (i:=23) (N:=some 109) (v:=undef) (a':=?_) #[true,true,true,true,true,true,true,true,true,true,true,true,true,true,true,true,true,true,true,true,true,true,true,true,false,false,false,false] rfl rfl (any_of HT_.out (by kernel_rfl)) (fun _ _ _ h=>h) (Or.inr ⟨by rfl,rfl⟩) ?_ ?_
                                        rotate_left
                                        · simp only [Act.put,List.setIfInBounds_toArray,List.set_cons_zero,List.set_cons_succ,i64_w,i32_w]
                                          rfl
                                        refine pure_ (i:=24) (N:=some 110) (v:=undef) (a':=?_) #[true,true,true,true,true,true,true,true,true,true,true,true,true,true,true,true,true,true,true,true,true,true,true,true,true,false,false,false] rfl rfl (any_of HT_.out (by kernel_rfl)) (fun _ _ _ h=>h) (Or.inr ⟨by rfl,rfl⟩) ?_ ?_
                                        rotate_left
                                        · simp only [Act.put,List.setIfInBounds_toArray,List.set_cons_zero,List.set_cons_succ,i64_w,i32_w]
                                          rfl
                                        refine pure_ (i:=25) (N:=some 111) (v:=undef) (a':=?_) #[true,true,true,true,true,true,true,true,true,true,true,true,true,true,true,true,true,true,true,true,true,true,true,true,true,true,false,false] rfl rfl (any_of HT_.out (by kernel_rfl)) (fun _ _ _ h=>h) (Or.inr ⟨by rfl,rfl⟩) ?_ ?_
                                        rotate_left
                                        · simp only [Act.put,List.setIfInBounds_toArray,List.set_cons_zero,List.set_cons_succ,i64_w,i32_w]
                                          rfl
                                        refine pure_ (i:=26) (N:=some 112) (v:=?_) (a':=?_) #[true,true,true,true,true,true,true,true,true,true,true,true,true,true,true,true,true,true,true,true,true,true,true,true,true,true,true,false] rfl rfl (any_of HT_.out (by kernel_rfl)) (fun _ _ _ h=>h) (Or.inl ⟨by rfl,?_⟩) ?_ ?_
                                        rotate_left
                                        · intro w'
                                          go_simp
                                          with_reducible rfl
                                        rotate_left
                                        · simp only [Act.put,List.setIfInBounds_toArray,List.set_cons_zero,List.set_cons_succ,i64_w,i32_w]
                                          rfl
                                        refine pure_ (i:=27) (N:=some 113) (v:=?_) (a':=?_) #[true,true,true,true,true,true,true,true,true,true,true,true,true,true,true,true,true,true,true,true,true,true,true,true,true,true,true,true] rfl rfl (any_of HT_.out (by kernel_rfl)) (fun _ _ _ h=>h) (Or.inl ⟨by rfl,?_⟩) ?_ ?_
                                        rotate_left
                                        · intro w'
                                          go_simp
                                          with_reducible rfl
                                        rotate_left
                                        · simp only [Act.put,List.setIfInBounds_toArray,List.set_cons_zero,List.set_cons_succ,i64_w,i32_w]
                                          rfl
                                        refine done_ (done_of HT_.out (by kernel_rfl)) ?_
                                        try go_wp2
                                        go_roundg k5
                                        case measure=>have:=HJ2.out;have:=HK2.out;have:=HK3.out;have:=HJ34.out;have:=HK5.out;omega
                                        case rel=>exact ⟨(wrap64 (x8_5 + 1)),(by first|rfl|(simp;done)|(simp [*];done)),H',⟨by have:=HJ2.out;have:=HK2.out;have:=HK3.out;have:=HJ34.out;have:=HK5.out;omega⟩,⟨by (with_reducible repeat (first|refine qb ?_ _|refine qe ?_|refine qc ?_ _));exact BK135.out⟩,⟨by (with_reducible repeat (first|refine qb ?_ _|refine qe ?_|refine qc ?_ _));exact BK136.out⟩,⟨by (with_reducible repeat (first|refine qb ?_ _|refine qe ?_|refine qc ?_ _));exact BK141.out⟩,⟨by repeat (first|(with_reducible first|exact HB.out|apply qf|apply qa|apply qd|refine qg ?_ GE135.out|refine qg ?_ GE136.out|refine qg ?_ GE141.out)|exact HB.out)⟩⟩
                                    · replace c66:=Bool.eq_false_iff.mpr c66
                                      subst c66
                                      have H1 : (some false) = some r:=by rw [if_neg (show ¬ (false = true) by decide)] at H;exact H
                                      clear H
                                      have H:=H1
                                      clear H1
                                      obtain rfl:=Option.some.inj H
                                      have hnb84:=NB141_135.out
                                      have hnc84:=NB135_141.out
                                      have hnb85:=NB141_136.out
                                      have hnc85:=NB136_141.out
                                      have hcz86_0 : wr.cell? ⟨gb141,0,none⟩ = some (.slice A140_0 ((rd_T97 l1_1 x6_3).f0).length c140_0):=(qh BK141.out 0).trans rfl
                                      have hcz86_1 : wr.cell? ⟨gb141,1,none⟩ = some (.int .i64 ((rd_T97 l1_1 x6_3).f1)):=(qh BK141.out 1).trans rfl
                                      have hfz86_0:=qi BK141.out 0
                                      have hfz86_1:=qi BK141.out 1
                                      try go_wp2
                                      have n0_:=qn.mk (qe BK135.out)
                                      have n1_:=qn.mk (qe BK136.out)
                                      have n2_:=qn.mk (qe BK141.out)
                                      have n3_:=qn.mk (qd HB.out)
                                      clear BK135
                                      clear BK136
                                      clear BK141
                                      clear HB
                                      have BK135:=n0_
                                      have BK136:=n1_
                                      have BK141:=n2_
                                      have HB:=n3_
                                      clear n0_ n1_ n2_ n3_
                                      have p143 : 0 ≤ (x8_5 : Int):=of_decide_eq_true (by first|(with_reducible assumption)|assumption)
                                      have q143 : x8_5 < (((rd_T97 l1_1 x6_3).f0).length : Int):=of_decide_eq_true (by first|(with_reducible assumption)|assumption)
                                      obtain ⟨ad143,e143,hx143_0⟩:=Kd.at_int HR140_0.out x8_5 p143 q143
                                      have hw143_0:=hx143_0
                                      cases e143
                                      replace hx143_0:=cb_ HB hx143_0
                                      replace p143:=eq_true p143
                                      replace q143:=eq_true q143
                                      refine start_ (n:=28) (S:=fun w'=>w'.cell? ⟨gb141,0,none⟩ = some (.slice (some ad143) ((rd_T97 l1_1 x6_3).f0).length c140_0) ∧ w'.cell? ⟨gb141,1,none⟩ = some (.int .i64 ((rd_T97 l1_1 x6_3).f1)) ∧ w'.cell? ⟨gb135,0,none⟩ = some (.int .i64 a0_0) ∧ w'.cell? ⟨gb135,1,none⟩ = some (.slice A0_1 l0_1.length c0_1) ∧ w'.cell? (ad143.add (x8_5).toNat) = some (.int .i64 (rd ((rd_T97 l1_1 x6_3).f0) x8_5))) (ds:=[]) #[false,false,false,false,false,false,false,false,false,false,false,false,false,false,false,false,false,false,false,false,false,false,false,false,false,false,false,false] (by kernel_rfl) rfl rfl ⟨(qh BK141.out 0).trans rfl,(qh BK141.out 1).trans rfl,(qh BK135.out 0).trans rfl,(qh BK135.out 1).trans rfl,(cb_ HB hw143_0:)⟩ (fun hHeld=>?_);refine with_tabW spec_ProofOk.tab17 spec_ProofOk.bits17 (fun HT_ HW_=>?_)
                                      generalize wr.drew = w87 at BK135 BK136 BK141 HB hx143_0 hHeld ⊢
                                      refine pure_ (i:=0) (N:=some 86) (v:=?_) (a':=?_) #[true,false,false,false,false,false,false,false,false,false,false,false,false,false,false,false,false,false,false,false,false,false,false,false,false,false,false,false] rfl rfl (any_of HT_.out (by kernel_rfl)) (fun _ _ _ h=>h) (Or.inl ⟨by rfl,?_⟩) ?_ ?_
                                      rotate_left
                                      · intro w'
                                        go_simp
                                        with_reducible rfl
                                      rotate_left
                                      · simp only [Act.put,List.setIfInBounds_toArray,List.set_cons_zero,List.set_cons_succ,i64_w,i32_w]
                                        rfl
                                      refine pure_ (i:=2) (N:=some 88) (v:=?_) (a':=?_) #[true,false,true,false,false,false,false,false,false,false,false,false,false,false,false,false,false,false,false,false,false,false,false,false,false,false,false,false] rfl rfl (any_of HT_.out (by kernel_rfl)) (fun _ _ _ h=>h) (Or.inl ⟨by rfl,?_⟩) ?_ ?_
                                      rotate_left
                                      · intro w'
                                        go_simp
                                        with_reducible rfl
                                      rotate_left
                                      · simp only [Act.put,List.setIfInBounds_toArray,List.set_cons_zero,List.set_cons_succ,i64_w,i32_w]
                                        rfl
                                      refine pure_ (i:=5) (N:=some 91) (v:=?_) (a':=?_) #[true,false,true,false,false,true,false,false,false,false,false,false,false,false,false,false,false,false,false,false,false,false,false,false,false,false,false,false] rfl rfl (any_of HT_.out (by kernel_rfl)) (fun _ _ _ h=>h) (Or.inl ⟨by rfl,?_⟩) ?_ ?_
                                      rotate_left
                                      · intro w'
                                        go_simp
                                        with_reducible rfl
                                      rotate_left
                                      · simp only [Act.put,List.setIfInBounds_toArray,List.set_cons_zero,List.set_cons_succ,i64_w,i32_w]
                                        rfl
                                      refine take_ (i:=1) (N:=some 87) (v:=?_) (a':=?_) #[true,true,true,false,false,true,false,false,false,false,false,false,false,false,false,false,false,false,false,false,false,false,false,false,false,false,false,false] rfl rfl (take_ofW HT_.out HW_.out (by kernel_rfl)) (fun _ _ _ h=>h) (Or.inl ⟨by rfl,?_⟩) hHeld ?_ ?_
                                      rotate_left
                                      · rintro w' ⟨s0,s1,s2,s3,s4⟩
                                        go_simp
                                        with_reducible rfl
                                      rotate_left
                                      · simp only [Act.put,List.setIfInBounds_toArray,List.set_cons_zero,List.set_cons_succ,i64_w,i32_w]
                                        rfl
                                      refine pure_ (i:=3) (N:=some 89) (v:=?_) (a':=?_) #[true,true,true,true,false,true,false,false,false,false,false,false,false,false,false,false,false,false,false,false,false,false,false,false,false,false,false,false] rfl rfl (any_of HT_.out (by kernel_rfl)) (fun _ _ _ h=>h) (Or.inl ⟨by rfl,?_⟩) ?_ ?_
                                      rotate_left
                                      · intro w'
                                        go_simp
                                        with_reducible rfl
                                      rotate_left
                                      · simp only [Act.put,List.setIfInBounds_toArray,List.set_cons_zero,List.set_cons_succ,i64_w,i32_w]
                                        rfl
                                      refine take_ (i:=4) (N:=some 90) (v:=?_) (a':=?_) #[true,true,true,true,true,true,false,false,false,false,false,false,false,false,false,false,false,false,false,false,false,false,false,false,false,false,false,false] rfl rfl (take_ofW HT_.out HW_.out (by kernel_rfl)) (fun _ _ _ h=>h) (Or.inl ⟨by rfl,?_⟩) hHeld ?_ ?_
                                      rotate_left
                                      · rintro w' ⟨s0,s1,s2,s3,s4⟩
                                        go_simp
                                        with_reducible rfl
                                      rotate_left
                                      · simp only [Act.put,List.setIfInBounds_toArray,List.set_cons_zero,List.set_cons_succ,i64_w,i32_w]
                                        rfl
                                      refine take_ (i:=6) (N:=some 92) (v:=?_) (a':=?_) #[true,true,true,true,true,true,true,false,false,false,false,false,false,false,false,false,false,false,false,false,false,false,false,false,false,false,false,false] rfl rfl (take_ofW HT_.out HW_.out (by kernel_rfl)) (fun _ _ _ h=>h) (Or.inl ⟨by rfl,?_⟩) hHeld ?_ ?_
                                      rotate_left
                                      · rintro w' ⟨s0,s1,s2,s3,s4⟩
                                        go_simp
                                        with_reducible rfl
                                      rotate_left
                                      · simp only [Act.put,List.setIfInBounds_toArray,List.set_cons_zero,List.set_cons_succ,i64_w,i32_w]
                                        rfl
                                      refine pure_ (i:=7) (N:=some 93) (v:=?_) (a':=?_) #[true,true,true,true,true,true,true,true,false,false,false,false,false,false,false,false,false,false,false,false,false,false,false,false,false,false,false,false] rfl rfl (any_of HT_.out (by kernel_rfl)) (fun _ _ _ h=>h) (Or.inl ⟨by rfl,?_⟩) ?_ ?_
                                      rotate_left
                                      · intro w'
                                        go_simp
                                        with_reducible rfl
                                      rotate_left
                                      · simp only [Act.put,List.setIfInBounds_toArray,List.set_cons_zero,List.set_cons_succ,i64_w,i32_w]
                                        rfl
                                      refine one_ (i:=8) (N:=some 94) #[true,true,true,true,true,true,true,true,true,false,false,false,false,false,false,false,false,false,false,false,false,false,false,false,false,false,false,false] rfl rfl (one_of HT_.out (by kernel_rfl)) (by decide) (fun K hK=>?_)
                                      refine goes_ Try.func30 (by kernel_rfl) rfl #[.int .i64 (rd ((rd_T97 l1_1 x6_3).f0) x8_5),.int .i64 0,.int .i64 (wrap64 (a0_0 - 1))] (by rfl) rfl rfl (by (try simp only [List.map_toArray,List.map_cons,List.map_nil]);first|done|rfl|(simp only [List.length_drop,List.length_take];rfl)) ?_
                                      with_reducible refine (spec_l01In.calls (rd ((rd_T97 l1_1 x6_3).f0) x8_5) 0 (wrap64 (a0_0 - 1)) false _ A65.out).mono ?_
                                      rintro e w' ⟨rfl,⟨nd,rfl⟩⟩
                                      refine ⟨_,rfl,?_⟩
                                      refine hK.out _ _ ⟨(qh BK141.out 0).trans rfl,(qh BK141.out 1).trans rfl,(qh BK135.out 0).trans rfl,(qh BK135.out 1).trans rfl,(cb_ HB hw143_0:)⟩ (fun hHeld=>?_)
                                      clear hK K
                                      refine norm_ (a':=?_) ?_ ?_
                                      rotate_left
                                      · show Act.put _ (some 94) _ = _
                                        simp only [Act.put,List.setIfInBounds_toArray,List.set_cons_zero,List.set_cons_succ,i64_w,i32_w]
                                        rfl
                                      refine pure_ (i:=9) (N:=some 95) (v:=?_) (a':=?_) #[true,true,true,true,true,true,true,true,true,true,false,false,false,false,false,false,false,false,false,false,false,false,false,false,false,false,false,false] rfl rfl (any_of HT_.out (by kernel_rfl)) (fun _ _ _ h=>h) (Or.inl ⟨by rfl,?_⟩) ?_ ?_
                                      rotate_left
                                      · intro w'
                                        go_simp
                                        with_reducible rfl
                                      rotate_left
                                      · simp only [Act.put,List.setIfInBounds_toArray,List.set_cons_zero,List.set_cons_succ,i64_w,i32_w]
                                        rfl
                                      refine pure_ (i:=10) (N:=some 96) (v:=?_) (a':=?_) #[true,true,true,true,true,true,true,true,true,true,true,false,false,false,false,false,false,false,false,false,false,false,false,false,false,false,false,false] rfl rfl (any_of HT_.out (by kernel_rfl)) (fun _ _ _ h=>h) (Or.inl ⟨by rfl,?_⟩) ?_ ?_
                                      rotate_left
                                      · intro w'
                                        go_simp
                                        with_reducible rfl
                                      rotate_left
                                      · simp only [Act.put,List.setIfInBounds_toArray,List.set_cons_zero,List.set_cons_succ,i64_w,i32_w]
                                        rfl
                                      refine pure_ (i:=11) (N:=some 97) (v:=undef) (a':=?_) #[true,true,true,true,true,true,true,true,true,true,true,true,false,false,false,false,false,false,false,false,false,false,false,false,false,false,false,false] rfl rfl (any_of HT_.out (by kernel_rfl)) (fun _ _ _ h=>h) (Or.inr ⟨by rfl,rfl⟩) ?_ ?_
                                      rotate_left
                                      · simp only [Act.put,List.setIfInBounds_toArray,List.set_cons_zero,List.set_cons_succ,i64_w,i32_w]
                                        rfl
                                      refine pure_ (i:=12) (N:=some 98) (v:=undef) (a':=?_) #[true,true,true,true,true,true,true,true,true,true,true,true,true,false,false,false,false,false,false,false,false,false,false,false,false,false,false,false] rfl rfl (any_of HT_.out (by kernel_rfl)) (fun _ _ _ h=>h) (Or.inr ⟨by rfl,rfl⟩) ?_ ?_
                                      rotate_left
                                      · simp only [Act.put,List.setIfInBounds_toArray,List.set_cons_zero,List.set_cons_succ,i64_w,i32_w]
                                        rfl
                                      refine pure_ (i:=13) (N:=some 99) (v:=undef) (a':=?_) #[true,true,true,true,true,true,true,true,true,true,true,true,true,true,false,false,false,false,false,false,false,false,false,false,false,false,false,false] rfl rfl (any_of HT_.out (by kernel_rfl)) (fun _ _ _ h=>h) (Or.inr ⟨by rfl,rfl⟩) ?_ ?_
                                      rotate_left
                                      · simp only [Act.put,List.setIfInBounds_toArray,List.set_cons_zero,List.set_cons_succ,i64_w,i32_w]
                                        rfl
                                      refine pure_ (i:=14) (N:=some 100) (v:=undef) (a':=?_) #[true,true,true,true,true,true,true,true,true,true,true,true,true,true,true,false,false,false,false,false,false,false,false,false,false,false,false,false] rfl rfl (any_of HT_.out (by kernel_rfl)) (fun _ _ _ h=>h) (Or.inr ⟨by rfl,rfl⟩) ?_ ?_
                                      rotate_left
                                      · simp only [Act.put,List.setIfInBounds_toArray,List.set_cons_zero,List.set_cons_succ,i64_w,i32_w]
                                        rfl
                                      refine pure_ (i:=15) (N:=some 101) (v:=undef) (a':=?_) #[true,true,true,true,true,true,true,true,true,true,true,true,true,true,true,true,false,false,false,false,false,false,false,false,false,false,false,false] rfl rfl (any_of HT_.out (by kernel_rfl)) (fun _ _ _ h=>h) (Or.inr ⟨by rfl,rfl⟩) ?_ ?_
                                      rotate_left
                                      · simp only [Act.put,List.setIfInBounds_toArray,List.set_cons_zero,List.set_cons_succ,i64_w,i32_w]
                                        rfl
                                      refine pure_ (i:=16) (N:=some 102) (v:=undef) (a':=?_) #[true,true,true,true,true,true,true,true,true,true,true,true,true,true,true,true,true,false,false,false,false,false,false,false,false,false,false,false] rfl rfl (any_of HT_.out (by kernel_rfl)) (fun _ _ _ h=>h) (Or.inr ⟨by rfl,rfl⟩) ?_ ?_
                                      rotate_left
                                      · simp only [Act.put,List.setIfInBounds_toArray,List.set_cons_zero,List.set_cons_succ,i64_w,i32_w]
                                        rfl
                                      refine pure_ (i:=17) (N:=some 103) (v:=undef) (a':=?_) #[true,true,true,true,true,true,true,true,true,true,true,true,true,true,true,true,true,true,false,false,false,false,false,false,false,false,false,false] rfl rfl (any_of HT_.out (by kernel_rfl)) (fun _ _ _ h=>h) (Or.inr ⟨by rfl,rfl⟩) ?_ ?_
                                      rotate_left
                                      · simp only [Act.put,List.setIfInBounds_toArray,List.set_cons_zero,List.set_cons_succ,i64_w,i32_w]
                                        rfl
                                      refine pure_ (i:=18) (N:=some 104) (v:=undef) (a':=?_) #[true,true,true,true,true,true,true,true,true,true,true,true,true,true,true,true,true,true,true,false,false,false,false,false,false,false,false,false] rfl rfl (any_of HT_.out (by kernel_rfl)) (fun _ _ _ h=>h) (Or.inr ⟨by rfl,rfl⟩) ?_ ?_
                                      rotate_left
                                      · simp only [Act.put,List.setIfInBounds_toArray,List.set_cons_zero,List.set_cons_succ,i64_w,i32_w]
                                        rfl
                                      refine pure_ (i:=19) (N:=some 105) (v:=undef) (a':=?_) #[true,true,true,true,true,true,true,true,true,true,true,true,true,true,true,true,true,true,true,true,false,false,false,false,false,false,false,false] rfl rfl (any_of HT_.out (by kernel_rfl)) (fun _ _ _ h=>h) (Or.inr ⟨by rfl,rfl⟩) ?_ ?_
                                      rotate_left
                                      · simp only [Act.put,List.setIfInBounds_toArray,List.set_cons_zero,List.set_cons_succ,i64_w,i32_w]
                                        rfl
                                      refine pure_ (i:=20) (N:=some 106) (v:=undef) (a':=?_) #[true,true,true,true,true,true,true,true,true,true,true,true,true,true,true,true,true,true,true,true,true,false,false,false,false,false,false,false] rfl rfl (any_of HT_.out (by kernel_rfl)) (fun _ _ _ h=>h) (Or.inr ⟨by rfl,rfl⟩) ?_ ?_
                                      rotate_left
                                      · simp only [Act.put,List.setIfInBounds_toArray,List.set_cons_zero,List.set_cons_succ,i64_w,i32_w]
                                        rfl
                                      refine pure_ (i:=21) (N:=some 107) (v:=undef) (a':=?_) #[true,true,true,true,true,true,true,true,true,true,true,true,true,true,true,true,true,true,true,true,true,true,false,false,false,false,false,false] rfl rfl (any_of HT_.out (by kernel_rfl)) (fun _ _ _ h=>h) (Or.inr ⟨by rfl,rfl⟩) ?_ ?_
                                      rotate_left
                                      · simp only [Act.put,List.setIfInBounds_toArray,List.set_cons_zero,List.set_cons_succ,i64_w,i32_w]
                                        rfl
                                      refine pure_ (i:=22) (N:=some 108) (v:=undef) (a':=?_) #[true,true,true,true,true,true,true,true,true,true,true,true,true,true,true,true,true,true,true,true,true,true,true,false,false,false,false,false] rfl rfl (any_of HT_.out (by kernel_rfl)) (fun _ _ _ h=>h) (Or.inr ⟨by rfl,rfl⟩) ?_ ?_
                                      rotate_left
                                      · simp only [Act.put,List.setIfInBounds_toArray,List.set_cons_zero,List.set_cons_succ,i64_w,i32_w]
                                        rfl
                                      refine pure_ (i:=23) (N:=some 109) (v:=undef) (a':=?_) #[true,true,true,true,true,true,true,true,true,true,true,true,true,true,true,true,true,true,true,true,true,true,true,true,false,false,false,false] rfl rfl (any_of HT_.out (by kernel_rfl)) (fun _ _ _ h=>h) (Or.inr ⟨by rfl,rfl⟩) ?_ ?_
                                      rotate_left
                                      · simp only [Act.put,List.setIfInBounds_toArray,List.set_cons_zero,List.set_cons_succ,i64_w,i32_w]
                                        rfl
                                      refine pure_ (i:=24) (N:=some 110) (v:=undef) (a':=?_) #[true,true,true,true,true,true,true,true,true,true,true,true,true,true,true,true,true,true,true,true,true,true,true,true,true,false,false,false] rfl rfl (any_of HT_.out (by kernel_rfl)) (fun _ _ _ h=>h) (Or.inr ⟨by rfl,rfl⟩) ?_ ?_
                                      rotate_left
                                      · simp only [Act.put,List.setIfInBounds_toArray,List.set_cons_zero,List.set_cons_succ,i64_w,i32_w]
                                        rfl
                                      refine pure_ (i:=25) (N:=some 111) (v:=undef) (a':=?_) #[true,true,true,true,true,true,true,true,true,true,true,true,true,true,true,true,true,true,true,true,true,true,true,true,true,true,false,false] rfl rfl (any_of HT_.out (by kernel_rfl)) (fun _ _ _ h=>h) (Or.inr ⟨by rfl,rfl⟩) ?_ ?_
                                      rotate_left
                                      · simp only [Act.put,List.setIfInBounds_toArray,List.set_cons_zero,List.set_cons_succ,i64_w,i32_w]
                                        rfl
                                      refine pure_ (i:=26) (N:=some 112) (v:=undef) (a':=?_) #[true,true,true,true,true,true,true,true,true,true,true,true,true,true,true,true,true,true,true,true,true,true,true,true,true,true,true,false] rfl rfl (any_of HT_.out (by kernel_rfl)) (fun _ _ _ h=>h) (Or.inr ⟨by rfl,rfl⟩) ?_ ?_
                                      rotate_left
                                      · simp only [Act.put,List.setIfInBounds_toArray,List.set_cons_zero,List.set_cons_succ,i64_w,i32_w]
                                        rfl
                                      refine pure_ (i:=27) (N:=some 113) (v:=?_) (a':=?_) #[true,true,true,true,true,true,true,true,true,true,true,true,true,true,true,true,true,true,true,true,true,true,true,true,true,true,true,true] rfl rfl (any_of HT_.out (by kernel_rfl)) (fun _ _ _ h=>h) (Or.inl ⟨by rfl,?_⟩) ?_ ?_
                                      rotate_left
                                      · intro w'
                                        go_simp
                                        with_reducible rfl
                                      rotate_left
                                      · simp only [Act.put,List.setIfInBounds_toArray,List.set_cons_zero,List.set_cons_succ,i64_w,i32_w]
                                        rfl
                                      refine done_ (done_of HT_.out (by kernel_rfl)) ?_
                                      try go_wp2
                                      go_ret
                                      exact ⟨by first|rfl|(simp [errW_none,errW_some] <;> rfl)|(simp [*,errW_none,errW_some] <;> rfl),by repeat (first|(with_reducible first|exact HB.out|apply qf|apply qa|apply qd|refine qg ?_ GE135.out|refine qg ?_ GE136.out|refine qg ?_ GE141.out)|exact HB.out)⟩
                                  · rw [if_neg c64] at H
                                    exact absurd H (by simp)
                                · rw [if_neg c63] at H
                                  have c63b0 : decide (x8_5 < (((rd_T97 l1_1 x6_3).f0).length : Int)) = false:=decide_eq_false c63
                                  clear c63
                                  have H':=qn.mk H
                                  clear H
                                  have hnb88:=NB141_135.out
                                  have hnc88:=NB135_141.out
                                  have hnb89:=NB141_136.out
                                  have hnc89:=NB136_141.out
                                  have hcz90_0 : wr.cell? ⟨gb141,0,none⟩ = some (.slice A140_0 ((rd_T97 l1_1 x6_3).f0).length c140_0):=(qh BK141.out 0).trans rfl
                                  have hcz90_1 : wr.cell? ⟨gb141,1,none⟩ = some (.int .i64 ((rd_T97 l1_1 x6_3).f1)):=(qh BK141.out 1).trans rfl
                                  have hfz90_0:=qi BK141.out 0
                                  have hfz90_1:=qi BK141.out 1
                                  go_wp2
                                  go_loopg [9] k5 (fun kq v9 w'=>∃ (x9_6 : Int),v9 = .int .i64 x9_6 ∧ qn (spec_ProofOk.l3 kq x6_3 x9_6 a0_0 l0_1 l1_0 l1_1 ((rd_T97 l1_1 x6_3).f0) ((rd_T97 l1_1 x6_3).f1) = some r) ∧ qn (kq ≤ k5) ∧ qn (w'.heap[gb135]? = some (.cells #[.int .i64 a0_0,(.slice A0_1 l0_1.length c0_1)] 61 (0,0))) ∧ qn (w'.heap[gb136]? = some (.cells #[(.slice A1_0 l1_0.length c1_0),(.slice (some ad140) l1_1.length c1_1)] 65 (0,0))) ∧ qn (w'.heap[gb141]? = some (.cells #[(.slice A140_0 ((rd_T97 l1_1 x6_3).f0).length c140_0),.int .i64 ((rd_T97 l1_1 x6_3).f1)] 97 (0,0))) ∧ qn (Below w.heap.size w w'))
                                  case atStart=>exact ⟨(0),(by first|rfl|(simp;done)|(simp [*];done)),H',⟨Nat.le_refl _⟩,⟨by (with_reducible repeat (first|refine qb ?_ _|refine qe ?_|refine qc ?_ _));exact BK135.out⟩,⟨by (with_reducible repeat (first|refine qb ?_ _|refine qe ?_|refine qc ?_ _));exact BK136.out⟩,⟨by (with_reducible repeat (first|refine qb ?_ _|refine qe ?_|refine qc ?_ _));exact BK141.out⟩,⟨by repeat (first|(with_reducible first|exact HB.out|apply qf|apply qa|apply qd|refine qg ?_ GE135.out|refine qg ?_ GE136.out|refine qg ?_ GE141.out)|exact HB.out)⟩⟩
                                  case round =>
                                    clear H'
                                    try clear c1
                                    try clear p1
                                    try clear q1
                                    try clear hx1
                                    try clear p2
                                    try clear c3
                                    try clear c6
                                    try clear p6
                                    try clear c7
                                    try clear c8
                                    try clear c14
                                    try clear p14
                                    try clear q14
                                    try clear hx14
                                    try clear c30
                                    try clear c63
                                    try clear c63b0
                                    try clear c64
                                    try clear p64
                                    try clear c66
                                    try clear c67
                                    try clear c67b0
                                    try clear c69
                                    try clear c70
                                    try clear c80
                                    try clear c81
                                    try clear c84
                                    try clear c85
                                    try clear c88
                                    try clear c89
                                    try clear hcz82_0
                                    try clear hcz82_1
                                    try clear hcz86_0
                                    try clear hcz86_1
                                    try clear hcz90_0
                                    try clear hcz90_1
                                    try clear hfz82_0
                                    try clear hfz82_1
                                    try clear hfz86_0
                                    try clear hfz86_1
                                    try clear hfz90_0
                                    try clear hfz90_1
                                    try clear hx143_0
                                    try clear p143
                                    try clear q143
                                    obtain ⟨x9_6,rfl,HA,HK6,BK135,BK136,BK141,HB⟩:=hrel
                                    cases gk with
                                    | zero=>exact absurd HA.out (by simp [spec_ProofOk.l3])
                                    | succ k6 =>
                                      have H:=HA.out
                                      clear HA
                                      simp only [spec_ProofOk.l3] at H
                                      by_cases c91 : x9_6 < x6_3
                                      · rw [if_pos c91] at H
                                        have c91b0 : decide (x9_6 < x6_3) = true:=decide_eq_true c91
                                        clear c91
                                        by_cases c92 : 0 ≤ x9_6
                                        · rw [if_pos c92] at H
                                          have c92b0 : decide (0 ≤ x9_6) = true:=decide_eq_true c92
                                          clear c92
                                          by_cases c93 : x9_6 < (l1_1.length : Int)
                                          · rw [if_pos c93] at H
                                            have c93b0 : decide (x9_6 < (l1_1.length : Int)) = true:=decide_eq_true c93
                                            clear c93
                                            replace H:=Option.bind_eq_some_iff.mp H
                                            obtain ⟨t148,A940,H⟩:=H
                                            replace H : (if t148 = true then (spec_ProofOk.l3 k6 x6_3 (wrap64 (x9_6 + 1)) a0_0 l0_1 l1_0 l1_1 ((rd_T97 l1_1 x6_3).f0) ((rd_T97 l1_1 x6_3).f1)) else (some false)) = some r:=H
                                            have A94:=qn.mk A940
                                            clear A940
                                            by_cases c95 : t148 = true
                                            · subst c95
                                              have H1 : (spec_ProofOk.l3 k6 x6_3 (wrap64 (x9_6 + 1)) a0_0 l0_1 l1_0 l1_1 ((rd_T97 l1_1 x6_3).f0) ((rd_T97 l1_1 x6_3).f1)) = some r:=by rw [if_pos rfl] at H;exact H
                                              clear H
                                              have H:=H1
                                              clear H1
                                              have H':=qn.mk H
                                              clear H
                                              try go_wp2
                                              have n0_:=qn.mk (qe BK135.out)
                                              have n1_:=qn.mk (qe BK136.out)
                                              have n2_:=qn.mk (qe BK141.out)
                                              have n3_:=qn.mk (qd HB.out)
                                              clear BK135
                                              clear BK136
                                              clear BK141
                                              clear HB
                                              have BK135:=n0_
                                              have BK136:=n1_
                                              have BK141:=n2_
                                              have HB:=n3_
                                              clear n0_ n1_ n2_ n3_
                                              have p147 : 0 ≤ (x9_6 : Int):=of_decide_eq_true (by first|(with_reducible assumption)|assumption)
                                              have q147 : x9_6 < (l1_1.length : Int):=of_decide_eq_true (by first|(with_reducible assumption)|assumption)
                                              obtain ⟨ad147,A147_0,c147_0,e147,hx147_0,hx147_1,hl147_0,hi147_0⟩:=at_T97 HR1_1.out x9_6 p147 q147
                                              have hw147_1:=hx147_1
                                              have hw147_0:=hx147_0
                                              obtain rfl : ad140 = ad147:=(by injection e147)
                                              replace hx147_0:=cb_ HB hx147_0
                                              replace hx147_1:=cb_ HB hx147_1
                                              have HR147_0:=qn.mk hi147_0
                                              have HC147_0:=qn.mk hl147_0
                                              clear hi147_0 hl147_0
                                              replace p147:=eq_true p147
                                              replace q147:=eq_true q147
                                              refine start_ (n:=10) (S:=fun w'=>w'.cell? ⟨gb136,0,none⟩ = some (.slice A1_0 l1_0.length c1_0) ∧ w'.cell? ⟨gb136,1,none⟩ = some (.slice (some ad140) l1_1.length c1_1) ∧ w'.cell? ⟨gb141,0,none⟩ = some (.slice A140_0 ((rd_T97 l1_1 x6_3).f0).length c140_0) ∧ w'.cell? ⟨gb141,1,none⟩ = some (.int .i64 ((rd_T97 l1_1 x6_3).f1)) ∧ w'.cell? (ad140.add ((x9_6).toNat * 2)) = some (.slice A147_0 ((rd_T97 l1_1 x9_6).f0).length c147_0) ∧ w'.cell? ⟨(ad140.add ((x9_6).toNat * 2)).block,(ad140.add ((x9_6).toNat * 2)).off + 1,none⟩ = some (.int .i64 ((rd_T97 l1_1 x9_6).f1))) (ds:=[]) #[false,false,false,false,false,false,false,false,false,false] (by kernel_rfl) rfl rfl ⟨(qh BK136.out 0).trans rfl,(qh BK136.out 1).trans rfl,(qh BK141.out 0).trans rfl,(qh BK141.out 1).trans rfl,(cb_ HB hw147_0:),(cb_ HB hw147_1:)⟩ (fun hHeld=>?_);refine with_tabW spec_ProofOk.tab22 spec_ProofOk.bits22 (fun HT_ HW_=>?_)
                                              generalize wr.drew = w96 at BK135 BK136 BK141 HB HR147_0 hx147_0 hx147_1 hHeld ⊢
                                              refine pure_ (i:=0) (N:=some 119) (v:=?_) (a':=?_) #[true,false,false,false,false,false,false,false,false,false] rfl rfl (any_of HT_.out (by kernel_rfl)) (fun _ _ _ h=>h) (Or.inl ⟨by rfl,?_⟩) ?_ ?_
                                              rotate_left
                                              · intro w'
                                                go_simp
                                                with_reducible rfl
                                              rotate_left
                                              · simp only [Act.put,List.setIfInBounds_toArray,List.set_cons_zero,List.set_cons_succ,i64_w,i32_w]
                                                rfl
                                              refine pure_ (i:=2) (N:=some 121) (v:=?_) (a':=?_) #[true,false,true,false,false,false,false,false,false,false] rfl rfl (any_of HT_.out (by kernel_rfl)) (fun _ _ _ h=>h) (Or.inl ⟨by rfl,?_⟩) ?_ ?_
                                              rotate_left
                                              · intro w'
                                                go_simp
                                                with_reducible rfl
                                              rotate_left
                                              · simp only [Act.put,List.setIfInBounds_toArray,List.set_cons_zero,List.set_cons_succ,i64_w,i32_w]
                                                rfl
                                              refine pure_ (i:=6) (N:=some 125) (v:=?_) (a':=?_) #[true,false,true,false,false,false,true,false,false,false] rfl rfl (any_of HT_.out (by kernel_rfl)) (fun _ _ _ h=>h) (Or.inl ⟨by rfl,?_⟩) ?_ ?_
                                              rotate_left
                                              · intro w'
                                                go_simp
                                                with_reducible rfl
                                              rotate_left
                                              · simp only [Act.put,List.setIfInBounds_toArray,List.set_cons_zero,List.set_cons_succ,i64_w,i32_w]
                                                rfl
                                              refine take_ (i:=1) (N:=some 120) (v:=?_) (a':=?_) #[true,true,true,false,false,false,true,false,false,false] rfl rfl (take_ofW HT_.out HW_.out (by kernel_rfl)) (fun _ _ _ h=>h) (Or.inl ⟨by rfl,?_⟩) hHeld ?_ ?_
                                              rotate_left
                                              · rintro w' ⟨s0,s1,s2,s3,s4,s5⟩
                                                go_simp
                                                with_reducible rfl
                                              rotate_left
                                              · simp only [Act.put,List.setIfInBounds_toArray,List.set_cons_zero,List.set_cons_succ,i64_w,i32_w]
                                                rfl
                                              refine pure_ (i:=3) (N:=some 122) (v:=?_) (a':=?_) #[true,true,true,true,false,false,true,false,false,false] rfl rfl (any_of HT_.out (by kernel_rfl)) (fun _ _ _ h=>h) (Or.inl ⟨by rfl,?_⟩) ?_ ?_
                                              rotate_left
                                              · intro w'
                                                go_simp
                                                with_reducible rfl
                                              rotate_left
                                              · simp only [Act.put,List.setIfInBounds_toArray,List.set_cons_zero,List.set_cons_succ,i64_w,i32_w]
                                                rfl
                                              refine pure_ (i:=4) (N:=some 123) (v:=?_) (a':=?_) #[true,true,true,true,true,false,true,false,false,false] rfl rfl (any_of HT_.out (by kernel_rfl)) (fun _ _ _ h=>h) (Or.inl ⟨by rfl,?_⟩) ?_ ?_
                                              rotate_left
                                              · intro w'
                                                go_simp
                                                with_reducible rfl
                                              rotate_left
                                              · simp only [Act.put,List.setIfInBounds_toArray,List.set_cons_zero,List.set_cons_succ,i64_w,i32_w]
                                                rfl
                                              refine take_ (i:=5) (N:=some 124) (v:=?_) (a':=?_) #[true,true,true,true,true,true,true,false,false,false] rfl rfl (take_ofW HT_.out HW_.out (by kernel_rfl)) (fun _ _ _ h=>h) (Or.inl ⟨by rfl,?_⟩) hHeld ?_ ?_
                                              rotate_left
                                              · rintro w' ⟨s0,s1,s2,s3,s4,s5⟩
                                                go_simp
                                                with_reducible rfl
                                              rotate_left
                                              · simp only [Act.put,List.setIfInBounds_toArray,List.set_cons_zero,List.set_cons_succ,i64_w,i32_w]
                                                rfl
                                              refine take_ (i:=7) (N:=some 126) (v:=?_) (a':=?_) #[true,true,true,true,true,true,true,true,false,false] rfl rfl (take_ofW HT_.out HW_.out (by kernel_rfl)) (fun _ _ _ h=>h) (Or.inl ⟨by rfl,?_⟩) hHeld ?_ ?_
                                              rotate_left
                                              · rintro w' ⟨s0,s1,s2,s3,s4,s5⟩
                                                go_simp
                                                with_reducible rfl
                                              rotate_left
                                              · simp only [Act.put,List.setIfInBounds_toArray,List.set_cons_zero,List.set_cons_succ,i64_w,i32_w]
                                                rfl
                                              refine one_ (i:=8) (N:=some 127) #[true,true,true,true,true,true,true,true,true,false] rfl rfl (one_of HT_.out (by kernel_rfl)) (by decide) (fun K hK=>?_)
                                              refine goes_ Try.func52 (by kernel_rfl) rfl #[.slice A147_0 ((rd_T97 l1_1 x9_6).f0).length c147_0,.slice A140_0 ((rd_T97 l1_1 x6_3).f0).length c140_0] (by rfl) rfl rfl (by (try simp only [List.map_toArray,List.map_cons,List.map_nil]);first|done|rfl|(simp only [List.length_drop,List.length_take];rfl)) ?_
                                              with_reducible refine (spec_l11Nested.calls k6 _ _ ((rd_T97 l1_1 x9_6).f0) _ _ ((rd_T97 l1_1 x6_3).f0) true _ ?side1 ?side2 ?side3 ?side4 A94.out).mono ?_
                                              (case side1=>repeat (first|exact (Kd.C_below HR147_0.out HB.out)|(with_reducible refine Kd.C_alloc ?_ _)|(with_reducible refine Kd.C_drewN ?_ _)|(with_reducible refine Kd.C_drew ?_)))
                                              (case side2=>exact HC147_0.out)
                                              (case side3=>repeat (first|exact (Kd.C_below HR140_0.out HB.out)|(with_reducible refine Kd.C_alloc ?_ _)|(with_reducible refine Kd.C_drewN ?_ _)|(with_reducible refine Kd.C_drew ?_)))
                                              (case side4=>exact HC140_0.out)
                                              rintro e w' ⟨rfl,⟨nd,rfl⟩⟩
                                              refine ⟨_,rfl,?_⟩
                                              refine hK.out _ _ ⟨(qh BK136.out 0).trans rfl,(qh BK136.out 1).trans rfl,(qh BK141.out 0).trans rfl,(qh BK141.out 1).trans rfl,(cb_ HB hw147_0:),(cb_ HB hw147_1:)⟩ (fun hHeld=>?_)
                                              clear hK K
                                              refine norm_ (a':=?_) ?_ ?_
                                              rotate_left
                                              · show Act.put _ (some 127) _ = _
                                                simp only [Act.put,List.setIfInBounds_toArray,List.set_cons_zero,List.set_cons_succ,i64_w,i32_w]
                                                rfl
                                              refine pure_ (i:=9) (N:=some 128) (v:=?_) (a':=?_) #[true,true,true,true,true,true,true,true,true,true] rfl rfl (any_of HT_.out (by kernel_rfl)) (fun _ _ _ h=>h) (Or.inl ⟨by rfl,?_⟩) ?_ ?_
                                              rotate_left
                                              · intro w'
                                                go_simp
                                                with_reducible rfl
                                              rotate_left
                                              · simp only [Act.put,List.setIfInBounds_toArray,List.set_cons_zero,List.set_cons_succ,i64_w,i32_w]
                                                rfl
                                              refine done_ (done_of HT_.out (by kernel_rfl)) ?_
                                              try go_wp2
                                              go_roundg k6
                                              case measure=>have:=HJ2.out;have:=HK2.out;have:=HK3.out;have:=HJ34.out;have:=HK5.out;have:=HK6.out;omega
                                              case rel=>exact ⟨(wrap64 (x9_6 + 1)),(by first|rfl|(simp;done)|(simp [*];done)),H',⟨by have:=HJ2.out;have:=HK2.out;have:=HK3.out;have:=HJ34.out;have:=HK5.out;have:=HK6.out;omega⟩,⟨by (with_reducible repeat (first|refine qb ?_ _|refine qe ?_|refine qc ?_ _));exact BK135.out⟩,⟨by (with_reducible repeat (first|refine qb ?_ _|refine qe ?_|refine qc ?_ _));exact BK136.out⟩,⟨by (with_reducible repeat (first|refine qb ?_ _|refine qe ?_|refine qc ?_ _));exact BK141.out⟩,⟨by repeat (first|(with_reducible first|exact HB.out|apply qf|apply qa|apply qd|refine qg ?_ GE135.out|refine qg ?_ GE136.out|refine qg ?_ GE141.out)|exact HB.out)⟩⟩
                                            · replace c95:=Bool.eq_false_iff.mpr c95
                                              subst c95
                                              have H1 : (some false) = some r:=by rw [if_neg (show ¬ (false = true) by decide)] at H;exact H
                                              clear H
                                              have H:=H1
                                              clear H1
                                              obtain rfl:=Option.some.inj H
                                              try go_wp2
                                              have n0_:=qn.mk (qe BK135.out)
                                              have n1_:=qn.mk (qe BK136.out)
                                              have n2_:=qn.mk (qe BK141.out)
                                              have n3_:=qn.mk (qd HB.out)
                                              clear BK135
                                              clear BK136
                                              clear BK141
                                              clear HB
                                              have BK135:=n0_
                                              have BK136:=n1_
                                              have BK141:=n2_
                                              have HB:=n3_
                                              clear n0_ n1_ n2_ n3_
                                              have p147 : 0 ≤ (x9_6 : Int):=of_decide_eq_true (by first|(with_reducible assumption)|assumption)
                                              have q147 : x9_6 < (l1_1.length : Int):=of_decide_eq_true (by first|(with_reducible assumption)|assumption)
                                              obtain ⟨ad147,A147_0,c147_0,e147,hx147_0,hx147_1,hl147_0,hi147_0⟩:=at_T97 HR1_1.out x9_6 p147 q147
                                              have hw147_1:=hx147_1
                                              have hw147_0:=hx147_0
                                              obtain rfl : ad140 = ad147:=(by injection e147)
                                              replace hx147_0:=cb_ HB hx147_0
                                              replace hx147_1:=cb_ HB hx147_1
                                              have HR147_0:=qn.mk hi147_0
                                              have HC147_0:=qn.mk hl147_0
                                              clear hi147_0 hl147_0
                                              replace p147:=eq_true p147
                                              replace q147:=eq_true q147
                                              refine start_ (n:=10) (S:=fun w'=>w'.cell? ⟨gb136,0,none⟩ = some (.slice A1_0 l1_0.length c1_0) ∧ w'.cell? ⟨gb136,1,none⟩ = some (.slice (some ad140) l1_1.length c1_1) ∧ w'.cell? ⟨gb141,0,none⟩ = some (.slice A140_0 ((rd_T97 l1_1 x6_3).f0).length c140_0) ∧ w'.cell? ⟨gb141,1,none⟩ = some (.int .i64 ((rd_T97 l1_1 x6_3).f1)) ∧ w'.cell? (ad140.add ((x9_6).toNat * 2)) = some (.slice A147_0 ((rd_T97 l1_1 x9_6).f0).length c147_0) ∧ w'.cell? ⟨(ad140.add ((x9_6).toNat * 2)).block,(ad140.add ((x9_6).toNat * 2)).off + 1,none⟩ = some (.int .i64 ((rd_T97 l1_1 x9_6).f1))) (ds:=[]) #[false,false,false,false,false,false,false,false,false,false] (by kernel_rfl) rfl rfl ⟨(qh BK136.out 0).trans rfl,(qh BK136.out 1).trans rfl,(qh BK141.out 0).trans rfl,(qh BK141.out 1).trans rfl,(cb_ HB hw147_0:),(cb_ HB hw147_1:)⟩ (fun hHeld=>?_);refine with_tabW spec_ProofOk.tab22 spec_ProofOk.bits22 (fun HT_ HW_=>?_)
                                              generalize wr.drew = w97 at BK135 BK136 BK141 HB HR147_0 hx147_0 hx147_1 hHeld ⊢
                                              refine pure_ (i:=0) (N:=some 119) (v:=?_) (a':=?_) #[true,false,false,false,false,false,false,false,false,false] rfl rfl (any_of HT_.out (by kernel_rfl)) (fun _ _ _ h=>h) (Or.inl ⟨by rfl,?_⟩) ?_ ?_
                                              rotate_left
                                              · intro w'
                                                go_simp
                                                with_reducible rfl
                                              rotate_left
                                              · simp only [Act.put,List.setIfInBounds_toArray,List.set_cons_zero,List.set_cons_succ,i64_w,i32_w]
                                                rfl
                                              refine pure_ (i:=2) (N:=some 121) (v:=?_) (a':=?_) #[true,false,true,false,false,false,false,false,false,false] rfl rfl (any_of HT_.out (by kernel_rfl)) (fun _ _ _ h=>h) (Or.inl ⟨by rfl,?_⟩) ?_ ?_
                                              rotate_left
                                              · intro w'
                                                go_simp
                                                with_reducible rfl
                                              rotate_left
                                              · simp only [Act.put,List.setIfInBounds_toArray,List.set_cons_zero,List.set_cons_succ,i64_w,i32_w]
                                                rfl
                                              refine pure_ (i:=6) (N:=some 125) (v:=?_) (a':=?_) #[true,false,true,false,false,false,true,false,false,false] rfl rfl (any_of HT_.out (by kernel_rfl)) (fun _ _ _ h=>h) (Or.inl ⟨by rfl,?_⟩) ?_ ?_
                                              rotate_left
                                              · intro w'
                                                go_simp
                                                with_reducible rfl
                                              rotate_left
                                              · simp only [Act.put,List.setIfInBounds_toArray,List.set_cons_zero,List.set_cons_succ,i64_w,i32_w]
                                                rfl
                                              refine take_ (i:=1) (N:=some 120) (v:=?_) (a':=?_) #[true,true,true,false,false,false,true,false,false,false] rfl rfl (take_ofW HT_.out HW_.out (by kernel_rfl)) (fun _ _ _ h=>h) (Or.inl ⟨by rfl,?_⟩) hHeld ?_ ?_
                                              rotate_left
                                              · rintro w' ⟨s0,s1,s2,s3,s4,s5⟩
                                                go_simp
                                                with_reducible rfl
                                              rotate_left
                                              · simp only [Act.put,List.setIfInBounds_toArray,List.set_cons_zero,List.set_cons_succ,i64_w,i32_w]
                                                rfl
                                              refine pure_ (i:=3) (N:=some 122) (v:=?_) (a':=?_) #[true,true,true,true,false,false,true,false,false,false] rfl rfl (any_of HT_.out (by kernel_rfl)) (fun _ _ _ h=>h) (Or.inl ⟨by rfl,?_⟩) ?_ ?_
                                              rotate_left
                                              · intro w'
                                                go_simp
                                                with_reducible rfl
                                              rotate_left
                                              · simp only [Act.put,List.setIfInBounds_toArray,List.set_cons_zero,List.set_cons_succ,i64_w,i32_w]
                                                rfl
                                              refine pure_ (i:=4) (N:=some 123) (v:=?_) (a':=?_) #[true,true,true,true,true,false,true,false,false,false] rfl rfl (any_of HT_.out (by kernel_rfl)) (fun _ _ _ h=>h) (Or.inl ⟨by rfl,?_⟩) ?_ ?_
                                              rotate_left
                                              · intro w'
                                                go_simp
                                                with_reducible rfl
                                              rotate_left
                                              · simp only [Act.put,List.setIfInBounds_toArray,List.set_cons_zero,List.set_cons_succ,i64_w,i32_w]
                                                rfl
                                              refine take_ (i:=5) (N:=some 124) (v:=?_) (a':=?_) #[true,true,true,true,true,true,true,false,false,false] rfl rfl (take_ofW HT_.out HW_.out (by kernel_rfl)) (fun _ _ _ h=>h) (Or.inl ⟨by rfl,?_⟩) hHeld ?_ ?_
                                              rotate_left
                                              · rintro w' ⟨s0,s1,s2,s3,s4,s5⟩
                                                go_simp
                                                with_reducible rfl
                                              rotate_left
                                              · simp only [Act.put,List.setIfInBounds_toArray,List.set_cons_zero,List.set_cons_succ,i64_w,i32_w]
                                                rfl
                                              refine take_ (i:=7) (N:=some 126) (v:=?_) (a':=?_) #[true,true,true,true,true,true,true,true,false,false] rfl rfl (take_ofW HT_.out HW_.out (by kernel_rfl)) (fun _ _ _ h=>h) (Or.inl ⟨by rfl,?_⟩) hHeld ?_ ?_
                                              rotate_left
                                              · rintro w' ⟨s0,s1,s2,s3,s4,s5⟩
                                                go_simp
                                                with_reducible rfl
                                              rotate_left
                                              · simp only [Act.put,List.setIfInBounds_toArray,List.set_cons_zero,List.set_cons_succ,i64_w,i32_w]
                                                rfl
                                              refine one_ (i:=8) (N:=some 127) #[true,true,true,true,true,true,true,true,true,false] rfl rfl (one_of HT_.out (by kernel_rfl)) (by decide) (fun K hK=>?_)
                                              refine goes_ Try.func52 (by kernel_rfl) rfl #[.slice A147_0 ((rd_T97 l1_1 x9_6).f0).length c147_0,.slice A140_0 ((rd_T97 l1_1 x6_3).f0).length c140_0] (by rfl) rfl rfl (by (try simp only [List.map_toArray,List.map_cons,List.map_nil]);first|done|rfl|(simp only [List.length_drop,List.length_take];rfl)) ?_
                                              with_reducible refine (spec_l11Nested.calls k6 _ _ ((rd_T97 l1_1 x9_6).f0) _ _ ((rd_T97 l1_1 x6_3).f0) false _ ?side1 ?side2 ?side3 ?side4 A94.out).mono ?_
                                              (case side1=>repeat (first|exact (Kd.C_below HR147_0.out HB.out)|(with_reducible refine Kd.C_alloc ?_ _)|(with_reducible refine Kd.C_drewN ?_ _)|(with_reducible refine Kd.C_drew ?_)))
                                              (case side2=>exact HC147_0.out)
                                              (case side3=>repeat (first|exact (Kd.C_below HR140_0.out HB.out)|(with_reducible refine Kd.C_alloc ?_ _)|(with_reducible refine Kd.C_drewN ?_ _)|(with_reducible refine Kd.C_drew ?_)))
                                              (case side4=>exact HC140_0.out)
                                              rintro e w' ⟨rfl,⟨nd,rfl⟩⟩
                                              refine ⟨_,rfl,?_⟩
                                              refine hK.out _ _ ⟨(qh BK136.out 0).trans rfl,(qh BK136.out 1).trans rfl,(qh BK141.out 0).trans rfl,(qh BK141.out 1).trans rfl,(cb_ HB hw147_0:),(cb_ HB hw147_1:)⟩ (fun hHeld=>?_)
                                              clear hK K
                                              refine norm_ (a':=?_) ?_ ?_
                                              rotate_left
                                              · show Act.put _ (some 127) _ = _
                                                simp only [Act.put,List.setIfInBounds_toArray,List.set_cons_zero,List.set_cons_succ,i64_w,i32_w]
                                                rfl
                                              refine pure_ (i:=9) (N:=some 128) (v:=?_) (a':=?_) #[true,true,true,true,true,true,true,true,true,true] rfl rfl (any_of HT_.out (by kernel_rfl)) (fun _ _ _ h=>h) (Or.inl ⟨by rfl,?_⟩) ?_ ?_
                                              rotate_left
                                              · intro w'
                                                go_simp
                                                with_reducible rfl
                                              rotate_left
                                              · simp only [Act.put,List.setIfInBounds_toArray,List.set_cons_zero,List.set_cons_succ,i64_w,i32_w]
                                                rfl
                                              refine done_ (done_of HT_.out (by kernel_rfl)) ?_
                                              try go_wp2
                                              go_ret
                                              exact ⟨by first|rfl|(simp [errW_none,errW_some] <;> rfl)|(simp [*,errW_none,errW_some] <;> rfl),by repeat (first|(with_reducible first|exact HB.out|apply qf|apply qa|apply qd|refine qg ?_ GE135.out|refine qg ?_ GE136.out|refine qg ?_ GE141.out)|exact HB.out)⟩
                                          · rw [if_neg c93] at H
                                            exact absurd H (by simp)
                                        · rw [if_neg c92] at H
                                          exact absurd H (by simp)
                                      · rw [if_neg c91] at H
                                        have c91b0 : decide (x9_6 < x6_3) = false:=decide_eq_false c91
                                        clear c91
                                        have H':=qn.mk H
                                        clear H
                                        go_wp2
                                        go_roundg k6
                                        case measure=>have:=HJ2.out;have:=HK2.out;have:=HK3.out;have:=HJ34.out;have:=HK5.out;have:=HK6.out;omega
                                        case rel=>exact ⟨(wrap64 (x6_3 + 1)),(by first|rfl|(simp;done)|(simp [*];done)),H',⟨by have:=HJ2.out;have:=HK2.out;have:=HK3.out;have:=HJ34.out;have:=HK5.out;have:=HK6.out;omega⟩,⟨by (with_reducible repeat (first|refine qb ?_ _|refine qe ?_|refine qc ?_ _));exact BK135.out⟩,⟨by (with_reducible repeat (first|refine qb ?_ _|refine qe ?_|refine qc ?_ _));exact BK136.out⟩,⟨by repeat (first|(with_reducible first|exact HB.out|apply qf|apply qa|apply qd|refine qg ?_ GE135.out|refine qg ?_ GE136.out|refine qg ?_ GE141.out)|exact HB.out)⟩⟩
                    · rw [if_neg c34] at H
                      exact absurd H (by simp)
                  · rw [if_neg c33] at H
                    have c33b0 : decide (x6_3 < (l1_1.length : Int)) = false:=decide_eq_false c33
                    clear c33
                    have H':=qn.mk H
                    clear H
                    have hnb98:=NB136_135.out
                    have hnc98:=NB135_136.out
                    have hcz99_0 : wr.cell? ⟨gb136,0,none⟩ = some (.slice A1_0 l1_0.length c1_0):=(qh BK136.out 0).trans rfl
                    have hcz99_1 : wr.cell? ⟨gb136,1,none⟩ = some (.slice A1_1 l1_1.length c1_1):=(qh BK136.out 1).trans rfl
                    have hfz99_0:=qi BK136.out 0
                    have hfz99_1:=qi BK136.out 1
                    go_wp2
                    go_loopg [10] k3 (fun kq v10 w'=>∃ (x10_4 : Int),v10 = .int .i64 x10_4 ∧ qn (spec_ProofOk.l4 kq x10_4 a0_0 l0_1 l1_0 l1_1 = some r) ∧ qn (kq ≤ k3) ∧ qn (w'.heap[gb135]? = some (.cells #[.int .i64 a0_0,(.slice A0_1 l0_1.length c0_1)] 61 (0,0))) ∧ qn (w'.heap[gb136]? = some (.cells #[(.slice A1_0 l1_0.length c1_0),(.slice A1_1 l1_1.length c1_1)] 65 (0,0))) ∧ qn (Below w.heap.size w w'))
                    case atStart=>exact ⟨(0),(by first|rfl|(simp;done)|(simp [*];done)),H',⟨Nat.le_refl _⟩,⟨by (with_reducible repeat (first|refine qb ?_ _|refine qe ?_|refine qc ?_ _));exact BK135.out⟩,⟨by (with_reducible repeat (first|refine qb ?_ _|refine qe ?_|refine qc ?_ _));exact BK136.out⟩,⟨by repeat (first|(with_reducible first|exact HB.out|apply qf|apply qa|apply qd|refine qg ?_ GE135.out|refine qg ?_ GE136.out)|exact HB.out)⟩⟩
                    case round =>
                      clear H'
                      try clear c1
                      try clear p1
                      try clear q1
                      try clear hx1
                      try clear p2
                      try clear c3
                      try clear c5
                      try clear c6
                      try clear p6
                      try clear c7
                      try clear c8
                      try clear c9
                      try clear c14
                      try clear p14
                      try clear q14
                      try clear hx14
                      try clear c30
                      try clear c33
                      try clear c33b0
                      try clear c34
                      try clear c52
                      try clear c63
                      try clear c63b0
                      try clear c64
                      try clear p64
                      try clear c66
                      try clear c67
                      try clear c67b0
                      try clear c69
                      try clear c70
                      try clear c80
                      try clear c81
                      try clear c84
                      try clear c85
                      try clear c88
                      try clear c89
                      try clear c91
                      try clear c91b0
                      try clear c92
                      try clear c92b0
                      try clear c93
                      try clear c93b0
                      try clear c95
                      try clear c98
                      try clear hcz82_0
                      try clear hcz82_1
                      try clear hcz86_0
                      try clear hcz86_1
                      try clear hcz90_0
                      try clear hcz90_1
                      try clear hcz99_0
                      try clear hcz99_1
                      try clear hfz82_0
                      try clear hfz82_1
                      try clear hfz86_0
                      try clear hfz86_1
                      try clear hfz90_0
                      try clear hfz90_1
                      try clear hfz99_0
                      try clear hfz99_1
                      try clear hx143_0
                      try clear hx147_0
                      try clear hx147_1
                      try clear p1
                      try clear p14
                      try clear p143
                      try clear p147
                      try clear p2
                      try clear p6
                      try clear p64
                      try clear q1
                      try clear q14
                      try clear q143
                      try clear q147
                      obtain ⟨x10_4,rfl,HA,HK4,BK135,BK136,HB⟩:=hrel
                      cases gk with
                      | zero=>exact absurd HA.out (by simp [spec_ProofOk.l4])
                      | succ k4 =>
                        have H:=HA.out
                        clear HA
                        simp only [spec_ProofOk.l4] at H
                        by_cases c100 : x10_4 < (l0_1.length : Int)
                        · rw [if_pos c100] at H
                          have c100b0 : decide (x10_4 < (l0_1.length : Int)) = true:=decide_eq_true c100
                          clear c100
                          by_cases c101 : 0 ≤ x10_4
                          · rw [if_pos c101] at H
                            have c101b0 : decide (0 ≤ x10_4) = true:=decide_eq_true c101
                            clear c101
                            replace H:=Option.bind_eq_some_iff.mp H
                            obtain ⟨t150,A1020,H⟩:=H
                            replace H : (if t150 < 0 then (some false) else (spec_ProofOk.l4 k4 (wrap64 (x10_4 + 1)) a0_0 l0_1 l1_0 l1_1)) = some r:=H
                            have A102:=qn.mk A1020
                            clear A1020
                            by_cases c103 : t150 < 0
                            · rw [if_pos c103] at H
                              have c103b0 : decide (t150 < 0) = true:=decide_eq_true c103
                              clear c103
                              obtain rfl:=Option.some.inj H
                              have hnb104:=NB135_136.out
                              have hnc104:=NB136_135.out
                              have hcz105_0 : wr.cell? ⟨gb135,0,none⟩ = some (.int .i64 a0_0):=(qh BK135.out 0).trans rfl
                              have hcz105_1 : wr.cell? ⟨gb135,1,none⟩ = some (.slice A0_1 l0_1.length c0_1):=(qh BK135.out 1).trans rfl
                              have hfz105_0:=qi BK135.out 0
                              have hfz105_1:=qi BK135.out 1
                              try go_wp2
                              have n0_:=qn.mk (qe BK135.out)
                              have n1_:=qn.mk (qe BK136.out)
                              have n2_:=qn.mk (qd HB.out)
                              clear BK135
                              clear BK136
                              clear HB
                              have BK135:=n0_
                              have BK136:=n1_
                              have HB:=n2_
                              clear n0_ n1_ n2_
                              have p149 : 0 ≤ (x10_4 : Int):=of_decide_eq_true (by first|(with_reducible assumption)|assumption)
                              have q149 : x10_4 < (l0_1.length : Int):=of_decide_eq_true (by first|(with_reducible assumption)|assumption)
                              obtain ⟨ad149,e149,hx149_0,hx149_1,hx149_2,hx149_3,hx149_4⟩:=at_T101 HR0_1.out x10_4 p149 q149
                              have hw149_4:=hx149_4
                              have hw149_3:=hx149_3
                              have hw149_2:=hx149_2
                              have hw149_1:=hx149_1
                              have hw149_0:=hx149_0
                              cases e149
                              replace hx149_0:=cb_ HB hx149_0
                              replace hx149_1:=cb_ HB hx149_1
                              replace hx149_2:=cb_ HB hx149_2
                              replace hx149_3:=cb_ HB hx149_3
                              replace hx149_4:=cb_ HB hx149_4
                              replace p149:=eq_true p149
                              replace q149:=eq_true q149
                              refine start_ (n:=8) (S:=fun w'=>w'.cell? ⟨gb136,0,none⟩ = some (.slice A1_0 l1_0.length c1_0) ∧ w'.cell? ⟨gb136,1,none⟩ = some (.slice A1_1 l1_1.length c1_1) ∧ w'.cell? ⟨gb135,0,none⟩ = some (.int .i64 a0_0) ∧ w'.cell? ⟨gb135,1,none⟩ = some (.slice (some ad149) l0_1.length c0_1) ∧ w'.cell? (ad149.add ((x10_4).toNat * 5)) = some (.int .i64 ((rd_T101 l0_1 x10_4).f0)) ∧ w'.cell? ⟨(ad149.add ((x10_4).toNat * 5)).block,(ad149.add ((x10_4).toNat * 5)).off + 1,none⟩ = some (.int .i64 ((rd_T101 l0_1 x10_4).f1)) ∧ w'.cell? ⟨(ad149.add ((x10_4).toNat * 5)).block,(ad149.add ((x10_4).toNat * 5)).off + 2,none⟩ = some (.int .i64 ((rd_T101 l0_1 x10_4).f2)) ∧ w'.cell? ⟨(ad149.add ((x10_4).toNat * 5)).block,(ad149.add ((x10_4).toNat * 5)).off + 3,none⟩ = some (.int .i64 ((rd_T101 l0_1 x10_4).f3)) ∧ w'.cell? ⟨(ad149.add ((x10_4).toNat * 5)).block,(ad149.add ((x10_4).toNat * 5)).off + 4,none⟩ = some (.int .i64 ((rd_T101 l0_1 x10_4).f4))) (ds:=[]) #[false,false,false,false,false,false,false,false] (by kernel_rfl) rfl rfl ⟨(qh BK136.out 0).trans rfl,(qh BK136.out 1).trans rfl,(qh BK135.out 0).trans rfl,(qh BK135.out 1).trans rfl,(cb_ HB hw149_0:),(cb_ HB hw149_1:),(cb_ HB hw149_2:),(cb_ HB hw149_3:),(cb_ HB hw149_4:)⟩ (fun hHeld=>?_);refine with_tabW spec_ProofOk.tab27 spec_ProofOk.bits27 (fun HT_ HW_=>?_)
                              generalize wr.drew = w106 at BK135 BK136 HB hx149_0 hx149_1 hx149_2 hx149_3 hx149_4 hHeld ⊢
                              refine pure_ (i:=1) (N:=some 137) (v:=?_) (a':=?_) #[false,true,false,false,false,false,false,false] rfl rfl (any_of HT_.out (by kernel_rfl)) (fun _ _ _ h=>h) (Or.inl ⟨by rfl,?_⟩) ?_ ?_
                              rotate_left
                              · intro w'
                                go_simp
                                with_reducible rfl
                              rotate_left
                              · simp only [Act.put,List.setIfInBounds_toArray,List.set_cons_zero,List.set_cons_succ,i64_w,i32_w]
                                rfl
                              refine pure_ (i:=3) (N:=some 139) (v:=?_) (a':=?_) #[false,true,false,true,false,false,false,false] rfl rfl (any_of HT_.out (by kernel_rfl)) (fun _ _ _ h=>h) (Or.inl ⟨by rfl,?_⟩) ?_ ?_
                              rotate_left
                              · intro w'
                                go_simp
                                with_reducible rfl
                              rotate_left
                              · simp only [Act.put,List.setIfInBounds_toArray,List.set_cons_zero,List.set_cons_succ,i64_w,i32_w]
                                rfl
                              refine take_ (i:=0) (N:=some 136) (v:=?_) (a':=?_) #[true,true,false,true,false,false,false,false] rfl rfl (take_ofW HT_.out HW_.out (by kernel_rfl)) (fun _ _ _ h=>h) (Or.inl ⟨by rfl,?_⟩) hHeld ?_ ?_
                              rotate_left
                              · rintro w' ⟨s0,s1,s2,s3,s4,s5,s6,s7,s8⟩
                                go_simp
                                with_reducible rfl
                              rotate_left
                              · simp only [Act.put,List.setIfInBounds_toArray,List.set_cons_zero,List.set_cons_succ,i64_w,i32_w]
                                rfl
                              refine take_ (i:=2) (N:=some 138) (v:=?_) (a':=?_) #[true,true,true,true,false,false,false,false] rfl rfl (take_ofW HT_.out HW_.out (by kernel_rfl)) (fun _ _ _ h=>h) (Or.inl ⟨by rfl,?_⟩) hHeld ?_ ?_
                              rotate_left
                              · rintro w' ⟨s0,s1,s2,s3,s4,s5,s6,s7,s8⟩
                                go_simp
                                with_reducible rfl
                              rotate_left
                              · simp only [Act.put,List.setIfInBounds_toArray,List.set_cons_zero,List.set_cons_succ,i64_w,i32_w]
                                rfl
                              refine pure_ (i:=4) (N:=some 140) (v:=?_) (a':=?_) #[true,true,true,true,true,false,false,false] rfl rfl (any_of HT_.out (by kernel_rfl)) (fun _ _ _ h=>h) (Or.inl ⟨by rfl,?_⟩) ?_ ?_
                              rotate_left
                              · intro w'
                                go_simp
                                with_reducible rfl
                              rotate_left
                              · simp only [Act.put,List.setIfInBounds_toArray,List.set_cons_zero,List.set_cons_succ,i64_w,i32_w]
                                rfl
                              refine take_ (i:=5) (N:=some 141) (v:=?_) (a':=?_) #[true,true,true,true,true,true,false,false] rfl rfl (take_ofW HT_.out HW_.out (by kernel_rfl)) (fun _ _ _ h=>h) (Or.inl ⟨by rfl,?_⟩) hHeld ?_ ?_
                              rotate_left
                              · rintro w' ⟨s0,s1,s2,s3,s4,s5,s6,s7,s8⟩
                                go_simp
                                with_reducible rfl
                              rotate_left
                              · simp only [Act.put,List.setIfInBounds_toArray,List.set_cons_zero,List.set_cons_succ,i64_w,i32_w]
                                rfl
                              refine one_ (i:=6) (N:=some 142) #[true,true,true,true,true,true,true,false] rfl rfl (one_of HT_.out (by kernel_rfl)) (by decide) (fun K hK=>?_)
                              refine goes_ Try.func53 (by kernel_rfl) rfl #[.agg #[.slice A1_0 l1_0.length c1_0,.slice A1_1 l1_1.length c1_1],.agg #[.int .i64 ((rd_T101 l0_1 x10_4).f0),.int .i64 ((rd_T101 l0_1 x10_4).f1),.int .i64 ((rd_T101 l0_1 x10_4).f2),.int .i64 ((rd_T101 l0_1 x10_4).f3),.int .i64 ((rd_T101 l0_1 x10_4).f4)]] (by rfl) rfl rfl (by (try simp only [List.map_toArray,List.map_cons,List.map_nil]);first|done|rfl|(simp only [List.length_drop,List.length_take];rfl)) ?_
                              with_reducible refine (spec_l11Slack.calls k4 _ _ l1_0 _ _ l1_1 ((rd_T101 l0_1 x10_4).f0) ((rd_T101 l0_1 x10_4).f1) ((rd_T101 l0_1 x10_4).f2) ((rd_T101 l0_1 x10_4).f3) ((rd_T101 l0_1 x10_4).f4) t150 _ ?side1 ?side2 ?side3 ?side4 A102.out).mono ?_
                              (case side1=>repeat (first|exact (Kd.C_below HR1_0.out HB.out)|(with_reducible refine Kd.C_alloc ?_ _)|(with_reducible refine Kd.C_drewN ?_ _)|(with_reducible refine Kd.C_drew ?_)))
                              (case side2=>exact HC1_0.out)
                              (case side3=>repeat (first|exact (Kd.C_below HR1_1.out HB.out)|(with_reducible refine Kd.C_alloc ?_ _)|(with_reducible refine Kd.C_drewN ?_ _)|(with_reducible refine Kd.C_drew ?_)))
                              (case side4=>exact HC1_1.out)
                              rintro e w107 ⟨rfl,hb⟩
                              refine ⟨_,rfl,?_⟩
                              have n0_:=bb_ BK135 hb
                              have n1_:=bb_ BK136 hb
                              have n2_:=hs_ HB hb
                              clear BK135
                              clear BK136
                              clear HB
                              have BK135:=n0_
                              have BK136:=n1_
                              have HB:=n2_
                              clear n0_ n1_ n2_
                              (try clear hb)
                              (try clear hb2)
                              (try clear hk)
                              (try clear hi)
                              refine hK.out _ _ ⟨(qh BK136.out 0).trans rfl,(qh BK136.out 1).trans rfl,(qh BK135.out 0).trans rfl,(qh BK135.out 1).trans rfl,(cb_ HB hw149_0:),(cb_ HB hw149_1:),(cb_ HB hw149_2:),(cb_ HB hw149_3:),(cb_ HB hw149_4:)⟩ (fun hHeld=>?_)
                              clear hK K
                              refine norm_ (a':=?_) ?_ ?_
                              rotate_left
                              · show Act.put _ (some 142) _ = _
                                simp only [Act.put,List.setIfInBounds_toArray,List.set_cons_zero,List.set_cons_succ,i64_w,i32_w]
                                rfl
                              refine pure_ (i:=7) (N:=some 143) (v:=?_) (a':=?_) #[true,true,true,true,true,true,true,true] rfl rfl (any_of HT_.out (by kernel_rfl)) (fun _ _ _ h=>h) (Or.inl ⟨by rfl,?_⟩) ?_ ?_
                              rotate_left
                              · intro w'
                                go_simp
                                with_reducible rfl
                              rotate_left
                              · simp only [Act.put,List.setIfInBounds_toArray,List.set_cons_zero,List.set_cons_succ,i64_w,i32_w]
                                rfl
                              refine done_ (done_of HT_.out (by kernel_rfl)) ?_
                              try go_wp2
                              go_ret
                              exact ⟨by first|rfl|(simp [errW_none,errW_some] <;> rfl)|(simp [*,errW_none,errW_some] <;> rfl),by repeat (first|(with_reducible first|exact HB.out|apply qf|apply qa|apply qd|refine qg ?_ GE135.out|refine qg ?_ GE136.out)|exact HB.out)⟩
                            · rw [if_neg c103] at H
                              have c103b0 : decide (t150 < 0) = false:=decide_eq_false c103
                              clear c103
                              have H':=qn.mk H
                              clear H
                              have hnb108:=NB135_136.out
                              have hnc108:=NB136_135.out
                              have hcz109_0 : wr.cell? ⟨gb135,0,none⟩ = some (.int .i64 a0_0):=(qh BK135.out 0).trans rfl
                              have hcz109_1 : wr.cell? ⟨gb135,1,none⟩ = some (.slice A0_1 l0_1.length c0_1):=(qh BK135.out 1).trans rfl
                              have hfz109_0:=qi BK135.out 0
                              have hfz109_1:=qi BK135.out 1
                              try go_wp2
                              have n0_:=qn.mk (qe BK135.out)
                              have n1_:=qn.mk (qe BK136.out)
                              have n2_:=qn.mk (qd HB.out)
                              clear BK135
                              clear BK136
                              clear HB
                              have BK135:=n0_
                              have BK136:=n1_
                              have HB:=n2_
                              clear n0_ n1_ n2_
                              have p149 : 0 ≤ (x10_4 : Int):=of_decide_eq_true (by first|(with_reducible assumption)|assumption)
                              have q149 : x10_4 < (l0_1.length : Int):=of_decide_eq_true (by first|(with_reducible assumption)|assumption)
                              obtain ⟨ad149,e149,hx149_0,hx149_1,hx149_2,hx149_3,hx149_4⟩:=at_T101 HR0_1.out x10_4 p149 q149
                              have hw149_4:=hx149_4
                              have hw149_3:=hx149_3
                              have hw149_2:=hx149_2
                              have hw149_1:=hx149_1
                              have hw149_0:=hx149_0
                              cases e149
                              replace hx149_0:=cb_ HB hx149_0
                              replace hx149_1:=cb_ HB hx149_1
                              replace hx149_2:=cb_ HB hx149_2
                              replace hx149_3:=cb_ HB hx149_3
                              replace hx149_4:=cb_ HB hx149_4
                              replace p149:=eq_true p149
                              replace q149:=eq_true q149
                              refine start_ (n:=8) (S:=fun w'=>w'.cell? ⟨gb136,0,none⟩ = some (.slice A1_0 l1_0.length c1_0) ∧ w'.cell? ⟨gb136,1,none⟩ = some (.slice A1_1 l1_1.length c1_1) ∧ w'.cell? ⟨gb135,0,none⟩ = some (.int .i64 a0_0) ∧ w'.cell? ⟨gb135,1,none⟩ = some (.slice (some ad149) l0_1.length c0_1) ∧ w'.cell? (ad149.add ((x10_4).toNat * 5)) = some (.int .i64 ((rd_T101 l0_1 x10_4).f0)) ∧ w'.cell? ⟨(ad149.add ((x10_4).toNat * 5)).block,(ad149.add ((x10_4).toNat * 5)).off + 1,none⟩ = some (.int .i64 ((rd_T101 l0_1 x10_4).f1)) ∧ w'.cell? ⟨(ad149.add ((x10_4).toNat * 5)).block,(ad149.add ((x10_4).toNat * 5)).off + 2,none⟩ = some (.int .i64 ((rd_T101 l0_1 x10_4).f2)) ∧ w'.cell? ⟨(ad149.add ((x10_4).toNat * 5)).block,(ad149.add ((x10_4).toNat * 5)).off + 3,none⟩ = some (.int .i64 ((rd_T101 l0_1 x10_4).f3)) ∧ w'.cell? ⟨(ad149.add ((x10_4).toNat * 5)).block,(ad149.add ((x10_4).toNat * 5)).off + 4,none⟩ = some (.int .i64 ((rd_T101 l0_1 x10_4).f4))) (ds:=[]) #[false,false,false,false,false,false,false,false] (by kernel_rfl) rfl rfl ⟨(qh BK136.out 0).trans rfl,(qh BK136.out 1).trans rfl,(qh BK135.out 0).trans rfl,(qh BK135.out 1).trans rfl,(cb_ HB hw149_0:),(cb_ HB hw149_1:),(cb_ HB hw149_2:),(cb_ HB hw149_3:),(cb_ HB hw149_4:)⟩ (fun hHeld=>?_);refine with_tabW spec_ProofOk.tab27 spec_ProofOk.bits27 (fun HT_ HW_=>?_)
                              generalize wr.drew = w110 at BK135 BK136 HB hx149_0 hx149_1 hx149_2 hx149_3 hx149_4 hHeld ⊢
                              refine pure_ (i:=1) (N:=some 137) (v:=?_) (a':=?_) #[false,true,false,false,false,false,false,false] rfl rfl (any_of HT_.out (by kernel_rfl)) (fun _ _ _ h=>h) (Or.inl ⟨by rfl,?_⟩) ?_ ?_
                              rotate_left
                              · intro w'
                                go_simp
                                with_reducible rfl
                              rotate_left
                              · simp only [Act.put,List.setIfInBounds_toArray,List.set_cons_zero,List.set_cons_succ,i64_w,i32_w]
                                rfl
                              refine pure_ (i:=3) (N:=some 139) (v:=?_) (a':=?_) #[false,true,false,true,false,false,false,false] rfl rfl (any_of HT_.out (by kernel_rfl)) (fun _ _ _ h=>h) (Or.inl ⟨by rfl,?_⟩) ?_ ?_
                              rotate_left
                              · intro w'
                                go_simp
                                with_reducible rfl
                              rotate_left
                              · simp only [Act.put,List.setIfInBounds_toArray,List.set_cons_zero,List.set_cons_succ,i64_w,i32_w]
                                rfl
                              refine take_ (i:=0) (N:=some 136) (v:=?_) (a':=?_) #[true,true,false,true,false,false,false,false] rfl rfl (take_ofW HT_.out HW_.out (by kernel_rfl)) (fun _ _ _ h=>h) (Or.inl ⟨by rfl,?_⟩) hHeld ?_ ?_
                              rotate_left
                              · rintro w' ⟨s0,s1,s2,s3,s4,s5,s6,s7,s8⟩
                                go_simp
                                with_reducible rfl
                              rotate_left
                              · simp only [Act.put,List.setIfInBounds_toArray,List.set_cons_zero,List.set_cons_succ,i64_w,i32_w]
                                rfl
                              refine take_ (i:=2) (N:=some 138) (v:=?_) (a':=?_) #[true,true,true,true,false,false,false,false] rfl rfl (take_ofW HT_.out HW_.out (by kernel_rfl)) (fun _ _ _ h=>h) (Or.inl ⟨by rfl,?_⟩) hHeld ?_ ?_
                              rotate_left
                              · rintro w' ⟨s0,s1,s2,s3,s4,s5,s6,s7,s8⟩
                                go_simp
                                with_reducible rfl
                              rotate_left
                              · simp only [Act.put,List.setIfInBounds_toArray,List.set_cons_zero,List.set_cons_succ,i64_w,i32_w]
                                rfl
                              refine pure_ (i:=4) (N:=some 140) (v:=?_) (a':=?_) #[true,true,true,true,true,false,false,false] rfl rfl (any_of HT_.out (by kernel_rfl)) (fun _ _ _ h=>h) (Or.inl ⟨by rfl,?_⟩) ?_ ?_
                              rotate_left
                              · intro w'
                                go_simp
                                with_reducible rfl
                              rotate_left
                              · simp only [Act.put,List.setIfInBounds_toArray,List.set_cons_zero,List.set_cons_succ,i64_w,i32_w]
                                rfl
                              refine take_ (i:=5) (N:=some 141) (v:=?_) (a':=?_) #[true,true,true,true,true,true,false,false] rfl rfl (take_ofW HT_.out HW_.out (by kernel_rfl)) (fun _ _ _ h=>h) (Or.inl ⟨by rfl,?_⟩) hHeld ?_ ?_
                              rotate_left
                              · rintro w' ⟨s0,s1,s2,s3,s4,s5,s6,s7,s8⟩
                                go_simp
                                with_reducible rfl
                              rotate_left
                              · simp only [Act.put,List.setIfInBounds_toArray,List.set_cons_zero,List.set_cons_succ,i64_w,i32_w]
                                rfl
                              refine one_ (i:=6) (N:=some 142) #[true,true,true,true,true,true,true,false] rfl rfl (one_of HT_.out (by kernel_rfl)) (by decide) (fun K hK=>?_)
                              refine goes_ Try.func53 (by kernel_rfl) rfl #[.agg #[.slice A1_0 l1_0.length c1_0,.slice A1_1 l1_1.length c1_1],.agg #[.int .i64 ((rd_T101 l0_1 x10_4).f0),.int .i64 ((rd_T101 l0_1 x10_4).f1),.int .i64 ((rd_T101 l0_1 x10_4).f2),.int .i64 ((rd_T101 l0_1 x10_4).f3),.int .i64 ((rd_T101 l0_1 x10_4).f4)]] (by rfl) rfl rfl (by (try simp only [List.map_toArray,List.map_cons,List.map_nil]);first|done|rfl|(simp only [List.length_drop,List.length_take];rfl)) ?_
                              with_reducible refine (spec_l11Slack.calls k4 _ _ l1_0 _ _ l1_1 ((rd_T101 l0_1 x10_4).f0) ((rd_T101 l0_1 x10_4).f1) ((rd_T101 l0_1 x10_4).f2) ((rd_T101 l0_1 x10_4).f3) ((rd_T101 l0_1 x10_4).f4) t150 _ ?side1 ?side2 ?side3 ?side4 A102.out).mono ?_
                              (case side1=>repeat (first|exact (Kd.C_below HR1_0.out HB.out)|(with_reducible refine Kd.C_alloc ?_ _)|(with_reducible refine Kd.C_drewN ?_ _)|(with_reducible refine Kd.C_drew ?_)))
                              (case side2=>exact HC1_0.out)
                              (case side3=>repeat (first|exact (Kd.C_below HR1_1.out HB.out)|(with_reducible refine Kd.C_alloc ?_ _)|(with_reducible refine Kd.C_drewN ?_ _)|(with_reducible refine Kd.C_drew ?_)))
                              (case side4=>exact HC1_1.out)
                              rintro e w111 ⟨rfl,hb⟩
                              refine ⟨_,rfl,?_⟩
                              have n0_:=bb_ BK135 hb
                              have n1_:=bb_ BK136 hb
                              have n2_:=hs_ HB hb
                              clear BK135
                              clear BK136
                              clear HB
                              have BK135:=n0_
                              have BK136:=n1_
                              have HB:=n2_
                              clear n0_ n1_ n2_
                              (try clear hb)
                              (try clear hb2)
                              (try clear hk)
                              (try clear hi)
                              refine hK.out _ _ ⟨(qh BK136.out 0).trans rfl,(qh BK136.out 1).trans rfl,(qh BK135.out 0).trans rfl,(qh BK135.out 1).trans rfl,(cb_ HB hw149_0:),(cb_ HB hw149_1:),(cb_ HB hw149_2:),(cb_ HB hw149_3:),(cb_ HB hw149_4:)⟩ (fun hHeld=>?_)
                              clear hK K
                              refine norm_ (a':=?_) ?_ ?_
                              rotate_left
                              · show Act.put _ (some 142) _ = _
                                simp only [Act.put,List.setIfInBounds_toArray,List.set_cons_zero,List.set_cons_succ,i64_w,i32_w]
                                rfl
                              refine pure_ (i:=7) (N:=some 143) (v:=?_) (a':=?_) #[true,true,true,true,true,true,true,true] rfl rfl (any_of HT_.out (by kernel_rfl)) (fun _ _ _ h=>h) (Or.inl ⟨by rfl,?_⟩) ?_ ?_
                              rotate_left
                              · intro w'
                                go_simp
                                with_reducible rfl
                              rotate_left
                              · simp only [Act.put,List.setIfInBounds_toArray,List.set_cons_zero,List.set_cons_succ,i64_w,i32_w]
                                rfl
                              refine done_ (done_of HT_.out (by kernel_rfl)) ?_
                              try go_wp2
                              go_roundg k4
                              case measure=>have:=HJ2.out;have:=HK2.out;have:=HK3.out;have:=HK4.out;omega
                              case rel=>exact ⟨(wrap64 (x10_4 + 1)),(by first|rfl|(simp;done)|(simp [*];done)),H',⟨by have:=HJ2.out;have:=HK2.out;have:=HK3.out;have:=HK4.out;omega⟩,⟨by (with_reducible repeat (first|refine qb ?_ _|refine qe ?_|refine qc ?_ _));exact BK135.out⟩,⟨by (with_reducible repeat (first|refine qb ?_ _|refine qe ?_|refine qc ?_ _));exact BK136.out⟩,⟨by repeat (first|(with_reducible first|exact HB.out|apply qf|apply qa|apply qd|refine qg ?_ GE135.out|refine qg ?_ GE136.out)|exact HB.out)⟩⟩
                          · rw [if_neg c101] at H
                            exact absurd H (by simp)
                        · rw [if_neg c100] at H
                          have c100b0 : decide (x10_4 < (l0_1.length : Int)) = false:=decide_eq_false c100
                          clear c100
                          obtain rfl:=Option.some.inj H
                          have hnb112:=NB135_136.out
                          have hnc112:=NB136_135.out
                          have hcz113_0 : wr.cell? ⟨gb135,0,none⟩ = some (.int .i64 a0_0):=(qh BK135.out 0).trans rfl
                          have hcz113_1 : wr.cell? ⟨gb135,1,none⟩ = some (.slice A0_1 l0_1.length c0_1):=(qh BK135.out 1).trans rfl
                          have hfz113_0:=qi BK135.out 0
                          have hfz113_1:=qi BK135.out 1
                          go_wp2
                          go_ret
                          exact ⟨by first|rfl|(simp [errW_none,errW_some] <;> rfl)|(simp [*,errW_none,errW_some] <;> rfl),by repeat (first|(with_reducible first|exact HB.out|apply qf|apply qa|apply qd|refine qg ?_ GE135.out|refine qg ?_ GE136.out)|exact HB.out)⟩

end Go.Proofs.Ytcdofljgeiohgaa.QFnExactProofOk
