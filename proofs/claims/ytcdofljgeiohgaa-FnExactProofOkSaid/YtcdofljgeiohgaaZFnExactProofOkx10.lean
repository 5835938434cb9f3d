/- Lean functions for the Go functions that the law FnExactProofOk reaches, and that each Go function comes to just its Lean function's answer; by a program of this session. -/
import Derived.Test.YtcdofljgeiohgaaZFnExactProofOkx0
import Derived.Test.YtcdofljgeiohgaaZFnExactProofOkx6
import Derived.Test.YtcdofljgeiohgaaZFnExactProofOkx7
import Derived.Test.YtcdofljgeiohgaaZFnExactProofOkx8
import Derived.Test.YtcdofljgeiohgaaZFnExactProofOkx9
namespace Go.Proofs.Ytcdofljgeiohgaa.QFnExactProofOk
open Go.RowKit Go.Proofs.YtcdofljgeiohgaaW.PrintWords Go.Proofs.YtcdofljgeiohgaaW.PrintLast Go.Proofs.YtcdofljgeiohgaaW.PrintMore
attribute [local go_sem] max2_int min2_int max_two min_two max_three min_three max_four min_four   -- for this text's walks alone
set_option linter.unusedVariables false
set_option linter.unusedSimpArgs false

/-! ### impl_ProofOk: function 23 -/
mutual
def impl_ProofOk.j0 : Nat → Bool → Int → List (S101) → List Int → List (S97) → Option (Bool)
  | 0,_,_,_,_,_=>none
  | k + 1,x33,x231000,x231001,x232000,x232001=>if x33 = true then (some false) else (impl_ProofOk.l0 k x232000 (x232000.length : Int) 0 x231000 x231001 x232000 x232001)
def impl_ProofOk.l0 : Nat → List Int → Int → Int → Int → List (S101) → List Int → List (S97) → Option (Bool)
  | 0,_,_,_,_,_,_,_=>none
  | k + 1,x35,x36,x37,x231000,x231001,x232000,x232001=>if x37 < x36 then (if 0 ≤ x37 then (if x37 < (x35.length : Int) then ((impl_in.f (rd x35 x37) 0 1000000000).bind fun t234=>(if t234 = true then (impl_ProofOk.l0 k x35 x36 (wrap64 (x37 + 1)) x231000 x231001 x232000 x232001) else (some false))) else (none)) else (none)) else (impl_ProofOk.l1 k x232001 (x232001.length : Int) 0 x231000 x231001 x232000 x232001)
def impl_ProofOk.l1 : Nat → List (S97) → Int → Int → Int → List (S101) → List Int → List (S97) → Option (Bool)
  | 0,_,_,_,_,_,_,_=>none
  | k + 1,x46,x47,x48,x231000,x231001,x232000,x232001=>if x48 < x47 then (if 0 ≤ x48 then (if x48 < (x46.length : Int) then ((impl_groupOk.f k x231000 x231001 ((rd_T97 x46 x48).f0) ((rd_T97 x46 x48).f1)).bind fun t237=>(if t237 = true then (if x48 ≤ (x232001.length : Int) then ((some (x232001.take (x48 : Int).toNat : List (S97))).bind fun y238=>(impl_ProofOk.l2 k x46 x47 x48 y238 (y238.length : Int) 0 x231000 x231001 x232000 x232001 ((rd_T97 x46 x48).f0) ((rd_T97 x46 x48).f1))) else (none)) else (some false))) else (none)) else (none)) else (impl_ProofOk.l3 k x231001 (x231001.length : Int) 0 x232000 x232001)
def impl_ProofOk.l2 : Nat → List (S97) → Int → Int → List (S97) → Int → Int → Int → List (S101) → List Int → List (S97) → List Int → Int → Option (Bool)
  | 0,_,_,_,_,_,_,_,_,_,_,_,_=>none
  | k + 1,x46,x47,x48,x60,x61,x62,x231000,x231001,x232000,x232001,x237000,x237001=>if x62 < x61 then (if 0 ≤ x62 then (if x62 < (x60.length : Int) then ((impl_within.f k x237000 ((rd_T97 x60 x62).f0)).bind fun bt244=>((impl_within.f k ((rd_T97 x60 x62).f0) x237000).bind fun bt246=>(if bt244.1 = true then (impl_ProofOk.l2 k x46 x47 x48 x60 x61 (wrap64 (x62 + 1)) x231000 x231001 x232000 x232001 x237000 x237001) else (if bt244.2 = true then (impl_ProofOk.l2 k x46 x47 x48 x60 x61 (wrap64 (x62 + 1)) x231000 x231001 x232000 x232001 x237000 x237001) else (if bt246.1 = true then (impl_ProofOk.l2 k x46 x47 x48 x60 x61 (wrap64 (x62 + 1)) x231000 x231001 x232000 x232001 x237000 x237001) else (some false)))))) else (none)) else (none)) else (impl_ProofOk.l1 k x46 x47 (wrap64 (x48 + 1)) x231000 x231001 x232000 x232001)
def impl_ProofOk.l3 : Nat → List (S101) → Int → Int → List Int → List (S97) → Option (Bool)
  | 0,_,_,_,_,_=>none
  | k + 1,x95,x96,x97,x232000,x232001=>if x97 < x96 then (if 0 ≤ x97 then (if x97 < (x95.length : Int) then ((impl_slackOf.f k ((rd_T101 x95 x97).f0) ((rd_T101 x95 x97).f1) ((rd_T101 x95 x97).f2) ((rd_T101 x95 x97).f3) ((rd_T101 x95 x97).f4) x232000 x232001).bind fun t250=>(if t250 < 0 then (some false) else (impl_ProofOk.l3 k x95 x96 (wrap64 (x97 + 1)) x232000 x232001))) else (none)) else (none)) else (some true)
end
def impl_ProofOk.f (k : Nat) (a0_0 : Int) (l0_1 : List (S101)) (l1_0 : List Int) (l1_1 : List (S97)) : Option (Bool):=(impl_GraphOk.f k a0_0 l0_1).bind fun t232=>(if t232 = true then (if (l1_0.length : Int) = a0_0 then (impl_ProofOk.j0 k (decide ((l1_1.length : Int) > 8)) a0_0 l0_1 l1_0 l1_1) else (impl_ProofOk.j0 k true a0_0 l0_1 l1_0 l1_1)) else (impl_ProofOk.j0 k true a0_0 l0_1 l1_0 l1_1))
theorem impl_ProofOk.mono_l : ∀ k,(∀ y0 y1 y2 y3 y4,LeO (impl_ProofOk.j0 k y0 y1 y2 y3 y4) (impl_ProofOk.j0 (k + 1) y0 y1 y2 y3 y4)) ∧ (∀ y0 y1 y2 y3 y4 y5 y6,LeO (impl_ProofOk.l0 k y0 y1 y2 y3 y4 y5 y6) (impl_ProofOk.l0 (k + 1) y0 y1 y2 y3 y4 y5 y6)) ∧ (∀ y0 y1 y2 y3 y4 y5 y6,LeO (impl_ProofOk.l1 k y0 y1 y2 y3 y4 y5 y6) (impl_ProofOk.l1 (k + 1) y0 y1 y2 y3 y4 y5 y6)) ∧ (∀ y0 y1 y2 y3 y4 y5 y6 y7 y8 y9 y10 y11,LeO (impl_ProofOk.l2 k y0 y1 y2 y3 y4 y5 y6 y7 y8 y9 y10 y11) (impl_ProofOk.l2 (k + 1) y0 y1 y2 y3 y4 y5 y6 y7 y8 y9 y10 y11)) ∧ (∀ y0 y1 y2 y3 y4,LeO (impl_ProofOk.l3 k y0 y1 y2 y3 y4) (impl_ProofOk.l3 (k + 1) y0 y1 y2 y3 y4))
  | 0=>⟨fun _ _ _ _ _ r h=>by simp [impl_ProofOk.j0] at h,fun _ _ _ _ _ _ _ r h=>by simp [impl_ProofOk.l0] at h,fun _ _ _ _ _ _ _ r h=>by simp [impl_ProofOk.l1] at h,fun _ _ _ _ _ _ _ _ _ _ _ _ r h=>by simp [impl_ProofOk.l2] at h,fun _ _ _ _ _ r h=>by simp [impl_ProofOk.l3] at h⟩
  | k + 1=>by
    obtain ⟨ih0,ih1,ih2,ih3,ih4⟩:=impl_ProofOk.mono_l k
    refine ⟨?_,?_,?_,?_,?_⟩
    · intro y0 y1 y2 y3 y4
      unfold impl_ProofOk.j0
      repeat' first
      | (with_reducible exact ih0 _ _ _ _ _)
      | (with_reducible exact ih1 _ _ _ _ _ _ _)
      | (with_reducible exact ih2 _ _ _ _ _ _ _)
      | (with_reducible exact ih3 _ _ _ _ _ _ _ _ _ _ _ _)
      | (with_reducible exact ih4 _ _ _ _ _)
      | (with_reducible exact impl_GraphOk.mono _ _ _)
      | (with_reducible exact impl_groupOk.mono _ _ _ _ _)
      | (with_reducible exact impl_slackOf.mono _ _ _ _ _ _ _ _)
      | (with_reducible exact impl_within.mono _ _ _)
      | (with_reducible exact LeO.refl _)
      | (with_reducible exact LeO.none _)
      | (with_reducible refine LeO.ite ?_ ?_)
      | (with_reducible refine LeO.bind ?_ (fun _=>?_))
      | exact ih0 _ _ _ _ _
      | exact ih1 _ _ _ _ _ _ _
      | exact ih2 _ _ _ _ _ _ _
      | exact ih3 _ _ _ _ _ _ _ _ _ _ _ _
      | exact ih4 _ _ _ _ _
      | exact impl_GraphOk.mono _ _ _
      | exact impl_groupOk.mono _ _ _ _ _
      | exact impl_slackOf.mono _ _ _ _ _ _ _ _
      | exact impl_within.mono _ _ _
      | exact LeO.none _
      | refine LeO.ite ?_ ?_
      | refine LeO.bind ?_ (fun _=>?_)
    · intro y0 y1 y2 y3 y4 y5 y6
      unfold impl_ProofOk.l0
      repeat' first
      | (with_reducible exact ih0 _ _ _ _ _)
      | (with_reducible exact ih1 _ _ _ _ _ _ _)
      | (with_reducible exact ih2 _ _ _ _ _ _ _)
      | (with_reducible exact ih3 _ _ _ _ _ _ _ _ _ _ _ _)
      | (with_reducible exact ih4 _ _ _ _ _)
      | (with_reducible exact impl_GraphOk.mono _ _ _)
      | (with_reducible exact impl_groupOk.mono _ _ _ _ _)
      | (with_reducible exact impl_slackOf.mono _ _ _ _ _ _ _ _)
      | (with_reducible exact impl_within.mono _ _ _)
      | (with_reducible exact LeO.refl _)
      | (with_reducible exact LeO.none _)
      | (with_reducible refine LeO.ite ?_ ?_)
      | (with_reducible refine LeO.bind ?_ (fun _=>?_))
      | exact ih0 _ _ _ _ _
      | exact ih1 _ _ _ _ _ _ _
      | exact ih2 _ _ _ _ _ _ _
      | exact ih3 _ _ _ _ _ _ _ _ _ _ _ _
      | exact ih4 _ _ _ _ _
      | exact impl_GraphOk.mono _ _ _
      | exact impl_groupOk.mono _ _ _ _ _
      | exact impl_slackOf.mono _ _ _ _ _ _ _ _
      | exact impl_within.mono _ _ _
      | exact LeO.none _
      | refine LeO.ite ?_ ?_
      | refine LeO.bind ?_ (fun _=>?_)
    · intro y0 y1 y2 y3 y4 y5 y6
      unfold impl_ProofOk.l1
      repeat' first
      | (with_reducible exact ih0 _ _ _ _ _)
      | (with_reducible exact ih1 _ _ _ _ _ _ _)
      | (with_reducible exact ih2 _ _ _ _ _ _ _)
      | (with_reducible exact ih3 _ _ _ _ _ _ _ _ _ _ _ _)
      | (with_reducible exact ih4 _ _ _ _ _)
      | (with_reducible exact impl_GraphOk.mono _ _ _)
      | (with_reducible exact impl_groupOk.mono _ _ _ _ _)
      | (with_reducible exact impl_slackOf.mono _ _ _ _ _ _ _ _)
      | (with_reducible exact impl_within.mono _ _ _)
      | (with_reducible exact LeO.refl _)
      | (with_reducible exact LeO.none _)
      | (with_reducible refine LeO.ite ?_ ?_)
      | (with_reducible refine LeO.bind ?_ (fun _=>?_))
      | exact ih0 _ _ _ _ _
      | exact ih1 _ _ _ _ _ _ _
      | exact ih2 _ _ _ _ _ _ _
      | exact ih3 _ _ _ _ _ _ _ _ _ _ _ _
      | exact ih4 _ _ _ _ _
      | exact impl_GraphOk.mono _ _ _
      | exact impl_groupOk.mono _ _ _ _ _
      | exact impl_slackOf.mono _ _ _ _ _ _ _ _
      | exact impl_within.mono _ _ _
      | exact LeO.none _
      | refine LeO.ite ?_ ?_
      | refine LeO.bind ?_ (fun _=>?_)
    · intro y0 y1 y2 y3 y4 y5 y6 y7 y8 y9 y10 y11
      unfold impl_ProofOk.l2
      repeat' first
      | (with_reducible exact ih0 _ _ _ _ _)
      | (with_reducible exact ih1 _ _ _ _ _ _ _)
      | (with_reducible exact ih2 _ _ _ _ _ _ _)
      | (with_reducible exact ih3 _ _ _ _ _ _ _ _ _ _ _ _)
      | (with_reducible exact ih4 _ _ _ _ _)
      | (with_reducible exact impl_GraphOk.mono _ _ _)
      | (with_reducible exact impl_groupOk.mono _ _ _ _ _)
      | (with_reducible exact impl_slackOf.mono _ _ _ _ _ _ _ _)
      | (with_reducible exact impl_within.mono _ _ _)
      | (with_reducible exact LeO.refl _)
      | (with_reducible exact LeO.none _)
      | (with_reducible refine LeO.ite ?_ ?_)
      | (with_reducible refine LeO.bind ?_ (fun _=>?_))
      | exact ih0 _ _ _ _ _
      | exact ih1 _ _ _ _ _ _ _
      | exact ih2 _ _ _ _ _ _ _
      | exact ih3 _ _ _ _ _ _ _ _ _ _ _ _
      | exact ih4 _ _ _ _ _
      | exact impl_GraphOk.mono _ _ _
      | exact impl_groupOk.mono _ _ _ _ _
      | exact impl_slackOf.mono _ _ _ _ _ _ _ _
      | exact impl_within.mono _ _ _
      | exact LeO.none _
      | refine LeO.ite ?_ ?_
      | refine LeO.bind ?_ (fun _=>?_)
    · intro y0 y1 y2 y3 y4
      unfold impl_ProofOk.l3
      repeat' first
      | (with_reducible exact ih0 _ _ _ _ _)
      | (with_reducible exact ih1 _ _ _ _ _ _ _)
      | (with_reducible exact ih2 _ _ _ _ _ _ _)
      | (with_reducible exact ih3 _ _ _ _ _ _ _ _ _ _ _ _)
      | (with_reducible exact ih4 _ _ _ _ _)
      | (with_reducible exact impl_GraphOk.mono _ _ _)
      | (with_reducible exact impl_groupOk.mono _ _ _ _ _)
      | (with_reducible exact impl_slackOf.mono _ _ _ _ _ _ _ _)
      | (with_reducible exact impl_within.mono _ _ _)
      | (with_reducible exact LeO.refl _)
      | (with_reducible exact LeO.none _)
      | (with_reducible refine LeO.ite ?_ ?_)
      | (with_reducible refine LeO.bind ?_ (fun _=>?_))
      | exact ih0 _ _ _ _ _
      | exact ih1 _ _ _ _ _ _ _
      | exact ih2 _ _ _ _ _ _ _
      | exact ih3 _ _ _ _ _ _ _ _ _ _ _ _
      | exact ih4 _ _ _ _ _
      | exact impl_GraphOk.mono _ _ _
      | exact impl_groupOk.mono _ _ _ _ _
      | exact impl_slackOf.mono _ _ _ _ _ _ _ _
      | exact impl_within.mono _ _ _
      | exact LeO.none _
      | refine LeO.ite ?_ ?_
      | refine LeO.bind ?_ (fun _=>?_)
theorem impl_ProofOk.mono : ∀ a0 a1 a2 a3 k,LeO (impl_ProofOk.f k a0 a1 a2 a3) (impl_ProofOk.f (k + 1) a0 a1 a2 a3):=by
  intro a0 a1 a2 a3 k
  obtain ⟨ih0,ih1,ih2,ih3,ih4⟩:=impl_ProofOk.mono_l k
  unfold impl_ProofOk.f
  repeat' first
      | (with_reducible exact ih0 _ _ _ _ _)
      | (with_reducible exact ih1 _ _ _ _ _ _ _)
      | (with_reducible exact ih2 _ _ _ _ _ _ _)
      | (with_reducible exact ih3 _ _ _ _ _ _ _ _ _ _ _ _)
      | (with_reducible exact ih4 _ _ _ _ _)
      | (with_reducible exact impl_GraphOk.mono _ _ _)
      | (with_reducible exact impl_groupOk.mono _ _ _ _ _)
      | (with_reducible exact impl_slackOf.mono _ _ _ _ _ _ _ _)
      | (with_reducible exact impl_within.mono _ _ _)
      | (with_reducible exact LeO.refl _)
      | (with_reducible exact LeO.none _)
      | (with_reducible refine LeO.ite ?_ ?_)
      | (with_reducible refine LeO.bind ?_ (fun _=>?_))
      | exact ih0 _ _ _ _ _
      | exact ih1 _ _ _ _ _ _ _
      | exact ih2 _ _ _ _ _ _ _
      | exact ih3 _ _ _ _ _ _ _ _ _ _ _ _
      | exact ih4 _ _ _ _ _
      | exact impl_GraphOk.mono _ _ _
      | exact impl_groupOk.mono _ _ _ _ _
      | exact impl_slackOf.mono _ _ _ _ _ _ _ _
      | exact impl_within.mono _ _ _
      | exact LeO.none _
      | refine LeO.ite ?_ ?_
      | refine LeO.bind ?_ (fun _=>?_)
set_option maxHeartbeats 8000000 in
set_option maxRecDepth 100000 in
theorem impl_ProofOk.calls (k : Nat) (a0_0 : Int) (A0_1 : Option Addr) (c0_1 : Nat) (l0_1 : List (S101)) (A1_0 : Option Addr) (c1_0 : Nat) (l1_0 : List Int) (A1_1 : Option Addr) (c1_1 : Nat) (l1_1 : List (S97)) (r : Bool) (w : World) (hr0_1 : Kd.C k101 w A0_1 l0_1.length l0_1) (hc0_1 : l0_1.length ≤ c0_1) (hr1_0 : Kd.C (Kd.int .i64) w A1_0 l1_0.length l1_0) (hc1_0 : l1_0.length ≤ c1_0) (hr1_1 : Kd.C k97 w A1_1 l1_1.length l1_1) (hc1_1 : l1_1.length ≤ c1_1) (h : impl_ProofOk.f k a0_0 l0_1 l1_0 l1_1 = some r) :
    Calls Try.prog 23 #[.agg #[.int .i64 a0_0,.slice A0_1 l0_1.length c0_1],.agg #[.slice A1_0 l1_0.length c1_0,.slice A1_1 l1_1.length c1_1]] w fun e w'=>e = .returned (.bool r) ∧ Below w.heap.size w w':=by
  have hu61:=Try.underlying61
  have hu65:=Try.underlying65
  have hu97:=Try.underlying97
  have hu101:=Try.underlying101
  have HR0_1:=qn.mk hr0_1
  have HC0_1:=qn.mk hc0_1
  clear hr0_1 hc0_1
  have HR1_0:=qn.mk hr1_0
  have HC1_0:=qn.mk hc1_0
  clear hr1_0 hc1_0
  have HR1_1:=qn.mk hr1_1
  have HC1_1:=qn.mk hc1_1
  clear hr1_1 hc1_1
  have HB:=qn.mk (Below.refl w.heap.size w)
  have H : ((impl_GraphOk.f k a0_0 l0_1).bind fun t232=>(if t232 = true then (if (l1_0.length : Int) = a0_0 then (impl_ProofOk.j0 k (decide ((l1_1.length : Int) > 8)) a0_0 l0_1 l1_0 l1_1) else (impl_ProofOk.j0 k true a0_0 l0_1 l1_0 l1_1)) else (impl_ProofOk.j0 k true a0_0 l0_1 l1_0 l1_1))) = some r:=h
  clear h
  have HC3:=qn.mk H
  clear H
  go_enter Try.func23,Try.ntmps23
  go_upto_region 1 with (first|((with_reducible refine gate_dst (N:=2) rfl ?_);(try (refine gate_guard (by rfl) ?_;dsimp only));refine box_event ?hg (N:=2) ?hd (cs:=#[.int .i64 a0_0,.slice A0_1 l0_1.length c0_1]) (t:=61) ?hr ?_;(case hd=>rfl);(case hg=>rfl);(case hr=>first|(go_simp;done)|(go_simp;rfl));intro gb230 hg w4 hbox hb;have n0_:=hs_ HB hb;have n1_:=qn.mk (hbox);have n2_:=qn.mk ((by rw [hg];exact (qj (by repeat (first|(with_reducible first|exact HB.out|apply qf|apply qa|apply qd)|exact HB.out))) : w.heap.size ≤ gb230));have n3_:=qn.mk ((by rw [hg];exact (qj (by repeat (first|(with_reducible first|exact HB.out|apply qf|apply qa|apply qd)|exact HB.out))) : w.heap.size ≤ gb230));clear HB;have HB:=n0_;have BK230:=n1_;have GW230:=n2_;have GE230:=n3_;clear n0_ n1_ n2_ n3_;clear hb hbox hg)|((with_reducible refine gate_dst (N:=3) rfl ?_);(try (refine gate_guard (by rfl) ?_;dsimp only));refine box_event ?hg (N:=3) ?hd (cs:=#[.slice A1_0 l1_0.length c1_0,.slice A1_1 l1_1.length c1_1]) (t:=65) ?hr ?_;(case hd=>rfl);(case hg=>rfl);(case hr=>first|(go_simp;done)|(go_simp;rfl));intro gb231 hg w5 hbox hb;have n0_:=bb_ BK230 hb;have n1_:=hs_ HB hb;have n2_:=qn.mk (hbox);have n3_:=qn.mk ((by rw [hg];exact (qj (by repeat (first|(with_reducible first|exact HB.out|apply qf|apply qa|apply qd|refine qg ?_ GE230.out)|exact HB.out))) : w.heap.size ≤ gb231));have n4_:=qn.mk ((by rw [hg];exact (qj (by repeat (first|(with_reducible first|exact HB.out|apply qf|apply qa|apply qd|refine qg ?_ GE230.out)|exact HB.out))) : w.heap.size ≤ gb231));have n5_:=qn.mk ((by rw [hg];exact nl_ BK230 : gb230 ≠ gb231));have n6_:=qn.mk ((by rw [hg];exact ng_ BK230 : gb231 ≠ gb230));clear BK230;clear HB;have BK230:=n0_;have HB:=n1_;have BK231:=n2_;have GW231:=n3_;have GE231:=n4_;have NB230_231:=n5_;have NB231_230:=n6_;clear n0_ n1_ n2_ n3_ n4_ n5_ n6_;clear hb hbox hg))
  (try simp only [Act.put,List.setIfInBounds_toArray,List.set_cons_zero,List.set_cons_succ])
  go_cut [33] (fun v33 wc=>∃ (kq : Nat) (x33_2 : Bool),v33 = .bool x33_2 ∧ qn (impl_ProofOk.j0 kq x33_2 a0_0 l0_1 l1_0 l1_1 = some r) ∧ qn (kq ≤ k) ∧ qn (wc.heap[gb230]? = some (.cells #[.int .i64 a0_0,(.slice A0_1 l0_1.length c0_1)] 61 (0,0))) ∧ qn (wc.heap[gb231]? = some (.cells #[(.slice A1_0 l1_0.length c1_0),(.slice A1_1 l1_1.length c1_1)] 65 (0,0))) ∧ qn (Below w.heap.size w wc))
  case first =>
    have H:=HC3.out
    clear HC3
    replace H:=Option.bind_eq_some_iff.mp H
    obtain ⟨t232,A60,H⟩:=H
    replace H : (if t232 = true then (if (l1_0.length : Int) = a0_0 then (impl_ProofOk.j0 k (decide ((l1_1.length : Int) > 8)) a0_0 l0_1 l1_0 l1_1) else (impl_ProofOk.j0 k true a0_0 l0_1 l1_0 l1_1)) else (impl_ProofOk.j0 k true a0_0 l0_1 l1_0 l1_1)) = some r:=H
    have A6:=qn.mk A60
    clear A60
    by_cases c7 : t232 = true
    · subst c7
      have H1 : (if (l1_0.length : Int) = a0_0 then (impl_ProofOk.j0 k (decide ((l1_1.length : Int) > 8)) a0_0 l0_1 l1_0 l1_1) else (impl_ProofOk.j0 k true a0_0 l0_1 l1_0 l1_1)) = some r:=by rw [if_pos rfl] at H;exact H
      clear H
      have H:=H1
      clear H1
      by_cases c8 : (l1_0.length : Int) = a0_0
      · rw [if_pos c8] at H
        have c8b0 : ((l1_0.length : Int) == a0_0) = true:=beq_iff_eq.mpr c8
        have c8b1 : ((l1_0.length : Int) != a0_0) = false:=bne_eq_false_iff_eq.mpr c8
        clear c8
        (first|rw [c8b0]|(simp only [i64_w,i32_w];rw [c8b0])|skip)
        have H':=qn.mk H
        clear H
        have hnb9:=NB230_231.out
        have hnc9:=NB231_230.out
        have hcz10_0 : w5.cell? ⟨gb230,0,none⟩ = some (.int .i64 a0_0):=(qh BK230.out 0).trans rfl
        have hcz10_1 : w5.cell? ⟨gb230,1,none⟩ = some (.slice A0_1 l0_1.length c0_1):=(qh BK230.out 1).trans rfl
        have hfz10_0:=qi BK230.out 0
        have hfz10_1:=qi BK230.out 1
        go_wp2_with (first|((with_reducible refine gate_callee (f:=57) rfl ?_);refine goesL_ (some 18) rfl rfl Try.func57 (by kernel_rfl) rfl #[.agg #[.int .i64 a0_0,.slice A0_1 l0_1.length c0_1]] rfl (by (try simp only [List.map_toArray,List.map_cons,List.map_nil]);first|done|rfl|(simp only [List.length_drop,List.length_take];rfl)) ?_;(with_reducible refine (impl_GraphOk.calls k a0_0 _ _ l0_1 true _ ?side1 ?side2 A6.out).mono ?_);(case side1=>repeat (first|exact (Kd.C_below HR0_1.out HB.out)|(with_reducible refine Kd.C_alloc ?_ _)|(with_reducible refine Kd.C_drewN ?_ _)|(with_reducible refine Kd.C_drew ?_)));(case side2=>exact HC0_1.out);rintro e w11 ⟨rfl,hb⟩;refine ⟨_,rfl,?_⟩;have n0_:=bb_ BK230 hb;have n1_:=bb_ BK231 hb;have n2_:=hs_ HB hb;clear BK230;clear BK231;clear HB;have BK230:=n0_;have BK231:=n1_;have HB:=n2_;clear n0_ n1_ n2_;(try clear hb);(try clear hb2);(try clear hk);(try clear hi);have hcz12_0 : w11.cell? ⟨gb231,0,none⟩ = some (.slice A1_0 l1_0.length c1_0):=(qh BK231.out 0).trans rfl;have hcz12_1 : w11.cell? ⟨gb231,1,none⟩ = some (.slice A1_1 l1_1.length c1_1):=(qh BK231.out 1).trans rfl;have hfz12_0:=qi BK231.out 0;have hfz12_1:=qi BK231.out 1;have hcz13_0 : w11.cell? ⟨gb230,0,none⟩ = some (.int .i64 a0_0):=(qh BK230.out 0).trans rfl;have hcz13_1 : w11.cell? ⟨gb230,1,none⟩ = some (.slice A0_1 l0_1.length c0_1):=(qh BK230.out 1).trans rfl;have hfz13_0:=qi BK230.out 0;have hfz13_1:=qi BK230.out 1))
        go_meet
        case rel=>exact ⟨_,(decide ((l1_1.length : Int) > 8)),(by first|rfl|(simp;done)|(simp [*];done)),H',⟨by first|omega|exact Nat.le_refl _⟩,⟨by (with_reducible repeat (first|refine qb ?_ _|refine qe ?_|refine qc ?_ _));exact BK230.out⟩,⟨by (with_reducible repeat (first|refine qb ?_ _|refine qe ?_|refine qc ?_ _));exact BK231.out⟩,⟨by repeat (first|(with_reducible first|exact HB.out|apply qf|apply qa|apply qd|refine qg ?_ GE230.out|refine qg ?_ GE231.out)|exact HB.out)⟩⟩
      · rw [if_neg c8] at H
        have c8b0 : ((l1_0.length : Int) == a0_0) = false:=beq_eq_false_iff_ne.mpr c8
        have c8b1 : ((l1_0.length : Int) != a0_0) = true:=bne_iff_ne.mpr c8
        (first|rw [c8b0]|(simp only [i64_w,i32_w];rw [c8b0])|skip)
        have H':=qn.mk H
        clear H
        have hnb14:=NB230_231.out
        have hnc14:=NB231_230.out
        have hcz15_0 : w5.cell? ⟨gb230,0,none⟩ = some (.int .i64 a0_0):=(qh BK230.out 0).trans rfl
        have hcz15_1 : w5.cell? ⟨gb230,1,none⟩ = some (.slice A0_1 l0_1.length c0_1):=(qh BK230.out 1).trans rfl
        have hfz15_0:=qi BK230.out 0
        have hfz15_1:=qi BK230.out 1
        go_wp2_with (first|((with_reducible refine gate_callee (f:=57) rfl ?_);refine goesL_ (some 18) rfl rfl Try.func57 (by kernel_rfl) rfl #[.agg #[.int .i64 a0_0,.slice A0_1 l0_1.length c0_1]] rfl (by (try simp only [List.map_toArray,List.map_cons,List.map_nil]);first|done|rfl|(simp only [List.length_drop,List.length_take];rfl)) ?_;(with_reducible refine (impl_GraphOk.calls k a0_0 _ _ l0_1 true _ ?side1 ?side2 A6.out).mono ?_);(case side1=>repeat (first|exact (Kd.C_below HR0_1.out HB.out)|(with_reducible refine Kd.C_alloc ?_ _)|(with_reducible refine Kd.C_drewN ?_ _)|(with_reducible refine Kd.C_drew ?_)));(case side2=>exact HC0_1.out);rintro e w16 ⟨rfl,hb⟩;refine ⟨_,rfl,?_⟩;have n0_:=bb_ BK230 hb;have n1_:=bb_ BK231 hb;have n2_:=hs_ HB hb;clear BK230;clear BK231;clear HB;have BK230:=n0_;have BK231:=n1_;have HB:=n2_;clear n0_ n1_ n2_;(try clear hb);(try clear hb2);(try clear hk);(try clear hi);have hcz17_0 : w16.cell? ⟨gb231,0,none⟩ = some (.slice A1_0 l1_0.length c1_0):=(qh BK231.out 0).trans rfl;have hcz17_1 : w16.cell? ⟨gb231,1,none⟩ = some (.slice A1_1 l1_1.length c1_1):=(qh BK231.out 1).trans rfl;have hfz17_0:=qi BK231.out 0;have hfz17_1:=qi BK231.out 1;have hcz18_0 : w16.cell? ⟨gb230,0,none⟩ = some (.int .i64 a0_0):=(qh BK230.out 0).trans rfl;have hcz18_1 : w16.cell? ⟨gb230,1,none⟩ = some (.slice A0_1 l0_1.length c0_1):=(qh BK230.out 1).trans rfl;have hfz18_0:=qi BK230.out 0;have hfz18_1:=qi BK230.out 1))
        go_meet
        case rel=>exact ⟨_,(true),(by first|rfl|(simp;done)|(simp [*];done)),H',⟨by first|omega|exact Nat.le_refl _⟩,⟨by (with_reducible repeat (first|refine qb ?_ _|refine qe ?_|refine qc ?_ _));exact BK230.out⟩,⟨by (with_reducible repeat (first|refine qb ?_ _|refine qe ?_|refine qc ?_ _));exact BK231.out⟩,⟨by repeat (first|(with_reducible first|exact HB.out|apply qf|apply qa|apply qd|refine qg ?_ GE230.out|refine qg ?_ GE231.out)|exact HB.out)⟩⟩
    · replace c7:=Bool.eq_false_iff.mpr c7
      subst c7
      have H1 : (impl_ProofOk.j0 k true a0_0 l0_1 l1_0 l1_1) = some r:=by rw [if_neg (show ¬ (false = true) by decide)] at H;exact H
      clear H
      have H:=H1
      clear H1
      have H':=qn.mk H
      clear H
      have hnb19:=NB230_231.out
      have hnc19:=NB231_230.out
      have hcz20_0 : w5.cell? ⟨gb230,0,none⟩ = some (.int .i64 a0_0):=(qh BK230.out 0).trans rfl
      have hcz20_1 : w5.cell? ⟨gb230,1,none⟩ = some (.slice A0_1 l0_1.length c0_1):=(qh BK230.out 1).trans rfl
      have hfz20_0:=qi BK230.out 0
      have hfz20_1:=qi BK230.out 1
      go_wp2_with (first|((with_reducible refine gate_callee (f:=57) rfl ?_);refine goesL_ (some 18) rfl rfl Try.func57 (by kernel_rfl) rfl #[.agg #[.int .i64 a0_0,.slice A0_1 l0_1.length c0_1]] rfl (by (try simp only [List.map_toArray,List.map_cons,List.map_nil]);first|done|rfl|(simp only [List.length_drop,List.length_take];rfl)) ?_;(with_reducible refine (impl_GraphOk.calls k a0_0 _ _ l0_1 false _ ?side1 ?side2 A6.out).mono ?_);(case side1=>repeat (first|exact (Kd.C_below HR0_1.out HB.out)|(with_reducible refine Kd.C_alloc ?_ _)|(with_reducible refine Kd.C_drewN ?_ _)|(with_reducible refine Kd.C_drew ?_)));(case side2=>exact HC0_1.out);rintro e w21 ⟨rfl,hb⟩;refine ⟨_,rfl,?_⟩;have n0_:=bb_ BK230 hb;have n1_:=bb_ BK231 hb;have n2_:=hs_ HB hb;clear BK230;clear BK231;clear HB;have BK230:=n0_;have BK231:=n1_;have HB:=n2_;clear n0_ n1_ n2_;(try clear hb);(try clear hb2);(try clear hk);(try clear hi)))
      go_meet
      case rel=>exact ⟨_,(true),(by first|rfl|(simp;done)|(simp [*];done)),H',⟨by first|omega|exact Nat.le_refl _⟩,⟨by (with_reducible repeat (first|refine qb ?_ _|refine qe ?_|refine qc ?_ _));exact BK230.out⟩,⟨by (with_reducible repeat (first|refine qb ?_ _|refine qe ?_|refine qc ?_ _));exact BK231.out⟩,⟨by repeat (first|(with_reducible first|exact HB.out|apply qf|apply qa|apply qd|refine qg ?_ GE230.out|refine qg ?_ GE231.out)|exact HB.out)⟩⟩
  case rest =>
    clear HC3
    try clear c1
    try clear c2
    try clear p2
    try clear c5
    try clear c7
    try clear c8
    try clear c8b0
    try clear c8b1
    try clear c9
    try clear c14
    try clear c19
    try clear hcz10_0
    try clear hcz10_1
    try clear hcz12_0
    try clear hcz12_1
    try clear hcz13_0
    try clear hcz13_1
    try clear hcz15_0
    try clear hcz15_1
    try clear hcz17_0
    try clear hcz17_1
    try clear hcz18_0
    try clear hcz18_1
    try clear hcz20_0
    try clear hcz20_1
    try clear hfz10_0
    try clear hfz10_1
    try clear hfz12_0
    try clear hfz12_1
    try clear hfz13_0
    try clear hfz13_1
    try clear hfz15_0
    try clear hfz15_1
    try clear hfz17_0
    try clear hfz17_1
    try clear hfz18_0
    try clear hfz18_1
    try clear hfz20_0
    try clear hfz20_1
    obtain ⟨kq,x33_2,rfl,HA,HJ2,BK230,BK231,HB⟩:=hcut
    cases kq with
    | zero=>exact absurd HA.out (by simp [impl_ProofOk.j0])
    | succ kj2 =>
      have H:=HA.out
      clear HA
      simp only [impl_ProofOk.j0] at H
      by_cases c22 : x33_2 = true
      · subst c22
        have H1 : (some false) = some r:=by rw [if_pos rfl] at H;exact H
        clear H
        have H:=H1
        clear H1
        obtain rfl:=Option.some.inj H
        go_wp2
        go_ret
        exact ⟨by first|rfl|(simp [errW_none,errW_some] <;> rfl)|(simp [*,errW_none,errW_some] <;> rfl),by repeat (first|(with_reducible first|exact HB.out|apply qf|apply qa|apply qd|refine qg ?_ GE230.out|refine qg ?_ GE231.out)|exact HB.out)⟩
      · replace c22:=Bool.eq_false_iff.mpr c22
        subst c22
        have H1 : (impl_ProofOk.l0 kj2 l1_0 (l1_0.length : Int) 0 a0_0 l0_1 l1_0 l1_1) = some r:=by rw [if_neg (show ¬ (false = true) by decide)] at H;exact H
        clear H
        have H:=H1
        clear H1
        have H':=qn.mk H
        clear H
        have hnb23:=NB231_230.out
        have hnc23:=NB230_231.out
        have hcz24_0 : wc.cell? ⟨gb231,0,none⟩ = some (.slice A1_0 l1_0.length c1_0):=(qh BK231.out 0).trans rfl
        have hcz24_1 : wc.cell? ⟨gb231,1,none⟩ = some (.slice A1_1 l1_1.length c1_1):=(qh BK231.out 1).trans rfl
        have hfz24_0:=qi BK231.out 0
        have hfz24_1:=qi BK231.out 1
        go_wp2
        go_loopg [37] kj2 (fun kq v37 w'=>∃ (x37_2 : Int),v37 = .int .i64 x37_2 ∧ qn (impl_ProofOk.l0 kq l1_0 (l1_0.length : Int) x37_2 a0_0 l0_1 l1_0 l1_1 = some r) ∧ qn (kq ≤ kj2) ∧ qn (w'.heap[gb230]? = some (.cells #[.int .i64 a0_0,(.slice A0_1 l0_1.length c0_1)] 61 (0,0))) ∧ qn (w'.heap[gb231]? = some (.cells #[(.slice A1_0 l1_0.length c1_0),(.slice A1_1 l1_1.length c1_1)] 65 (0,0))) ∧ qn (Below w.heap.size w w'))
        case atStart=>exact ⟨(0),(by first|rfl|(simp;done)|(simp [*];done)),H',⟨Nat.le_refl _⟩,⟨by (with_reducible repeat (first|refine qb ?_ _|refine qe ?_|refine qc ?_ _));exact BK230.out⟩,⟨by (with_reducible repeat (first|refine qb ?_ _|refine qe ?_|refine qc ?_ _));exact BK231.out⟩,⟨by repeat (first|(with_reducible first|exact HB.out|apply qf|apply qa|apply qd|refine qg ?_ GE230.out|refine qg ?_ GE231.out)|exact HB.out)⟩⟩
        case round =>
          clear H'
          try clear c1
          try clear c2
          try clear p2
          try clear c5
          try clear c7
          try clear c8
          try clear c8b0
          try clear c8b1
          try clear c9
          try clear c14
          try clear c19
          try clear c22
          try clear c23
          try clear hcz10_0
          try clear hcz10_1
          try clear hcz12_0
          try clear hcz12_1
          try clear hcz13_0
          try clear hcz13_1
          try clear hcz15_0
          try clear hcz15_1
          try clear hcz17_0
          try clear hcz17_1
          try clear hcz18_0
          try clear hcz18_1
          try clear hcz20_0
          try clear hcz20_1
          try clear hcz24_0
          try clear hcz24_1
          try clear hfz10_0
          try clear hfz10_1
          try clear hfz12_0
          try clear hfz12_1
          try clear hfz13_0
          try clear hfz13_1
          try clear hfz15_0
          try clear hfz15_1
          try clear hfz17_0
          try clear hfz17_1
          try clear hfz18_0
          try clear hfz18_1
          try clear hfz20_0
          try clear hfz20_1
          try clear hfz24_0
          try clear hfz24_1
          try clear p2
          obtain ⟨x37_2,rfl,HA,HK2,BK230,BK231,HB⟩:=hrel
          cases gk with
          | zero=>exact absurd HA.out (by simp [impl_ProofOk.l0])
          | succ k2 =>
            have H:=HA.out
            clear HA
            simp only [impl_ProofOk.l0] at H
            by_cases c25 : x37_2 < (l1_0.length : Int)
            · rw [if_pos c25] at H
              have c25b0 : decide (x37_2 < (l1_0.length : Int)) = true:=decide_eq_true c25
              clear c25
              by_cases c26 : 0 ≤ x37_2
              · rw [if_pos c26] at H
                have c26b0 : decide (0 ≤ x37_2) = true:=decide_eq_true c26
                clear c26
                by_cases c27 : x37_2 < (l1_0.length : Int)
                · rw [if_pos c27] at H
                  have c27b0 : decide (x37_2 < (l1_0.length : Int)) = true:=decide_eq_true c27
                  clear c27
                  replace H:=Option.bind_eq_some_iff.mp H
                  obtain ⟨t234,A280,H⟩:=H
                  replace H : (if t234 = true then (impl_ProofOk.l0 k2 l1_0 (l1_0.length : Int) (wrap64 (x37_2 + 1)) a0_0 l0_1 l1_0 l1_1) else (some false)) = some r:=H
                  have A28:=qn.mk A280
                  clear A280
                  by_cases c29 : t234 = true
                  · subst c29
                    have H1 : (impl_ProofOk.l0 k2 l1_0 (l1_0.length : Int) (wrap64 (x37_2 + 1)) a0_0 l0_1 l1_0 l1_1) = some r:=by rw [if_pos rfl] at H;exact H
                    clear H
                    have H:=H1
                    clear H1
                    have H':=qn.mk H
                    clear H
                    have p233 : 0 ≤ (x37_2 : Int):=of_decide_eq_true (by first|(with_reducible assumption)|assumption)
                    have q233 : x37_2 < (l1_0.length : Int):=of_decide_eq_true (by first|(with_reducible assumption)|assumption)
                    obtain ⟨ad233,e233,hx233_0⟩:=Kd.at_int HR1_0.out x37_2 p233 q233
                    cases e233
                    replace hx233_0:=cb_ HB hx233_0
                    replace p233:=eq_true p233
                    replace q233:=eq_true q233
                    go_wp2_with (first|((with_reducible refine gate_callee (f:=28) rfl ?_);refine goesL_ (some 42) rfl rfl Try.func28 (by kernel_rfl) rfl #[.int .i64 (rd l1_0 x37_2),.int .i64 0,.int .i64 1000000000] rfl (by (try simp only [List.map_toArray,List.map_cons,List.map_nil]);first|done|rfl|(simp only [List.length_drop,List.length_take];rfl)) ?_;(with_reducible refine (impl_in.calls (rd l1_0 x37_2) 0 1000000000 true _ A28.out).mono ?_);rintro e w' ⟨rfl,⟨nd,rfl⟩⟩;refine ⟨_,rfl,?_⟩))
                    go_roundg k2
                    case measure=>have:=HJ2.out;have:=HK2.out;omega
                    case rel=>exact ⟨(wrap64 (x37_2 + 1)),(by first|rfl|(simp;done)|(simp [*];done)),H',⟨by have:=HJ2.out;have:=HK2.out;omega⟩,⟨by (with_reducible repeat (first|refine qb ?_ _|refine qe ?_|refine qc ?_ _));exact BK230.out⟩,⟨by (with_reducible repeat (first|refine qb ?_ _|refine qe ?_|refine qc ?_ _));exact BK231.out⟩,⟨by repeat (first|(with_reducible first|exact HB.out|apply qf|apply qa|apply qd|refine qg ?_ GE230.out|refine qg ?_ GE231.out)|exact HB.out)⟩⟩
                  · replace c29:=Bool.eq_false_iff.mpr c29
                    subst c29
                    have H1 : (some false) = some r:=by rw [if_neg (show ¬ (false = true) by decide)] at H;exact H
                    clear H
                    have H:=H1
                    clear H1
                    obtain rfl:=Option.some.inj H
                    have p233 : 0 ≤ (x37_2 : Int):=of_decide_eq_true (by first|(with_reducible assumption)|assumption)
                    have q233 : x37_2 < (l1_0.length : Int):=of_decide_eq_true (by first|(with_reducible assumption)|assumption)
                    obtain ⟨ad233,e233,hx233_0⟩:=Kd.at_int HR1_0.out x37_2 p233 q233
                    cases e233
                    replace hx233_0:=cb_ HB hx233_0
                    replace p233:=eq_true p233
                    replace q233:=eq_true q233
                    go_wp2_with (first|((with_reducible refine gate_callee (f:=28) rfl ?_);refine goesL_ (some 42) rfl rfl Try.func28 (by kernel_rfl) rfl #[.int .i64 (rd l1_0 x37_2),.int .i64 0,.int .i64 1000000000] rfl (by (try simp only [List.map_toArray,List.map_cons,List.map_nil]);first|done|rfl|(simp only [List.length_drop,List.length_take];rfl)) ?_;(with_reducible refine (impl_in.calls (rd l1_0 x37_2) 0 1000000000 false _ A28.out).mono ?_);rintro e w' ⟨rfl,⟨nd,rfl⟩⟩;refine ⟨_,rfl,?_⟩))
                    go_ret
                    exact ⟨by first|rfl|(simp [errW_none,errW_some] <;> rfl)|(simp [*,errW_none,errW_some] <;> rfl),by repeat (first|(with_reducible first|exact HB.out|apply qf|apply qa|apply qd|refine qg ?_ GE230.out|refine qg ?_ GE231.out)|exact HB.out)⟩
                · rw [if_neg c27] at H
                  exact absurd H (by simp)
              · rw [if_neg c26] at H
                exact absurd H (by simp)
            · rw [if_neg c25] at H
              have c25b0 : decide (x37_2 < (l1_0.length : Int)) = false:=decide_eq_false c25
              clear c25
              have H':=qn.mk H
              clear H
              have hnb30:=NB231_230.out
              have hnc30:=NB230_231.out
              have hcz31_0 : wr.cell? ⟨gb231,0,none⟩ = some (.slice A1_0 l1_0.length c1_0):=(qh BK231.out 0).trans rfl
              have hcz31_1 : wr.cell? ⟨gb231,1,none⟩ = some (.slice A1_1 l1_1.length c1_1):=(qh BK231.out 1).trans rfl
              have hfz31_0:=qi BK231.out 0
              have hfz31_1:=qi BK231.out 1
              go_wp2
              go_loopg [48] k2 (fun kq v48 w'=>∃ (x48_3 : Int),v48 = .int .i64 x48_3 ∧ qn (impl_ProofOk.l1 kq l1_1 (l1_1.length : Int) x48_3 a0_0 l0_1 l1_0 l1_1 = some r) ∧ qn (kq ≤ k2) ∧ qn (w'.heap[gb230]? = some (.cells #[.int .i64 a0_0,(.slice A0_1 l0_1.length c0_1)] 61 (0,0))) ∧ qn (w'.heap[gb231]? = some (.cells #[(.slice A1_0 l1_0.length c1_0),(.slice A1_1 l1_1.length c1_1)] 65 (0,0))) ∧ qn (Below w.heap.size w w'))
              case atStart=>exact ⟨(0),(by first|rfl|(simp;done)|(simp [*];done)),H',⟨Nat.le_refl _⟩,⟨by (with_reducible repeat (first|refine qb ?_ _|refine qe ?_|refine qc ?_ _));exact BK230.out⟩,⟨by (with_reducible repeat (first|refine qb ?_ _|refine qe ?_|refine qc ?_ _));exact BK231.out⟩,⟨by repeat (first|(with_reducible first|exact HB.out|apply qf|apply qa|apply qd|refine qg ?_ GE230.out|refine qg ?_ GE231.out)|exact HB.out)⟩⟩
              case round =>
                clear H'
                try clear c1
                try clear c2
                try clear p2
                try clear q2
                try clear hx2
                try clear c3
                try clear c5
                try clear p6
                try clear c7
                try clear c8
                try clear c8b0
                try clear c8b1
                try clear c9
                try clear c14
                try clear c19
                try clear c22
                try clear c23
                try clear p23
                try clear q23
                try clear hx23
                try clear c25
                try clear c25b0
                try clear c26
                try clear c26b0
                try clear c27
                try clear c27b0
                try clear c28
                try clear c29
                try clear c30
                try clear hcz10_0
                try clear hcz10_1
                try clear hcz12_0
                try clear hcz12_1
                try clear hcz13_0
                try clear hcz13_1
                try clear hcz15_0
                try clear hcz15_1
                try clear hcz17_0
                try clear hcz17_1
                try clear hcz18_0
                try clear hcz18_1
                try clear hcz20_0
                try clear hcz20_1
                try clear hcz24_0
                try clear hcz24_1
                try clear hcz31_0
                try clear hcz31_1
                try clear hfz10_0
                try clear hfz10_1
                try clear hfz12_0
                try clear hfz12_1
                try clear hfz13_0
                try clear hfz13_1
                try clear hfz15_0
                try clear hfz15_1
                try clear hfz17_0
                try clear hfz17_1
                try clear hfz18_0
                try clear hfz18_1
                try clear hfz20_0
                try clear hfz20_1
                try clear hfz24_0
                try clear hfz24_1
                try clear hfz31_0
                try clear hfz31_1
                try clear hx233_0
                try clear p2
                try clear p233
                try clear q233
                obtain ⟨x48_3,rfl,HA,HK3,BK230,BK231,HB⟩:=hrel
                cases gk with
                | zero=>exact absurd HA.out (by simp [impl_ProofOk.l1])
                | succ k3 =>
                  have H:=HA.out
                  clear HA
                  simp only [impl_ProofOk.l1] at H
                  by_cases c32 : x48_3 < (l1_1.length : Int)
                  · rw [if_pos c32] at H
                    have c32b0 : decide (x48_3 < (l1_1.length : Int)) = true:=decide_eq_true c32
                    clear c32
                    by_cases c33 : 0 ≤ x48_3
                    · rw [if_pos c33] at H
                      have c33b0 : decide (0 ≤ x48_3) = true:=decide_eq_true c33
                      clear c33
                      by_cases c34 : x48_3 < (l1_1.length : Int)
                      · rw [if_pos c34] at H
                        have c34b0 : decide (x48_3 < (l1_1.length : Int)) = true:=decide_eq_true c34
                        clear c34
                        replace H:=Option.bind_eq_some_iff.mp H
                        obtain ⟨t237,A350,H⟩:=H
                        replace H : (if t237 = true then (if x48_3 ≤ (l1_1.length : Int) then ((some (l1_1.take (x48_3 : Int).toNat : List (S97))).bind fun y238=>(impl_ProofOk.l2 k3 l1_1 (l1_1.length : Int) x48_3 y238 (y238.length : Int) 0 a0_0 l0_1 l1_0 l1_1 ((rd_T97 l1_1 x48_3).f0) ((rd_T97 l1_1 x48_3).f1))) else (none)) else (some false)) = some r:=H
                        have A35:=qn.mk A350
                        clear A350
                        by_cases c36 : t237 = true
                        · subst c36
                          have H1 : (if x48_3 ≤ (l1_1.length : Int) then ((some (l1_1.take (x48_3 : Int).toNat : List (S97))).bind fun y238=>(impl_ProofOk.l2 k3 l1_1 (l1_1.length : Int) x48_3 y238 (y238.length : Int) 0 a0_0 l0_1 l1_0 l1_1 ((rd_T97 l1_1 x48_3).f0) ((rd_T97 l1_1 x48_3).f1))) else (none)) = some r:=by rw [if_pos rfl] at H;exact H
                          clear H
                          have H:=H1
                          clear H1
                          have c37b0:=eq_true (of_decide_eq_true (by first|(with_reducible assumption)|assumption) : 0 ≤ x48_3)
                          by_cases c38 : x48_3 ≤ (l1_1.length : Int)
                          · rw [if_pos c38] at H
                            have c38b0:=eq_true c38
                            have c38b1 : decide (x48_3 ≤ (l1_1.length : Int)) = true:=decide_eq_true c38
                            clear c38
                            obtain ⟨y238,hy238⟩ : ∃ y_ : List (S97),y_ = (l1_1.take (x48_3 : Int).toNat):=⟨_,rfl⟩
                            replace H : (impl_ProofOk.l2 k3 l1_1 (l1_1.length : Int) x48_3 y238 (y238.length : Int) 0 a0_0 l0_1 l1_0 l1_1 ((rd_T97 l1_1 x48_3).f0) ((rd_T97 l1_1 x48_3).f1)) = some r:=by first|(rw [hy238];with_reducible exact H)|(have H2_:=(Option.bind_some _ _).symm.trans H;rw [hy238];with_reducible exact H2_)|(have H2_:=(Option.bind_some _ _).symm.trans H;with_reducible exact H2_)|with_reducible exact H|(rw [hy238];exact H)|exact H
                            have Ny238:=qn.mk hy238
                            clear hy238
                            have H':=qn.mk H
                            clear H
                            have p235 : 0 ≤ (x48_3 : Int):=of_decide_eq_true (by first|(with_reducible assumption)|assumption)
                            have q235 : x48_3 < (l1_1.length : Int):=of_decide_eq_true (by first|(with_reducible assumption)|assumption)
                            obtain ⟨ad235,A235_0,c235_0,e235,hx235_0,hx235_1,hl235_0,hi235_0⟩:=at_T97 HR1_1.out x48_3 p235 q235
                            cases e235
                            replace hx235_0:=cb_ HB hx235_0
                            replace hx235_1:=cb_ HB hx235_1
                            have HR235_0:=qn.mk hi235_0
                            have HC235_0:=qn.mk hl235_0
                            clear hi235_0 hl235_0
                            replace p235:=eq_true p235
                            replace q235:=eq_true q235
                            go_wp2_with (first|((with_reducible refine gate_dst (N:=8) rfl ?_);(try (refine gate_guard (by rfl) ?_;dsimp only));refine box_event ?hg (N:=8) ?hd (cs:=#[.slice none 0 0,.int .i64 0]) (t:=97) ?hr ?_;(case hd=>rfl);(case hg=>rfl);(case hr=>first|(go_simp;done)|(go_simp;rfl));intro gb236 hg w39 hbox hb;have n0_:=bb_ BK230 hb;have n1_:=bb_ BK231 hb;have n2_:=hs_ HB hb;have n3_:=qn.mk (hbox);have n4_:=qn.mk ((by rw [hg];exact (qj (by repeat (first|(with_reducible first|exact HB.out|apply qf|apply qa|apply qd|refine qg ?_ GE230.out|refine qg ?_ GE231.out)|exact HB.out))) : w.heap.size ≤ gb236));have n5_:=qn.mk ((by rw [hg];exact (qj (by repeat (first|(with_reducible first|exact HB.out|apply qf|apply qa|apply qd|refine qg ?_ GE230.out|refine qg ?_ GE231.out)|exact HB.out))) : w.heap.size ≤ gb236));have n6_:=qn.mk ((by rw [hg];exact nl_ BK230 : gb230 ≠ gb236));have n7_:=qn.mk ((by rw [hg];exact ng_ BK230 : gb236 ≠ gb230));have n8_:=qn.mk ((by rw [hg];exact nl_ BK231 : gb231 ≠ gb236));have n9_:=qn.mk ((by rw [hg];exact ng_ BK231 : gb236 ≠ gb231));clear BK230;clear BK231;clear HB;have BK230:=n0_;have BK231:=n1_;have HB:=n2_;have BK236:=n3_;have GW236:=n4_;have GE236:=n5_;have NB230_236:=n6_;have NB236_230:=n7_;have NB231_236:=n8_;have NB236_231:=n9_;clear n0_ n1_ n2_ n3_ n4_ n5_ n6_ n7_ n8_ n9_;clear hb hbox hg;have hnb40:=NB236_230.out;have hnc40:=NB230_236.out;have hnb41:=NB236_231.out;have hnc41:=NB231_236.out;have hcz42_0 : w39.cell? ⟨gb236,0,none⟩ = some (.slice none 0 0):=(qh BK236.out 0).trans rfl;have hcz42_1 : w39.cell? ⟨gb236,1,none⟩ = some (.int .i64 0):=(qh BK236.out 1).trans rfl;have hfz42_0:=qi BK236.out 0;have hfz42_1:=qi BK236.out 1;have hnb43:=NB230_231.out;have hnc43:=NB231_230.out;have hcz44_0 : w39.cell? ⟨gb230,0,none⟩ = some (.int .i64 a0_0):=(qh BK230.out 0).trans rfl;have hcz44_1 : w39.cell? ⟨gb230,1,none⟩ = some (.slice A0_1 l0_1.length c0_1):=(qh BK230.out 1).trans rfl;have hfz44_0:=qi BK230.out 0;have hfz44_1:=qi BK230.out 1)|((with_reducible refine gate_callee (f:=58) rfl ?_);refine goesL_ (some 55) rfl rfl Try.func58 (by kernel_rfl) rfl #[.agg #[.int .i64 a0_0,.slice A0_1 l0_1.length c0_1],.agg #[.slice A235_0 ((rd_T97 l1_1 x48_3).f0).length c235_0,.int .i64 ((rd_T97 l1_1 x48_3).f1)]] rfl (by (try simp only [List.map_toArray,List.map_cons,List.map_nil]);first|done|rfl|(simp only [List.length_drop,List.length_take];rfl)) ?_;(with_reducible refine (impl_groupOk.calls k3 a0_0 _ _ l0_1 _ _ ((rd_T97 l1_1 x48_3).f0) ((rd_T97 l1_1 x48_3).f1) true _ ?side1 ?side2 ?side3 ?side4 A35.out).mono ?_);(case side1=>exact Kd.C_below HR0_1.out (by repeat (first|(with_reducible first|exact HB.out|apply qf|apply qa|apply qd|refine qg ?_ GE230.out|refine qg ?_ GE231.out|refine qg ?_ GE236.out)|exact HB.out)));(case side2=>exact HC0_1.out);(case side3=>exact Kd.C_below HR235_0.out (by repeat (first|(with_reducible first|exact HB.out|apply qf|apply qa|apply qd|refine qg ?_ GE230.out|refine qg ?_ GE231.out|refine qg ?_ GE236.out)|exact HB.out)));(case side4=>exact HC235_0.out);rintro e w45 ⟨rfl,hb⟩;refine ⟨_,rfl,?_⟩;have n0_:=qn.mk (ql (g:=gb230) (o:=.cells #[.int .i64 a0_0,.slice A0_1 l0_1.length c0_1] 61 (0,0)) (by (with_reducible repeat (first|refine qb ?_ _|refine qe ?_|refine qc ?_ _));refine blk_far ?_ NB230_236.out _;(with_reducible repeat (first|refine qb ?_ _|refine qe ?_|refine qc ?_ _));refine blk_far ?_ NB230_236.out _;(with_reducible repeat (first|refine qb ?_ _|refine qe ?_|refine qc ?_ _));exact BK230.out) hb);have n1_:=qn.mk (ql (g:=gb231) (o:=.cells #[.slice A1_0 l1_0.length c1_0,.slice (some ad235) l1_1.length c1_1] 65 (0,0)) (by (with_reducible repeat (first|refine qb ?_ _|refine qe ?_|refine qc ?_ _));refine blk_far ?_ NB231_236.out _;(with_reducible repeat (first|refine qb ?_ _|refine qe ?_|refine qc ?_ _));refine blk_far ?_ NB231_236.out _;(with_reducible repeat (first|refine qb ?_ _|refine qe ?_|refine qc ?_ _));exact BK231.out) hb);have n2_:=qn.mk (ql (g:=gb236) (o:=.cells #[.slice A235_0 ((rd_T97 l1_1 x48_3).f0).length c235_0,.int .i64 ((rd_T97 l1_1 x48_3).f1)] 97 (0,0)) (by (with_reducible repeat (first|refine qb ?_ _|refine qe ?_|refine qc ?_ _));refine blk_put (cs:=#[.slice A235_0 ((rd_T97 l1_1 x48_3).f0).length c235_0,.int .i64 0]) ?_ 1 _ rfl;(with_reducible repeat (first|refine qb ?_ _|refine qe ?_|refine qc ?_ _));refine blk_put (cs:=#[.slice none 0 0,.int .i64 0]) ?_ 0 _ rfl;(with_reducible repeat (first|refine qb ?_ _|refine qe ?_|refine qc ?_ _));exact BK236.out) hb);have n3_:=hs_ HB hb;clear BK230;clear BK231;clear BK236;clear HB;have BK230:=n0_;have BK231:=n1_;have BK236:=n2_;have HB:=n3_;clear n0_ n1_ n2_ n3_;(try clear hb);(try clear hb2);(try clear hk);(try clear hi);have hcz46_0 : w45.cell? ⟨gb231,0,none⟩ = some (.slice A1_0 l1_0.length c1_0):=(qh BK231.out 0).trans rfl;have hcz46_1 : w45.cell? ⟨gb231,1,none⟩ = some (.slice (some ad235) l1_1.length c1_1):=(qh BK231.out 1).trans rfl;have hfz46_0:=qi BK231.out 0;have hfz46_1:=qi BK231.out 1;have q47 : (x48_3 : Int) ≤ ((l1_1.length : Int) : Int):=of_decide_eq_true (by first|(with_reducible assumption)|assumption);obtain ⟨i047,hi047,_,hsz47,_⟩:=info_parts info97;have hroom47 : l1_1.length ≤ c1_1:=HC1_1.out;have hC47 : Kd.C k97 _ (some ad235) l1_1.length l1_1:=HR1_1.out;have hcut47:=cut_to (P:=Try.prog) 63 97 .i64 Try.underlying63 hi047 (some ad235) l1_1.length c1_1 x48_3 (of_decide_eq_true (by first|(with_reducible assumption)|assumption)) q47 hroom47;have hr47:=Kd.C_take (m:=(x48_3 : Int).toNat) hC47 (by omega);have hy47 : y238.length = (x48_3 : Int).toNat:=(by rw [Ny238.out,List.length_take];omega);rw [← Ny238.out] at hr47;rw [← hy47] at hcut47;have HR241:=qn.mk hr47;have HC241:=qn.mk (show y238.length ≤ c1_1 from by omega);clear hr47 hC47 hroom47 hi047 hsz47;have KY47:=qn.mk hy47;clear hy47;replace q47:=eq_true q47))
                            go_loopg [62] k3 (fun kq v62 w'=>∃ (x62_4 : Int),v62 = .int .i64 x62_4 ∧ qn (impl_ProofOk.l2 kq l1_1 (l1_1.length : Int) x48_3 y238 (y238.length : Int) x62_4 a0_0 l0_1 l1_0 l1_1 ((rd_T97 l1_1 x48_3).f0) ((rd_T97 l1_1 x48_3).f1) = some r) ∧ qn (kq ≤ k3) ∧ qn (w'.heap[gb230]? = some (.cells #[.int .i64 a0_0,(.slice A0_1 l0_1.length c0_1)] 61 (0,0))) ∧ qn (w'.heap[gb231]? = some (.cells #[(.slice A1_0 l1_0.length c1_0),(.slice (some ad235) l1_1.length c1_1)] 65 (0,0))) ∧ qn (w'.heap[gb236]? = some (.cells #[(.slice A235_0 ((rd_T97 l1_1 x48_3).f0).length c235_0),.int .i64 ((rd_T97 l1_1 x48_3).f1)] 97 (0,0))) ∧ qn (Below w.heap.size w w'))
                            case atStart=>exact ⟨(0),(by first|rfl|(simp;done)|(simp [*];done)),H',⟨Nat.le_refl _⟩,⟨by (with_reducible repeat (first|refine qb ?_ _|refine qe ?_|refine qc ?_ _));exact BK230.out⟩,⟨by (with_reducible repeat (first|refine qb ?_ _|refine qe ?_|refine qc ?_ _));exact BK231.out⟩,⟨by (with_reducible repeat (first|refine qb ?_ _|refine qe ?_|refine qc ?_ _));exact BK236.out⟩,⟨by repeat (first|(with_reducible first|exact HB.out|apply qf|apply qa|apply qd|refine qg ?_ GE230.out|refine qg ?_ GE231.out|refine qg ?_ GE236.out)|exact HB.out)⟩⟩
                            case round =>
                              clear H'
                              try clear c1
                              try clear c2
                              try clear p2
                              try clear q2
                              try clear hx2
                              try clear c3
                              try clear c4
                              try clear q4
                              try clear c5
                              try clear p6
                              try clear c7
                              try clear c8
                              try clear c8b0
                              try clear c8b1
                              try clear c9
                              try clear c14
                              try clear c19
                              try clear c22
                              try clear c23
                              try clear p23
                              try clear q23
                              try clear hx23
                              try clear c25
                              try clear c25b0
                              try clear c26
                              try clear c26b0
                              try clear c27
                              try clear c27b0
                              try clear c28
                              try clear c29
                              try clear c30
                              try clear c32
                              try clear c32b0
                              try clear c33
                              try clear c33b0
                              try clear c34
                              try clear c34b0
                              try clear c36
                              try clear c37
                              try clear c37b0
                              try clear c38
                              try clear c38b0
                              try clear c38b1
                              try clear c40
                              try clear c41
                              try clear c43
                              try clear q47
                              try clear hcz10_0
                              try clear hcz10_1
                              try clear hcz12_0
                              try clear hcz12_1
                              try clear hcz13_0
                              try clear hcz13_1
                              try clear hcz15_0
                              try clear hcz15_1
                              try clear hcz17_0
                              try clear hcz17_1
                              try clear hcz18_0
                              try clear hcz18_1
                              try clear hcz20_0
                              try clear hcz20_1
                              try clear hcz24_0
                              try clear hcz24_1
                              try clear hcz31_0
                              try clear hcz31_1
                              try clear hcz42_0
                              try clear hcz42_1
                              try clear hcz44_0
                              try clear hcz44_1
                              try clear hcz46_0
                              try clear hcz46_1
                              try clear hfz10_0
                              try clear hfz10_1
                              try clear hfz12_0
                              try clear hfz12_1
                              try clear hfz13_0
                              try clear hfz13_1
                              try clear hfz15_0
                              try clear hfz15_1
                              try clear hfz17_0
                              try clear hfz17_1
                              try clear hfz18_0
                              try clear hfz18_1
                              try clear hfz20_0
                              try clear hfz20_1
                              try clear hfz24_0
                              try clear hfz24_1
                              try clear hfz31_0
                              try clear hfz31_1
                              try clear hfz42_0
                              try clear hfz42_1
                              try clear hfz44_0
                              try clear hfz44_1
                              try clear hfz46_0
                              try clear hfz46_1
                              try clear hx233_0
                              try clear hx235_0
                              try clear hx235_1
                              try clear p2
                              try clear p23
                              try clear p233
                              try clear p235
                              try clear p6
                              try clear q2
                              try clear q23
                              try clear q233
                              try clear q235
                              try clear q47
                              obtain ⟨x62_4,rfl,HA,HK4,BK230,BK231,BK236,HB⟩:=hrel
                              cases gk with
                              | zero=>exact absurd HA.out (by simp [impl_ProofOk.l2])
                              | succ k4 =>
                                have H:=HA.out
                                clear HA
                                simp only [impl_ProofOk.l2] at H
                                by_cases c48 : x62_4 < (y238.length : Int)
                                · rw [if_pos c48] at H
                                  have c48b0 : decide (x62_4 < (y238.length : Int)) = true:=decide_eq_true c48
                                  clear c48
                                  by_cases c49 : 0 ≤ x62_4
                                  · rw [if_pos c49] at H
                                    have c49b0 : decide (0 ≤ x62_4) = true:=decide_eq_true c49
                                    clear c49
                                    by_cases c50 : x62_4 < (y238.length : Int)
                                    · rw [if_pos c50] at H
                                      have c50b0 : decide (x62_4 < (y238.length : Int)) = true:=decide_eq_true c50
                                      clear c50
                                      replace H:=Option.bind_eq_some_iff.mp H
                                      obtain ⟨⟨t244,t245⟩,A510,H⟩:=H
                                      replace H : ((impl_within.f k4 ((rd_T97 y238 x62_4).f0) ((rd_T97 l1_1 x48_3).f0)).bind fun bt246=>(if t244 = true then (impl_ProofOk.l2 k4 l1_1 (l1_1.length : Int) x48_3 y238 (y238.length : Int) (wrap64 (x62_4 + 1)) a0_0 l0_1 l1_0 l1_1 ((rd_T97 l1_1 x48_3).f0) ((rd_T97 l1_1 x48_3).f1)) else (if t245 = true then (impl_ProofOk.l2 k4 l1_1 (l1_1.length : Int) x48_3 y238 (y238.length : Int) (wrap64 (x62_4 + 1)) a0_0 l0_1 l1_0 l1_1 ((rd_T97 l1_1 x48_3).f0) ((rd_T97 l1_1 x48_3).f1)) else (if bt246.1 = true then (impl_ProofOk.l2 k4 l1_1 (l1_1.length : Int) x48_3 y238 (y238.length : Int) (wrap64 (x62_4 + 1)) a0_0 l0_1 l1_0 l1_1 ((rd_T97 l1_1 x48_3).f0) ((rd_T97 l1_1 x48_3).f1)) else (some false))))) = some r:=H
                                      have A51:=qn.mk A510
                                      clear A510
                                      replace H:=Option.bind_eq_some_iff.mp H
                                      obtain ⟨⟨t246,t247⟩,A520,H⟩:=H
                                      replace H : (if t244 = true then (impl_ProofOk.l2 k4 l1_1 (l1_1.length : Int) x48_3 y238 (y238.length : Int) (wrap64 (x62_4 + 1)) a0_0 l0_1 l1_0 l1_1 ((rd_T97 l1_1 x48_3).f0) ((rd_T97 l1_1 x48_3).f1)) else (if t245 = true then (impl_ProofOk.l2 k4 l1_1 (l1_1.length : Int) x48_3 y238 (y238.length : Int) (wrap64 (x62_4 + 1)) a0_0 l0_1 l1_0 l1_1 ((rd_T97 l1_1 x48_3).f0) ((rd_T97 l1_1 x48_3).f1)) else (if t246 = true then (impl_ProofOk.l2 k4 l1_1 (l1_1.length : Int) x48_3 y238 (y238.length : Int) (wrap64 (x62_4 + 1)) a0_0 l0_1 l1_0 l1_1 ((rd_T97 l1_1 x48_3).f0) ((rd_T97 l1_1 x48_3).f1)) else (some false)))) = some r:=H
                                      have A52:=qn.mk A520
                                      clear A520
                                      by_cases c53 : t244 = true
                                      · subst c53
                                        have H1 : (impl_ProofOk.l2 k4 l1_1 (l1_1.length : Int) x48_3 y238 (y238.length : Int) (wrap64 (x62_4 + 1)) a0_0 l0_1 l1_0 l1_1 ((rd_T97 l1_1 x48_3).f0) ((rd_T97 l1_1 x48_3).f1)) = some r:=by rw [if_pos rfl] at H;exact H
                                        clear H
                                        have H:=H1
                                        clear H1
                                        have H':=qn.mk H
                                        clear H
                                        have p242 : 0 ≤ (x62_4 : Int):=of_decide_eq_true (by first|(with_reducible assumption)|assumption)
                                        have q242 : x62_4 < (y238.length : Int):=of_decide_eq_true (by first|(with_reducible assumption)|assumption)
                                        obtain ⟨ad242,A242_0,c242_0,e242,hx242_0,hx242_1,hl242_0,hi242_0⟩:=at_T97 HR241.out x62_4 p242 q242
                                        obtain rfl : ad235 = ad242:=(by injection e242)
                                        replace hx242_0:=cb_ HB hx242_0
                                        replace hx242_1:=cb_ HB hx242_1
                                        have HR242_0:=qn.mk hi242_0
                                        have HC242_0:=qn.mk hl242_0
                                        clear hi242_0 hl242_0
                                        replace p242:=eq_true p242
                                        replace q242:=eq_true q242
                                        go_wp2_with (first|((with_reducible refine gate_dst (N:=10) rfl ?_);(try (refine gate_guard (by rfl) ?_;dsimp only));refine box_event ?hg (N:=10) ?hd (cs:=#[.slice none 0 0,.int .i64 0]) (t:=97) ?hr ?_;(case hd=>rfl);(case hg=>rfl);(case hr=>first|(go_simp;done)|(go_simp;rfl));intro gb243 hg w54 hbox hb;have n0_:=bb_ BK230 hb;have n1_:=bb_ BK231 hb;have n2_:=bb_ BK236 hb;have n3_:=hs_ HB hb;have n4_:=qn.mk (hbox);have n5_:=qn.mk ((by rw [hg];exact (qj (by repeat (first|(with_reducible first|exact HB.out|apply qf|apply qa|apply qd|refine qg ?_ GE230.out|refine qg ?_ GE231.out|refine qg ?_ GE236.out)|exact HB.out))) : w.heap.size ≤ gb243));have n6_:=qn.mk ((by rw [hg];exact (qj (by repeat (first|(with_reducible first|exact HB.out|apply qf|apply qa|apply qd|refine qg ?_ GE230.out|refine qg ?_ GE231.out|refine qg ?_ GE236.out)|exact HB.out))) : w.heap.size ≤ gb243));have n7_:=qn.mk ((by rw [hg];exact nl_ BK230 : gb230 ≠ gb243));have n8_:=qn.mk ((by rw [hg];exact ng_ BK230 : gb243 ≠ gb230));have n9_:=qn.mk ((by rw [hg];exact nl_ BK231 : gb231 ≠ gb243));have n10_:=qn.mk ((by rw [hg];exact ng_ BK231 : gb243 ≠ gb231));have n11_:=qn.mk ((by rw [hg];exact nl_ BK236 : gb236 ≠ gb243));have n12_:=qn.mk ((by rw [hg];exact ng_ BK236 : gb243 ≠ gb236));clear BK230;clear BK231;clear BK236;clear HB;have BK230:=n0_;have BK231:=n1_;have BK236:=n2_;have HB:=n3_;have BK243:=n4_;have GW243:=n5_;have GE243:=n6_;have NB230_243:=n7_;have NB243_230:=n8_;have NB231_243:=n9_;have NB243_231:=n10_;have NB236_243:=n11_;have NB243_236:=n12_;clear n0_ n1_ n2_ n3_ n4_ n5_ n6_ n7_ n8_ n9_ n10_ n11_ n12_;clear hb hbox hg;have hnb55:=NB243_230.out;have hnc55:=NB230_243.out;have hnb56:=NB243_231.out;have hnc56:=NB231_243.out;have hnb57:=NB243_236.out;have hnc57:=NB236_243.out;have hcz58_0 : w54.cell? ⟨gb243,0,none⟩ = some (.slice none 0 0):=(qh BK243.out 0).trans rfl;have hcz58_1 : w54.cell? ⟨gb243,1,none⟩ = some (.int .i64 0):=(qh BK243.out 1).trans rfl;have hfz58_0:=qi BK243.out 0;have hfz58_1:=qi BK243.out 1;have hnb59:=NB236_230.out;have hnc59:=NB230_236.out;have hnb60:=NB236_231.out;have hnc60:=NB231_236.out;have hcz61_0 : w54.cell? ⟨gb236,0,none⟩ = some (.slice A235_0 ((rd_T97 l1_1 x48_3).f0).length c235_0):=(qh BK236.out 0).trans rfl;have hcz61_1 : w54.cell? ⟨gb236,1,none⟩ = some (.int .i64 ((rd_T97 l1_1 x48_3).f1)):=(qh BK236.out 1).trans rfl;have hfz61_0:=qi BK236.out 0;have hfz61_1:=qi BK236.out 1)|((with_reducible refine gate_callee (f:=59) rfl ?_);refine goesL_ (some 71) rfl rfl Try.func59 (by kernel_rfl) rfl #[.slice A235_0 ((rd_T97 l1_1 x48_3).f0).length c235_0,.slice A242_0 ((rd_T97 y238 x62_4).f0).length c242_0] rfl (by (try simp only [List.map_toArray,List.map_cons,List.map_nil]);first|done|rfl|(simp only [List.length_drop,List.length_take];rfl)) ?_;(with_reducible refine (impl_within.calls k4 _ _ ((rd_T97 l1_1 x48_3).f0) _ _ ((rd_T97 y238 x62_4).f0) true t245 _ ?side1 ?side2 ?side3 ?side4 A51.out).mono ?_);(case side1=>exact Kd.C_below HR235_0.out (by repeat (first|(with_reducible first|exact HB.out|apply qf|apply qa|apply qd|refine qg ?_ GE230.out|refine qg ?_ GE231.out|refine qg ?_ GE236.out|refine qg ?_ GE243.out)|exact HB.out)));(case side2=>exact HC235_0.out);(case side3=>exact Kd.C_below HR242_0.out (by repeat (first|(with_reducible first|exact HB.out|apply qf|apply qa|apply qd|refine qg ?_ GE230.out|refine qg ?_ GE231.out|refine qg ?_ GE236.out|refine qg ?_ GE243.out)|exact HB.out)));(case side4=>exact HC242_0.out);rintro e w' ⟨rfl,⟨nd,rfl⟩⟩;refine ⟨_,rfl,?_⟩)|((with_reducible refine gate_callee (f:=59) rfl ?_);refine goesL_ (some 79) rfl rfl Try.func59 (by kernel_rfl) rfl #[.slice A242_0 ((rd_T97 y238 x62_4).f0).length c242_0,.slice A235_0 ((rd_T97 l1_1 x48_3).f0).length c235_0] rfl (by (try simp only [List.map_toArray,List.map_cons,List.map_nil]);first|done|rfl|(simp only [List.length_drop,List.length_take];rfl)) ?_;(with_reducible refine (impl_within.calls k4 _ _ ((rd_T97 y238 x62_4).f0) _ _ ((rd_T97 l1_1 x48_3).f0) t246 t247 _ ?side1 ?side2 ?side3 ?side4 A52.out).mono ?_);(case side1=>exact Kd.C_below HR242_0.out (by repeat (first|(with_reducible first|exact HB.out|apply qf|apply qa|apply qd|refine qg ?_ GE230.out|refine qg ?_ GE231.out|refine qg ?_ GE236.out|refine qg ?_ GE243.out)|exact HB.out)));(case side2=>exact HC242_0.out);(case side3=>exact Kd.C_below HR235_0.out (by repeat (first|(with_reducible first|exact HB.out|apply qf|apply qa|apply qd|refine qg ?_ GE230.out|refine qg ?_ GE231.out|refine qg ?_ GE236.out|refine qg ?_ GE243.out)|exact HB.out)));(case side4=>exact HC235_0.out);rintro e w' ⟨rfl,⟨nd,rfl⟩⟩;refine ⟨_,rfl,?_⟩))
                                        go_roundg k4
                                        case measure=>have:=HJ2.out;have:=HK2.out;have:=HK3.out;have:=HK4.out;omega
                                        case rel=>exact ⟨(wrap64 (x62_4 + 1)),(by first|rfl|(simp;done)|(simp [*];done)),H',⟨by have:=HJ2.out;have:=HK2.out;have:=HK3.out;have:=HK4.out;omega⟩,⟨by (with_reducible repeat (first|refine qb ?_ _|refine qe ?_|refine qc ?_ _));refine blk_far ?_ NB230_243.out _;(with_reducible repeat (first|refine qb ?_ _|refine qe ?_|refine qc ?_ _));refine blk_far ?_ NB230_243.out _;(with_reducible repeat (first|refine qb ?_ _|refine qe ?_|refine qc ?_ _));exact BK230.out⟩,⟨by (with_reducible repeat (first|refine qb ?_ _|refine qe ?_|refine qc ?_ _));refine blk_far ?_ NB231_243.out _;(with_reducible repeat (first|refine qb ?_ _|refine qe ?_|refine qc ?_ _));refine blk_far ?_ NB231_243.out _;(with_reducible repeat (first|refine qb ?_ _|refine qe ?_|refine qc ?_ _));exact BK231.out⟩,⟨by (with_reducible repeat (first|refine qb ?_ _|refine qe ?_|refine qc ?_ _));refine blk_far ?_ NB236_243.out _;(with_reducible repeat (first|refine qb ?_ _|refine qe ?_|refine qc ?_ _));refine blk_far ?_ NB236_243.out _;(with_reducible repeat (first|refine qb ?_ _|refine qe ?_|refine qc ?_ _));exact BK236.out⟩,⟨by repeat (first|(with_reducible first|exact HB.out|apply qf|apply qa|apply qd|refine qg ?_ GE230.out|refine qg ?_ GE231.out|refine qg ?_ GE236.out|refine qg ?_ GE243.out)|exact HB.out)⟩⟩
                                      · replace c53:=Bool.eq_false_iff.mpr c53
                                        subst c53
                                        have H1 : (if t245 = true then (impl_ProofOk.l2 k4 l1_1 (l1_1.length : Int) x48_3 y238 (y238.length : Int) (wrap64 (x62_4 + 1)) a0_0 l0_1 l1_0 l1_1 ((rd_T97 l1_1 x48_3).f0) ((rd_T97 l1_1 x48_3).f1)) else (if t246 = true then (impl_ProofOk.l2 k4 l1_1 (l1_1.length : Int) x48_3 y238 (y238.length : Int) (wrap64 (x62_4 + 1)) a0_0 l0_1 l1_0 l1_1 ((rd_T97 l1_1 x48_3).f0) ((rd_T97 l1_1 x48_3).f1)) else (some false))) = some r:=by rw [if_neg (show ¬ (false = true) by decide)] at H;exact H
                                        clear H
                                        have H:=H1
                                        clear H1
                                        by_cases c62 : t245 = true
                                        · subst c62
                                          have H1 : (impl_ProofOk.l2 k4 l1_1 (l1_1.length : Int) x48_3 y238 (y238.length : Int) (wrap64 (x62_4 + 1)) a0_0 l0_1 l1_0 l1_1 ((rd_T97 l1_1 x48_3).f0) ((rd_T97 l1_1 x48_3).f1)) = some r:=by rw [if_pos rfl] at H;exact H
                                          clear H
                                          have H:=H1
                                          clear H1
                                          have H':=qn.mk H
                                          clear H
                                          have p242 : 0 ≤ (x62_4 : Int):=of_decide_eq_true (by first|(with_reducible assumption)|assumption)
                                          have q242 : x62_4 < (y238.length : Int):=of_decide_eq_true (by first|(with_reducible assumption)|assumption)
                                          obtain ⟨ad242,A242_0,c242_0,e242,hx242_0,hx242_1,hl242_0,hi242_0⟩:=at_T97 HR241.out x62_4 p242 q242
                                          obtain rfl : ad235 = ad242:=(by injection e242)
                                          replace hx242_0:=cb_ HB hx242_0
                                          replace hx242_1:=cb_ HB hx242_1
                                          have HR242_0:=qn.mk hi242_0
                                          have HC242_0:=qn.mk hl242_0
                                          clear hi242_0 hl242_0
                                          replace p242:=eq_true p242
                                          replace q242:=eq_true q242
                                          go_wp2_with (first|((with_reducible refine gate_dst (N:=10) rfl ?_);(try (refine gate_guard (by rfl) ?_;dsimp only));refine box_event ?hg (N:=10) ?hd (cs:=#[.slice none 0 0,.int .i64 0]) (t:=97) ?hr ?_;(case hd=>rfl);(case hg=>rfl);(case hr=>first|(go_simp;done)|(go_simp;rfl));intro gb243 hg w63 hbox hb;have n0_:=bb_ BK230 hb;have n1_:=bb_ BK231 hb;have n2_:=bb_ BK236 hb;have n3_:=hs_ HB hb;have n4_:=qn.mk (hbox);have n5_:=qn.mk ((by rw [hg];exact (qj (by repeat (first|(with_reducible first|exact HB.out|apply qf|apply qa|apply qd|refine qg ?_ GE230.out|refine qg ?_ GE231.out|refine qg ?_ GE236.out)|exact HB.out))) : w.heap.size ≤ gb243));have n6_:=qn.mk ((by rw [hg];exact (qj (by repeat (first|(with_reducible first|exact HB.out|apply qf|apply qa|apply qd|refine qg ?_ GE230.out|refine qg ?_ GE231.out|refine qg ?_ GE236.out)|exact HB.out))) : w.heap.size ≤ gb243));have n7_:=qn.mk ((by rw [hg];exact nl_ BK230 : gb230 ≠ gb243));have n8_:=qn.mk ((by rw [hg];exact ng_ BK230 : gb243 ≠ gb230));have n9_:=qn.mk ((by rw [hg];exact nl_ BK231 : gb231 ≠ gb243));have n10_:=qn.mk ((by rw [hg];exact ng_ BK231 : gb243 ≠ gb231));have n11_:=qn.mk ((by rw [hg];exact nl_ BK236 : gb236 ≠ gb243));have n12_:=qn.mk ((by rw [hg];exact ng_ BK236 : gb243 ≠ gb236));clear BK230;clear BK231;clear BK236;clear HB;have BK230:=n0_;have BK231:=n1_;have BK236:=n2_;have HB:=n3_;have BK243:=n4_;have GW243:=n5_;have GE243:=n6_;have NB230_243:=n7_;have NB243_230:=n8_;have NB231_243:=n9_;have NB243_231:=n10_;have NB236_243:=n11_;have NB243_236:=n12_;clear n0_ n1_ n2_ n3_ n4_ n5_ n6_ n7_ n8_ n9_ n10_ n11_ n12_;clear hb hbox hg;have hnb64:=NB243_230.out;have hnc64:=NB230_243.out;have hnb65:=NB243_231.out;have hnc65:=NB231_243.out;have hnb66:=NB243_236.out;have hnc66:=NB236_243.out;have hcz67_0 : w63.cell? ⟨gb243,0,none⟩ = some (.slice none 0 0):=(qh BK243.out 0).trans rfl;have hcz67_1 : w63.cell? ⟨gb243,1,none⟩ = some (.int .i64 0):=(qh BK243.out 1).trans rfl;have hfz67_0:=qi BK243.out 0;have hfz67_1:=qi BK243.out 1;have hnb68:=NB236_230.out;have hnc68:=NB230_236.out;have hnb69:=NB236_231.out;have hnc69:=NB231_236.out;have hcz70_0 : w63.cell? ⟨gb236,0,none⟩ = some (.slice A235_0 ((rd_T97 l1_1 x48_3).f0).length c235_0):=(qh BK236.out 0).trans rfl;have hcz70_1 : w63.cell? ⟨gb236,1,none⟩ = some (.int .i64 ((rd_T97 l1_1 x48_3).f1)):=(qh BK236.out 1).trans rfl;have hfz70_0:=qi BK236.out 0;have hfz70_1:=qi BK236.out 1)|((with_reducible refine gate_callee (f:=59) rfl ?_);refine goesL_ (some 71) rfl rfl Try.func59 (by kernel_rfl) rfl #[.slice A235_0 ((rd_T97 l1_1 x48_3).f0).length c235_0,.slice A242_0 ((rd_T97 y238 x62_4).f0).length c242_0] rfl (by (try simp only [List.map_toArray,List.map_cons,List.map_nil]);first|done|rfl|(simp only [List.length_drop,List.length_take];rfl)) ?_;(with_reducible refine (impl_within.calls k4 _ _ ((rd_T97 l1_1 x48_3).f0) _ _ ((rd_T97 y238 x62_4).f0) false true _ ?side1 ?side2 ?side3 ?side4 A51.out).mono ?_);(case side1=>exact Kd.C_below HR235_0.out (by repeat (first|(with_reducible first|exact HB.out|apply qf|apply qa|apply qd|refine qg ?_ GE230.out|refine qg ?_ GE231.out|refine qg ?_ GE236.out|refine qg ?_ GE243.out)|exact HB.out)));(case side2=>exact HC235_0.out);(case side3=>exact Kd.C_below HR242_0.out (by repeat (first|(with_reducible first|exact HB.out|apply qf|apply qa|apply qd|refine qg ?_ GE230.out|refine qg ?_ GE231.out|refine qg ?_ GE236.out|refine qg ?_ GE243.out)|exact HB.out)));(case side4=>exact HC242_0.out);rintro e w' ⟨rfl,⟨nd,rfl⟩⟩;refine ⟨_,rfl,?_⟩)|((with_reducible refine gate_callee (f:=59) rfl ?_);refine goesL_ (some 79) rfl rfl Try.func59 (by kernel_rfl) rfl #[.slice A242_0 ((rd_T97 y238 x62_4).f0).length c242_0,.slice A235_0 ((rd_T97 l1_1 x48_3).f0).length c235_0] rfl (by (try simp only [List.map_toArray,List.map_cons,List.map_nil]);first|done|rfl|(simp only [List.length_drop,List.length_take];rfl)) ?_;(with_reducible refine (impl_within.calls k4 _ _ ((rd_T97 y238 x62_4).f0) _ _ ((rd_T97 l1_1 x48_3).f0) t246 t247 _ ?side1 ?side2 ?side3 ?side4 A52.out).mono ?_);(case side1=>exact Kd.C_below HR242_0.out (by repeat (first|(with_reducible first|exact HB.out|apply qf|apply qa|apply qd|refine qg ?_ GE230.out|refine qg ?_ GE231.out|refine qg ?_ GE236.out|refine qg ?_ GE243.out)|exact HB.out)));(case side2=>exact HC242_0.out);(case side3=>exact Kd.C_below HR235_0.out (by repeat (first|(with_reducible first|exact HB.out|apply qf|apply qa|apply qd|refine qg ?_ GE230.out|refine qg ?_ GE231.out|refine qg ?_ GE236.out|refine qg ?_ GE243.out)|exact HB.out)));(case side4=>exact HC235_0.out);rintro e w' ⟨rfl,⟨nd,rfl⟩⟩;refine ⟨_,rfl,?_⟩))
                                          go_roundg k4
                                          case measure=>have:=HJ2.out;have:=HK2.out;have:=HK3.out;have:=HK4.out;omega
                                          case rel=>exact ⟨(wrap64 (x62_4 + 1)),(by first|rfl|(simp;done)|(simp [*];done)),H',⟨by have:=HJ2.out;have:=HK2.out;have:=HK3.out;have:=HK4.out;omega⟩,⟨by (with_reducible repeat (first|refine qb ?_ _|refine qe ?_|refine qc ?_ _));refine blk_far ?_ NB230_243.out _;(with_reducible repeat (first|refine qb ?_ _|refine qe ?_|refine qc ?_ _));refine blk_far ?_ NB230_243.out _;(with_reducible repeat (first|refine qb ?_ _|refine qe ?_|refine qc ?_ _));exact BK230.out⟩,⟨by (with_reducible repeat (first|refine qb ?_ _|refine qe ?_|refine qc ?_ _));refine blk_far ?_ NB231_243.out _;(with_reducible repeat (first|refine qb ?_ _|refine qe ?_|refine qc ?_ _));refine blk_far ?_ NB231_243.out _;(with_reducible repeat (first|refine qb ?_ _|refine qe ?_|refine qc ?_ _));exact BK231.out⟩,⟨by (with_reducible repeat (first|refine qb ?_ _|refine qe ?_|refine qc ?_ _));refine blk_far ?_ NB236_243.out _;(with_reducible repeat (first|refine qb ?_ _|refine qe ?_|refine qc ?_ _));refine blk_far ?_ NB236_243.out _;(with_reducible repeat (first|refine qb ?_ _|refine qe ?_|refine qc ?_ _));exact BK236.out⟩,⟨by repeat (first|(with_reducible first|exact HB.out|apply qf|apply qa|apply qd|refine qg ?_ GE230.out|refine qg ?_ GE231.out|refine qg ?_ GE236.out|refine qg ?_ GE243.out)|exact HB.out)⟩⟩
                                        · replace c62:=Bool.eq_false_iff.mpr c62
                                          subst c62
                                          have H1 : (if t246 = true then (impl_ProofOk.l2 k4 l1_1 (l1_1.length : Int) x48_3 y238 (y238.length : Int) (wrap64 (x62_4 + 1)) a0_0 l0_1 l1_0 l1_1 ((rd_T97 l1_1 x48_3).f0) ((rd_T97 l1_1 x48_3).f1)) else (some false)) = some r:=by rw [if_neg (show ¬ (false = true) by decide)] at H;exact H
                                          clear H
                                          have H:=H1
                                          clear H1
                                          by_cases c71 : t246 = true
                                          · subst c71
                                            have H1 : (impl_ProofOk.l2 k4 l1_1 (l1_1.length : Int) x48_3 y238 (y238.length : Int) (wrap64 (x62_4 + 1)) a0_0 l0_1 l1_0 l1_1 ((rd_T97 l1_1 x48_3).f0) ((rd_T97 l1_1 x48_3).f1)) = some r:=by rw [if_pos rfl] at H;exact H
                                            clear H
                                            have H:=H1
                                            clear H1
                                            have H':=qn.mk H
                                            clear H
                                            have p242 : 0 ≤ (x62_4 : Int):=of_decide_eq_true (by first|(with_reducible assumption)|assumption)
                                            have q242 : x62_4 < (y238.length : Int):=of_decide_eq_true (by first|(with_reducible assumption)|assumption)
                                            obtain ⟨ad242,A242_0,c242_0,e242,hx242_0,hx242_1,hl242_0,hi242_0⟩:=at_T97 HR241.out x62_4 p242 q242
                                            obtain rfl : ad235 = ad242:=(by injection e242)
                                            replace hx242_0:=cb_ HB hx242_0
                                            replace hx242_1:=cb_ HB hx242_1
                                            have HR242_0:=qn.mk hi242_0
                                            have HC242_0:=qn.mk hl242_0
                                            clear hi242_0 hl242_0
                                            replace p242:=eq_true p242
                                            replace q242:=eq_true q242
                                            go_wp2_with (first|((with_reducible refine gate_dst (N:=10) rfl ?_);(try (refine gate_guard (by rfl) ?_;dsimp only));refine box_event ?hg (N:=10) ?hd (cs:=#[.slice none 0 0,.int .i64 0]) (t:=97) ?hr ?_;(case hd=>rfl);(case hg=>rfl);(case hr=>first|(go_simp;done)|(go_simp;rfl));intro gb243 hg w72 hbox hb;have n0_:=bb_ BK230 hb;have n1_:=bb_ BK231 hb;have n2_:=bb_ BK236 hb;have n3_:=hs_ HB hb;have n4_:=qn.mk (hbox);have n5_:=qn.mk ((by rw [hg];exact (qj (by repeat (first|(with_reducible first|exact HB.out|apply qf|apply qa|apply qd|refine qg ?_ GE230.out|refine qg ?_ GE231.out|refine qg ?_ GE236.out)|exact HB.out))) : w.heap.size ≤ gb243));have n6_:=qn.mk ((by rw [hg];exact (qj (by repeat (first|(with_reducible first|exact HB.out|apply qf|apply qa|apply qd|refine qg ?_ GE230.out|refine qg ?_ GE231.out|refine qg ?_ GE236.out)|exact HB.out))) : w.heap.size ≤ gb243));have n7_:=qn.mk ((by rw [hg];exact nl_ BK230 : gb230 ≠ gb243));have n8_:=qn.mk ((by rw [hg];exact ng_ BK230 : gb243 ≠ gb230));have n9_:=qn.mk ((by rw [hg];exact nl_ BK231 : gb231 ≠ gb243));have n10_:=qn.mk ((by rw [hg];exact ng_ BK231 : gb243 ≠ gb231));have n11_:=qn.mk ((by rw [hg];exact nl_ BK236 : gb236 ≠ gb243));have n12_:=qn.mk ((by rw [hg];exact ng_ BK236 : gb243 ≠ gb236));clear BK230;clear BK231;clear BK236;clear HB;have BK230:=n0_;have BK231:=n1_;have BK236:=n2_;have HB:=n3_;have BK243:=n4_;have GW243:=n5_;have GE243:=n6_;have NB230_243:=n7_;have NB243_230:=n8_;have NB231_243:=n9_;have NB243_231:=n10_;have NB236_243:=n11_;have NB243_236:=n12_;clear n0_ n1_ n2_ n3_ n4_ n5_ n6_ n7_ n8_ n9_ n10_ n11_ n12_;clear hb hbox hg;have hnb73:=NB243_230.out;have hnc73:=NB230_243.out;have hnb74:=NB243_231.out;have hnc74:=NB231_243.out;have hnb75:=NB243_236.out;have hnc75:=NB236_243.out;have hcz76_0 : w72.cell? ⟨gb243,0,none⟩ = some (.slice none 0 0):=(qh BK243.out 0).trans rfl;have hcz76_1 : w72.cell? ⟨gb243,1,none⟩ = some (.int .i64 0):=(qh BK243.out 1).trans rfl;have hfz76_0:=qi BK243.out 0;have hfz76_1:=qi BK243.out 1;have hnb77:=NB236_230.out;have hnc77:=NB230_236.out;have hnb78:=NB236_231.out;have hnc78:=NB231_236.out;have hcz79_0 : w72.cell? ⟨gb236,0,none⟩ = some (.slice A235_0 ((rd_T97 l1_1 x48_3).f0).length c235_0):=(qh BK236.out 0).trans rfl;have hcz79_1 : w72.cell? ⟨gb236,1,none⟩ = some (.int .i64 ((rd_T97 l1_1 x48_3).f1)):=(qh BK236.out 1).trans rfl;have hfz79_0:=qi BK236.out 0;have hfz79_1:=qi BK236.out 1)|((with_reducible refine gate_callee (f:=59) rfl ?_);refine goesL_ (some 71) rfl rfl Try.func59 (by kernel_rfl) rfl #[.slice A235_0 ((rd_T97 l1_1 x48_3).f0).length c235_0,.slice A242_0 ((rd_T97 y238 x62_4).f0).length c242_0] rfl (by (try simp only [List.map_toArray,List.map_cons,List.map_nil]);first|done|rfl|(simp only [List.length_drop,List.length_take];rfl)) ?_;(with_reducible refine (impl_within.calls k4 _ _ ((rd_T97 l1_1 x48_3).f0) _ _ ((rd_T97 y238 x62_4).f0) false false _ ?side1 ?side2 ?side3 ?side4 A51.out).mono ?_);(case side1=>exact Kd.C_below HR235_0.out (by repeat (first|(with_reducible first|exact HB.out|apply qf|apply qa|apply qd|refine qg ?_ GE230.out|refine qg ?_ GE231.out|refine qg ?_ GE236.out|refine qg ?_ GE243.out)|exact HB.out)));(case side2=>exact HC235_0.out);(case side3=>exact Kd.C_below HR242_0.out (by repeat (first|(with_reducible first|exact HB.out|apply qf|apply qa|apply qd|refine qg ?_ GE230.out|refine qg ?_ GE231.out|refine qg ?_ GE236.out|refine qg ?_ GE243.out)|exact HB.out)));(case side4=>exact HC242_0.out);rintro e w' ⟨rfl,⟨nd,rfl⟩⟩;refine ⟨_,rfl,?_⟩)|((with_reducible refine gate_callee (f:=59) rfl ?_);refine goesL_ (some 79) rfl rfl Try.func59 (by kernel_rfl) rfl #[.slice A242_0 ((rd_T97 y238 x62_4).f0).length c242_0,.slice A235_0 ((rd_T97 l1_1 x48_3).f0).length c235_0] rfl (by (try simp only [List.map_toArray,List.map_cons,List.map_nil]);first|done|rfl|(simp only [List.length_drop,List.length_take];rfl)) ?_;(with_reducible refine (impl_within.calls k4 _ _ ((rd_T97 y238 x62_4).f0) _ _ ((rd_T97 l1_1 x48_3).f0) true t247 _ ?side1 ?side2 ?side3 ?side4 A52.out).mono ?_);(case side1=>exact Kd.C_below HR242_0.out (by repeat (first|(with_reducible first|exact HB.out|apply qf|apply qa|apply qd|refine qg ?_ GE230.out|refine qg ?_ GE231.out|refine qg ?_ GE236.out|refine qg ?_ GE243.out)|exact HB.out)));(case side2=>exact HC242_0.out);(case side3=>exact Kd.C_below HR235_0.out (by repeat (first|(with_reducible first|exact HB.out|apply qf|apply qa|apply qd|refine qg ?_ GE230.out|refine qg ?_ GE231.out|refine qg ?_ GE236.out|refine qg ?_ GE243.out)|exact HB.out)));(case side4=>exact HC235_0.out);rintro e w' ⟨rfl,⟨nd,rfl⟩⟩;refine ⟨_,rfl,?_⟩))
                                            go_roundg k4
                                            case measure=>have:=HJ2.out;have:=HK2.out;have:=HK3.out;have:=HK4.out;omega
                                            case rel=>exact ⟨(wrap64 (x62_4 + 1)),(by first|rfl|(simp;done)|(simp [*];done)),H',⟨by have:=HJ2.out;have:=HK2.out;have:=HK3.out;have:=HK4.out;omega⟩,⟨by (with_reducible repeat (first|refine qb ?_ _|refine qe ?_|refine qc ?_ _));refine blk_far ?_ NB230_243.out _;(with_reducible repeat (first|refine qb ?_ _|refine qe ?_|refine qc ?_ _));refine blk_far ?_ NB230_243.out _;(with_reducible repeat (first|refine qb ?_ _|refine qe ?_|refine qc ?_ _));exact BK230.out⟩,⟨by (with_reducible repeat (first|refine qb ?_ _|refine qe ?_|refine qc ?_ _));refine blk_far ?_ NB231_243.out _;(with_reducible repeat (first|refine qb ?_ _|refine qe ?_|refine qc ?_ _));refine blk_far ?_ NB231_243.out _;(with_reducible repeat (first|refine qb ?_ _|refine qe ?_|refine qc ?_ _));exact BK231.out⟩,⟨by (with_reducible repeat (first|refine qb ?_ _|refine qe ?_|refine qc ?_ _));refine blk_far ?_ NB236_243.out _;(with_reducible repeat (first|refine qb ?_ _|refine qe ?_|refine qc ?_ _));refine blk_far ?_ NB236_243.out _;(with_reducible repeat (first|refine qb ?_ _|refine qe ?_|refine qc ?_ _));exact BK236.out⟩,⟨by repeat (first|(with_reducible first|exact HB.out|apply qf|apply qa|apply qd|refine qg ?_ GE230.out|refine qg ?_ GE231.out|refine qg ?_ GE236.out|refine qg ?_ GE243.out)|exact HB.out)⟩⟩
                                          · replace c71:=Bool.eq_false_iff.mpr c71
                                            subst c71
                                            have H1 : (some false) = some r:=by rw [if_neg (show ¬ (false = true) by decide)] at H;exact H
                                            clear H
                                            have H:=H1
                                            clear H1
                                            obtain rfl:=Option.some.inj H
                                            have p242 : 0 ≤ (x62_4 : Int):=of_decide_eq_true (by first|(with_reducible assumption)|assumption)
                                            have q242 : x62_4 < (y238.length : Int):=of_decide_eq_true (by first|(with_reducible assumption)|assumption)
                                            obtain ⟨ad242,A242_0,c242_0,e242,hx242_0,hx242_1,hl242_0,hi242_0⟩:=at_T97 HR241.out x62_4 p242 q242
                                            obtain rfl : ad235 = ad242:=(by injection e242)
                                            replace hx242_0:=cb_ HB hx242_0
                                            replace hx242_1:=cb_ HB hx242_1
                                            have HR242_0:=qn.mk hi242_0
                                            have HC242_0:=qn.mk hl242_0
                                            clear hi242_0 hl242_0
                                            replace p242:=eq_true p242
                                            replace q242:=eq_true q242
                                            go_wp2_with (first|((with_reducible refine gate_dst (N:=10) rfl ?_);(try (refine gate_guard (by rfl) ?_;dsimp only));refine box_event ?hg (N:=10) ?hd (cs:=#[.slice none 0 0,.int .i64 0]) (t:=97) ?hr ?_;(case hd=>rfl);(case hg=>rfl);(case hr=>first|(go_simp;done)|(go_simp;rfl));intro gb243 hg w80 hbox hb;have n0_:=bb_ BK230 hb;have n1_:=bb_ BK231 hb;have n2_:=bb_ BK236 hb;have n3_:=hs_ HB hb;have n4_:=qn.mk (hbox);have n5_:=qn.mk ((by rw [hg];exact (qj (by repeat (first|(with_reducible first|exact HB.out|apply qf|apply qa|apply qd|refine qg ?_ GE230.out|refine qg ?_ GE231.out|refine qg ?_ GE236.out)|exact HB.out))) : w.heap.size ≤ gb243));have n6_:=qn.mk ((by rw [hg];exact (qj (by repeat (first|(with_reducible first|exact HB.out|apply qf|apply qa|apply qd|refine qg ?_ GE230.out|refine qg ?_ GE231.out|refine qg ?_ GE236.out)|exact HB.out))) : w.heap.size ≤ gb243));have n7_:=qn.mk ((by rw [hg];exact nl_ BK230 : gb230 ≠ gb243));have n8_:=qn.mk ((by rw [hg];exact ng_ BK230 : gb243 ≠ gb230));have n9_:=qn.mk ((by rw [hg];exact nl_ BK231 : gb231 ≠ gb243));have n10_:=qn.mk ((by rw [hg];exact ng_ BK231 : gb243 ≠ gb231));have n11_:=qn.mk ((by rw [hg];exact nl_ BK236 : gb236 ≠ gb243));have n12_:=qn.mk ((by rw [hg];exact ng_ BK236 : gb243 ≠ gb236));clear BK230;clear BK231;clear BK236;clear HB;have BK230:=n0_;have BK231:=n1_;have BK236:=n2_;have HB:=n3_;have BK243:=n4_;have GW243:=n5_;have GE243:=n6_;have NB230_243:=n7_;have NB243_230:=n8_;have NB231_243:=n9_;have NB243_231:=n10_;have NB236_243:=n11_;have NB243_236:=n12_;clear n0_ n1_ n2_ n3_ n4_ n5_ n6_ n7_ n8_ n9_ n10_ n11_ n12_;clear hb hbox hg;have hnb81:=NB243_230.out;have hnc81:=NB230_243.out;have hnb82:=NB243_231.out;have hnc82:=NB231_243.out;have hnb83:=NB243_236.out;have hnc83:=NB236_243.out;have hcz84_0 : w80.cell? ⟨gb243,0,none⟩ = some (.slice none 0 0):=(qh BK243.out 0).trans rfl;have hcz84_1 : w80.cell? ⟨gb243,1,none⟩ = some (.int .i64 0):=(qh BK243.out 1).trans rfl;have hfz84_0:=qi BK243.out 0;have hfz84_1:=qi BK243.out 1;have hnb85:=NB236_230.out;have hnc85:=NB230_236.out;have hnb86:=NB236_231.out;have hnc86:=NB231_236.out;have hcz87_0 : w80.cell? ⟨gb236,0,none⟩ = some (.slice A235_0 ((rd_T97 l1_1 x48_3).f0).length c235_0):=(qh BK236.out 0).trans rfl;have hcz87_1 : w80.cell? ⟨gb236,1,none⟩ = some (.int .i64 ((rd_T97 l1_1 x48_3).f1)):=(qh BK236.out 1).trans rfl;have hfz87_0:=qi BK236.out 0;have hfz87_1:=qi BK236.out 1)|((with_reducible refine gate_callee (f:=59) rfl ?_);refine goesL_ (some 71) rfl rfl Try.func59 (by kernel_rfl) rfl #[.slice A235_0 ((rd_T97 l1_1 x48_3).f0).length c235_0,.slice A242_0 ((rd_T97 y238 x62_4).f0).length c242_0] rfl (by (try simp only [List.map_toArray,List.map_cons,List.map_nil]);first|done|rfl|(simp only [List.length_drop,List.length_take];rfl)) ?_;(with_reducible refine (impl_within.calls k4 _ _ ((rd_T97 l1_1 x48_3).f0) _ _ ((rd_T97 y238 x62_4).f0) false false _ ?side1 ?side2 ?side3 ?side4 A51.out).mono ?_);(case side1=>exact Kd.C_below HR235_0.out (by repeat (first|(with_reducible first|exact HB.out|apply qf|apply qa|apply qd|refine qg ?_ GE230.out|refine qg ?_ GE231.out|refine qg ?_ GE236.out|refine qg ?_ GE243.out)|exact HB.out)));(case side2=>exact HC235_0.out);(case side3=>exact Kd.C_below HR242_0.out (by repeat (first|(with_reducible first|exact HB.out|apply qf|apply qa|apply qd|refine qg ?_ GE230.out|refine qg ?_ GE231.out|refine qg ?_ GE236.out|refine qg ?_ GE243.out)|exact HB.out)));(case side4=>exact HC242_0.out);rintro e w' ⟨rfl,⟨nd,rfl⟩⟩;refine ⟨_,rfl,?_⟩)|((with_reducible refine gate_callee (f:=59) rfl ?_);refine goesL_ (some 79) rfl rfl Try.func59 (by kernel_rfl) rfl #[.slice A242_0 ((rd_T97 y238 x62_4).f0).length c242_0,.slice A235_0 ((rd_T97 l1_1 x48_3).f0).length c235_0] rfl (by (try simp only [List.map_toArray,List.map_cons,List.map_nil]);first|done|rfl|(simp only [List.length_drop,List.length_take];rfl)) ?_;(with_reducible refine (impl_within.calls k4 _ _ ((rd_T97 y238 x62_4).f0) _ _ ((rd_T97 l1_1 x48_3).f0) false t247 _ ?side1 ?side2 ?side3 ?side4 A52.out).mono ?_);(case side1=>exact Kd.C_below HR242_0.out (by repeat (first|(with_reducible first|exact HB.out|apply qf|apply qa|apply qd|refine qg ?_ GE230.out|refine qg ?_ GE231.out|refine qg ?_ GE236.out|refine qg ?_ GE243.out)|exact HB.out)));(case side2=>exact HC242_0.out);(case side3=>exact Kd.C_below HR235_0.out (by repeat (first|(with_reducible first|exact HB.out|apply qf|apply qa|apply qd|refine qg ?_ GE230.out|refine qg ?_ GE231.out|refine qg ?_ GE236.out|refine qg ?_ GE243.out)|exact HB.out)));(case side4=>exact HC235_0.out);rintro e w' ⟨rfl,⟨nd,rfl⟩⟩;refine ⟨_,rfl,?_⟩))
                                            go_ret
                                            exact ⟨by first|rfl|(simp [errW_none,errW_some] <;> rfl)|(simp [*,errW_none,errW_some] <;> rfl),by repeat (first|(with_reducible first|exact HB.out|apply qf|apply qa|apply qd|refine qg ?_ GE230.out|refine qg ?_ GE231.out|refine qg ?_ GE236.out|refine qg ?_ GE243.out)|exact HB.out)⟩
                                    · rw [if_neg c50] at H
                                      exact absurd H (by simp)
                                  · rw [if_neg c49] at H
                                    exact absurd H (by simp)
                                · rw [if_neg c48] at H
                                  have c48b0 : decide (x62_4 < (y238.length : Int)) = false:=decide_eq_false c48
                                  clear c48
                                  have H':=qn.mk H
                                  clear H
                                  go_wp2
                                  go_roundg k4
                                  case measure=>have:=HJ2.out;have:=HK2.out;have:=HK3.out;have:=HK4.out;omega
                                  case rel=>exact ⟨(wrap64 (x48_3 + 1)),(by first|rfl|(simp;done)|(simp [*];done)),H',⟨by have:=HJ2.out;have:=HK2.out;have:=HK3.out;have:=HK4.out;omega⟩,⟨by (with_reducible repeat (first|refine qb ?_ _|refine qe ?_|refine qc ?_ _));exact BK230.out⟩,⟨by (with_reducible repeat (first|refine qb ?_ _|refine qe ?_|refine qc ?_ _));exact BK231.out⟩,⟨by repeat (first|(with_reducible first|exact HB.out|apply qf|apply qa|apply qd|refine qg ?_ GE230.out|refine qg ?_ GE231.out|refine qg ?_ GE236.out)|exact HB.out)⟩⟩
                          · rw [if_neg c38] at H
                            exact absurd H (by simp)
                        · replace c36:=Bool.eq_false_iff.mpr c36
                          subst c36
                          have H1 : (some false) = some r:=by rw [if_neg (show ¬ (false = true) by decide)] at H;exact H
                          clear H
                          have H:=H1
                          clear H1
                          obtain rfl:=Option.some.inj H
                          have p235 : 0 ≤ (x48_3 : Int):=of_decide_eq_true (by first|(with_reducible assumption)|assumption)
                          have q235 : x48_3 < (l1_1.length : Int):=of_decide_eq_true (by first|(with_reducible assumption)|assumption)
                          obtain ⟨ad235,A235_0,c235_0,e235,hx235_0,hx235_1,hl235_0,hi235_0⟩:=at_T97 HR1_1.out x48_3 p235 q235
                          cases e235
                          replace hx235_0:=cb_ HB hx235_0
                          replace hx235_1:=cb_ HB hx235_1
                          have HR235_0:=qn.mk hi235_0
                          have HC235_0:=qn.mk hl235_0
                          clear hi235_0 hl235_0
                          replace p235:=eq_true p235
                          replace q235:=eq_true q235
                          go_wp2_with (first|((with_reducible refine gate_dst (N:=8) rfl ?_);(try (refine gate_guard (by rfl) ?_;dsimp only));refine box_event ?hg (N:=8) ?hd (cs:=#[.slice none 0 0,.int .i64 0]) (t:=97) ?hr ?_;(case hd=>rfl);(case hg=>rfl);(case hr=>first|(go_simp;done)|(go_simp;rfl));intro gb236 hg w88 hbox hb;have n0_:=bb_ BK230 hb;have n1_:=bb_ BK231 hb;have n2_:=hs_ HB hb;have n3_:=qn.mk (hbox);have n4_:=qn.mk ((by rw [hg];exact (qj (by repeat (first|(with_reducible first|exact HB.out|apply qf|apply qa|apply qd|refine qg ?_ GE230.out|refine qg ?_ GE231.out)|exact HB.out))) : w.heap.size ≤ gb236));have n5_:=qn.mk ((by rw [hg];exact (qj (by repeat (first|(with_reducible first|exact HB.out|apply qf|apply qa|apply qd|refine qg ?_ GE230.out|refine qg ?_ GE231.out)|exact HB.out))) : w.heap.size ≤ gb236));have n6_:=qn.mk ((by rw [hg];exact nl_ BK230 : gb230 ≠ gb236));have n7_:=qn.mk ((by rw [hg];exact ng_ BK230 : gb236 ≠ gb230));have n8_:=qn.mk ((by rw [hg];exact nl_ BK231 : gb231 ≠ gb236));have n9_:=qn.mk ((by rw [hg];exact ng_ BK231 : gb236 ≠ gb231));clear BK230;clear BK231;clear HB;have BK230:=n0_;have BK231:=n1_;have HB:=n2_;have BK236:=n3_;have GW236:=n4_;have GE236:=n5_;have NB230_236:=n6_;have NB236_230:=n7_;have NB231_236:=n8_;have NB236_231:=n9_;clear n0_ n1_ n2_ n3_ n4_ n5_ n6_ n7_ n8_ n9_;clear hb hbox hg;have hnb89:=NB236_230.out;have hnc89:=NB230_236.out;have hnb90:=NB236_231.out;have hnc90:=NB231_236.out;have hcz91_0 : w88.cell? ⟨gb236,0,none⟩ = some (.slice none 0 0):=(qh BK236.out 0).trans rfl;have hcz91_1 : w88.cell? ⟨gb236,1,none⟩ = some (.int .i64 0):=(qh BK236.out 1).trans rfl;have hfz91_0:=qi BK236.out 0;have hfz91_1:=qi BK236.out 1;have hnb92:=NB230_231.out;have hnc92:=NB231_230.out;have hcz93_0 : w88.cell? ⟨gb230,0,none⟩ = some (.int .i64 a0_0):=(qh BK230.out 0).trans rfl;have hcz93_1 : w88.cell? ⟨gb230,1,none⟩ = some (.slice A0_1 l0_1.length c0_1):=(qh BK230.out 1).trans rfl;have hfz93_0:=qi BK230.out 0;have hfz93_1:=qi BK230.out 1)|((with_reducible refine gate_callee (f:=58) rfl ?_);refine goesL_ (some 55) rfl rfl Try.func58 (by kernel_rfl) rfl #[.agg #[.int .i64 a0_0,.slice A0_1 l0_1.length c0_1],.agg #[.slice A235_0 ((rd_T97 l1_1 x48_3).f0).length c235_0,.int .i64 ((rd_T97 l1_1 x48_3).f1)]] rfl (by (try simp only [List.map_toArray,List.map_cons,List.map_nil]);first|done|rfl|(simp only [List.length_drop,List.length_take];rfl)) ?_;(with_reducible refine (impl_groupOk.calls k3 a0_0 _ _ l0_1 _ _ ((rd_T97 l1_1 x48_3).f0) ((rd_T97 l1_1 x48_3).f1) false _ ?side1 ?side2 ?side3 ?side4 A35.out).mono ?_);(case side1=>exact Kd.C_below HR0_1.out (by repeat (first|(with_reducible first|exact HB.out|apply qf|apply qa|apply qd|refine qg ?_ GE230.out|refine qg ?_ GE231.out|refine qg ?_ GE236.out)|exact HB.out)));(case side2=>exact HC0_1.out);(case side3=>exact Kd.C_below HR235_0.out (by repeat (first|(with_reducible first|exact HB.out|apply qf|apply qa|apply qd|refine qg ?_ GE230.out|refine qg ?_ GE231.out|refine qg ?_ GE236.out)|exact HB.out)));(case side4=>exact HC235_0.out);rintro e w94 ⟨rfl,hb⟩;refine ⟨_,rfl,?_⟩;have n0_:=qn.mk (ql (g:=gb230) (o:=.cells #[.int .i64 a0_0,.slice A0_1 l0_1.length c0_1] 61 (0,0)) (by (with_reducible repeat (first|refine qb ?_ _|refine qe ?_|refine qc ?_ _));refine blk_far ?_ NB230_236.out _;(with_reducible repeat (first|refine qb ?_ _|refine qe ?_|refine qc ?_ _));refine blk_far ?_ NB230_236.out _;(with_reducible repeat (first|refine qb ?_ _|refine qe ?_|refine qc ?_ _));exact BK230.out) hb);have n1_:=qn.mk (ql (g:=gb231) (o:=.cells #[.slice A1_0 l1_0.length c1_0,.slice (some ad235) l1_1.length c1_1] 65 (0,0)) (by (with_reducible repeat (first|refine qb ?_ _|refine qe ?_|refine qc ?_ _));refine blk_far ?_ NB231_236.out _;(with_reducible repeat (first|refine qb ?_ _|refine qe ?_|refine qc ?_ _));refine blk_far ?_ NB231_236.out _;(with_reducible repeat (first|refine qb ?_ _|refine qe ?_|refine qc ?_ _));exact BK231.out) hb);have n2_:=qn.mk (ql (g:=gb236) (o:=.cells #[.slice A235_0 ((rd_T97 l1_1 x48_3).f0).length c235_0,.int .i64 ((rd_T97 l1_1 x48_3).f1)] 97 (0,0)) (by (with_reducible repeat (first|refine qb ?_ _|refine qe ?_|refine qc ?_ _));refine blk_put (cs:=#[.slice A235_0 ((rd_T97 l1_1 x48_3).f0).length c235_0,.int .i64 0]) ?_ 1 _ rfl;(with_reducible repeat (first|refine qb ?_ _|refine qe ?_|refine qc ?_ _));refine blk_put (cs:=#[.slice none 0 0,.int .i64 0]) ?_ 0 _ rfl;(with_reducible repeat (first|refine qb ?_ _|refine qe ?_|refine qc ?_ _));exact BK236.out) hb);have n3_:=hs_ HB hb;clear BK230;clear BK231;clear BK236;clear HB;have BK230:=n0_;have BK231:=n1_;have BK236:=n2_;have HB:=n3_;clear n0_ n1_ n2_ n3_;(try clear hb);(try clear hb2);(try clear hk);(try clear hi)))
                          go_ret
                          exact ⟨by first|rfl|(simp [errW_none,errW_some] <;> rfl)|(simp [*,errW_none,errW_some] <;> rfl),by repeat (first|(with_reducible first|exact HB.out|apply qf|apply qa|apply qd|refine qg ?_ GE230.out|refine qg ?_ GE231.out|refine qg ?_ GE236.out)|exact HB.out)⟩
                      · rw [if_neg c34] at H
                        exact absurd H (by simp)
                    · rw [if_neg c33] at H
                      exact absurd H (by simp)
                  · rw [if_neg c32] at H
                    have c32b0 : decide (x48_3 < (l1_1.length : Int)) = false:=decide_eq_false c32
                    clear c32
                    have H':=qn.mk H
                    clear H
                    have hnb95:=NB230_231.out
                    have hnc95:=NB231_230.out
                    have hcz96_0 : wr.cell? ⟨gb230,0,none⟩ = some (.int .i64 a0_0):=(qh BK230.out 0).trans rfl
                    have hcz96_1 : wr.cell? ⟨gb230,1,none⟩ = some (.slice A0_1 l0_1.length c0_1):=(qh BK230.out 1).trans rfl
                    have hfz96_0:=qi BK230.out 0
                    have hfz96_1:=qi BK230.out 1
                    go_wp2
                    go_loopg [97] k3 (fun kq v97 w'=>∃ (x97_4 : Int),v97 = .int .i64 x97_4 ∧ qn (impl_ProofOk.l3 kq l0_1 (l0_1.length : Int) x97_4 l1_0 l1_1 = some r) ∧ qn (kq ≤ k3) ∧ qn (w'.heap[gb230]? = some (.cells #[.int .i64 a0_0,(.slice A0_1 l0_1.length c0_1)] 61 (0,0))) ∧ qn (w'.heap[gb231]? = some (.cells #[(.slice A1_0 l1_0.length c1_0),(.slice A1_1 l1_1.length c1_1)] 65 (0,0))) ∧ qn (Below w.heap.size w w'))
                    case atStart=>exact ⟨(0),(by first|rfl|(simp;done)|(simp [*];done)),H',⟨Nat.le_refl _⟩,⟨by (with_reducible repeat (first|refine qb ?_ _|refine qe ?_|refine qc ?_ _));exact BK230.out⟩,⟨by (with_reducible repeat (first|refine qb ?_ _|refine qe ?_|refine qc ?_ _));exact BK231.out⟩,⟨by repeat (first|(with_reducible first|exact HB.out|apply qf|apply qa|apply qd|refine qg ?_ GE230.out|refine qg ?_ GE231.out)|exact HB.out)⟩⟩
                    case round =>
                      clear H'
                      try clear c1
                      try clear c2
                      try clear p2
                      try clear q2
                      try clear hx2
                      try clear c3
                      try clear c4
                      try clear q4
                      try clear c5
                      try clear c6
                      try clear p6
                      try clear c7
                      try clear c8
                      try clear c8b0
                      try clear c8b1
                      try clear c9
                      try clear c14
                      try clear c19
                      try clear c22
                      try clear c23
                      try clear p23
                      try clear q23
                      try clear hx23
                      try clear c24
                      try clear p24
                      try clear q24
                      try clear hx24
                      try clear c25
                      try clear c25b0
                      try clear c26
                      try clear c26b0
                      try clear c27
                      try clear c27b0
                      try clear c28
                      try clear c29
                      try clear c30
                      try clear c32
                      try clear c32b0
                      try clear c33
                      try clear c33b0
                      try clear c34
                      try clear c34b0
                      try clear c36
                      try clear c37
                      try clear c37b0
                      try clear c38
                      try clear c38b0
                      try clear c38b1
                      try clear c40
                      try clear c41
                      try clear c43
                      try clear q47
                      try clear c48
                      try clear c48b0
                      try clear c49
                      try clear c49b0
                      try clear c50
                      try clear c50b0
                      try clear c53
                      try clear c55
                      try clear c56
                      try clear c57
                      try clear c58
                      try clear c59
                      try clear c60
                      try clear c62
                      try clear c64
                      try clear p64
                      try clear c65
                      try clear c66
                      try clear c68
                      try clear c69
                      try clear c71
                      try clear c73
                      try clear c74
                      try clear c75
                      try clear c77
                      try clear c78
                      try clear c81
                      try clear c82
                      try clear c83
                      try clear c85
                      try clear c86
                      try clear c89
                      try clear c90
                      try clear c92
                      try clear c95
                      try clear hcz10_0
                      try clear hcz10_1
                      try clear hcz12_0
                      try clear hcz12_1
                      try clear hcz13_0
                      try clear hcz13_1
                      try clear hcz15_0
                      try clear hcz15_1
                      try clear hcz17_0
                      try clear hcz17_1
                      try clear hcz18_0
                      try clear hcz18_1
                      try clear hcz20_0
                      try clear hcz20_1
                      try clear hcz24_0
                      try clear hcz24_1
                      try clear hcz31_0
                      try clear hcz31_1
                      try clear hcz42_0
                      try clear hcz42_1
                      try clear hcz44_0
                      try clear hcz44_1
                      try clear hcz46_0
                      try clear hcz46_1
                      try clear hcz58_0
                      try clear hcz58_1
                      try clear hcz61_0
                      try clear hcz61_1
                      try clear hcz67_0
                      try clear hcz67_1
                      try clear hcz70_0
                      try clear hcz70_1
                      try clear hcz76_0
                      try clear hcz76_1
                      try clear hcz79_0
                      try clear hcz79_1
                      try clear hcz84_0
                      try clear hcz84_1
                      try clear hcz87_0
                      try clear hcz87_1
                      try clear hcz91_0
                      try clear hcz91_1
                      try clear hcz93_0
                      try clear hcz93_1
                      try clear hcz96_0
                      try clear hcz96_1
                      try clear hfz10_0
                      try clear hfz10_1
                      try clear hfz12_0
                      try clear hfz12_1
                      try clear hfz13_0
                      try clear hfz13_1
                      try clear hfz15_0
                      try clear hfz15_1
                      try clear hfz17_0
                      try clear hfz17_1
                      try clear hfz18_0
                      try clear hfz18_1
                      try clear hfz20_0
                      try clear hfz20_1
                      try clear hfz24_0
                      try clear hfz24_1
                      try clear hfz31_0
                      try clear hfz31_1
                      try clear hfz42_0
                      try clear hfz42_1
                      try clear hfz44_0
                      try clear hfz44_1
                      try clear hfz46_0
                      try clear hfz46_1
                      try clear hfz58_0
                      try clear hfz58_1
                      try clear hfz61_0
                      try clear hfz61_1
                      try clear hfz67_0
                      try clear hfz67_1
                      try clear hfz70_0
                      try clear hfz70_1
                      try clear hfz76_0
                      try clear hfz76_1
                      try clear hfz79_0
                      try clear hfz79_1
                      try clear hfz84_0
                      try clear hfz84_1
                      try clear hfz87_0
                      try clear hfz87_1
                      try clear hfz91_0
                      try clear hfz91_1
                      try clear hfz93_0
                      try clear hfz93_1
                      try clear hfz96_0
                      try clear hfz96_1
                      try clear hx233_0
                      try clear hx235_0
                      try clear hx235_1
                      try clear hx242_0
                      try clear hx242_1
                      try clear p2
                      try clear p23
                      try clear p233
                      try clear p235
                      try clear p242
                      try clear p6
                      try clear q2
                      try clear q23
                      try clear q233
                      try clear q235
                      try clear q242
                      try clear q4
                      try clear q47
                      obtain ⟨x97_4,rfl,HA,HK4,BK230,BK231,HB⟩:=hrel
                      cases gk with
                      | zero=>exact absurd HA.out (by simp [impl_ProofOk.l3])
                      | succ k4 =>
                        have H:=HA.out
                        clear HA
                        simp only [impl_ProofOk.l3] at H
                        by_cases c97 : x97_4 < (l0_1.length : Int)
                        · rw [if_pos c97] at H
                          have c97b0 : decide (x97_4 < (l0_1.length : Int)) = true:=decide_eq_true c97
                          clear c97
                          by_cases c98 : 0 ≤ x97_4
                          · rw [if_pos c98] at H
                            have c98b0 : decide (0 ≤ x97_4) = true:=decide_eq_true c98
                            clear c98
                            by_cases c99 : x97_4 < (l0_1.length : Int)
                            · rw [if_pos c99] at H
                              have c99b0 : decide (x97_4 < (l0_1.length : Int)) = true:=decide_eq_true c99
                              clear c99
                              replace H:=Option.bind_eq_some_iff.mp H
                              obtain ⟨t250,A1000,H⟩:=H
                              replace H : (if t250 < 0 then (some false) else (impl_ProofOk.l3 k4 l0_1 (l0_1.length : Int) (wrap64 (x97_4 + 1)) l1_0 l1_1)) = some r:=H
                              have A100:=qn.mk A1000
                              clear A1000
                              by_cases c101 : t250 < 0
                              · rw [if_pos c101] at H
                                have c101b0 : decide (t250 < 0) = true:=decide_eq_true c101
                                clear c101
                                obtain rfl:=Option.some.inj H
                                have p248 : 0 ≤ (x97_4 : Int):=of_decide_eq_true (by first|(with_reducible assumption)|assumption)
                                have q248 : x97_4 < (l0_1.length : Int):=of_decide_eq_true (by first|(with_reducible assumption)|assumption)
                                obtain ⟨ad248,e248,hx248_0,hx248_1,hx248_2,hx248_3,hx248_4⟩:=at_T101 HR0_1.out x97_4 p248 q248
                                cases e248
                                replace hx248_0:=cb_ HB hx248_0
                                replace hx248_1:=cb_ HB hx248_1
                                replace hx248_2:=cb_ HB hx248_2
                                replace hx248_3:=cb_ HB hx248_3
                                replace hx248_4:=cb_ HB hx248_4
                                replace p248:=eq_true p248
                                replace q248:=eq_true q248
                                go_wp2_with (first|((with_reducible refine gate_dst (N:=16) rfl ?_);(try (refine gate_guard (by rfl) ?_;dsimp only));refine box_event ?hg (N:=16) ?hd (cs:=#[.int .i64 0,.int .i64 0,.int .i64 0,.int .i64 0,.int .i64 0]) (t:=101) ?hr ?_;(case hd=>rfl);(case hg=>rfl);(case hr=>first|(go_simp;done)|(go_simp;rfl));intro gb249 hg w102 hbox hb;have n0_:=bb_ BK230 hb;have n1_:=bb_ BK231 hb;have n2_:=hs_ HB hb;have n3_:=qn.mk (hbox);have n4_:=qn.mk ((by rw [hg];exact (qj (by repeat (first|(with_reducible first|exact HB.out|apply qf|apply qa|apply qd|refine qg ?_ GE230.out|refine qg ?_ GE231.out)|exact HB.out))) : w.heap.size ≤ gb249));have n5_:=qn.mk ((by rw [hg];exact (qj (by repeat (first|(with_reducible first|exact HB.out|apply qf|apply qa|apply qd|refine qg ?_ GE230.out|refine qg ?_ GE231.out)|exact HB.out))) : w.heap.size ≤ gb249));have n6_:=qn.mk ((by rw [hg];exact nl_ BK230 : gb230 ≠ gb249));have n7_:=qn.mk ((by rw [hg];exact ng_ BK230 : gb249 ≠ gb230));have n8_:=qn.mk ((by rw [hg];exact nl_ BK231 : gb231 ≠ gb249));have n9_:=qn.mk ((by rw [hg];exact ng_ BK231 : gb249 ≠ gb231));clear BK230;clear BK231;clear HB;have BK230:=n0_;have BK231:=n1_;have HB:=n2_;have BK249:=n3_;have GW249:=n4_;have GE249:=n5_;have NB230_249:=n6_;have NB249_230:=n7_;have NB231_249:=n8_;have NB249_231:=n9_;clear n0_ n1_ n2_ n3_ n4_ n5_ n6_ n7_ n8_ n9_;clear hb hbox hg;have hnb103:=NB249_230.out;have hnc103:=NB230_249.out;have hnb104:=NB249_231.out;have hnc104:=NB231_249.out;have hcz105_0 : w102.cell? ⟨gb249,0,none⟩ = some (.int .i64 0):=(qh BK249.out 0).trans rfl;have hcz105_1 : w102.cell? ⟨gb249,1,none⟩ = some (.int .i64 0):=(qh BK249.out 1).trans rfl;have hcz105_2 : w102.cell? ⟨gb249,2,none⟩ = some (.int .i64 0):=(qh BK249.out 2).trans rfl;have hcz105_3 : w102.cell? ⟨gb249,3,none⟩ = some (.int .i64 0):=(qh BK249.out 3).trans rfl;have hcz105_4 : w102.cell? ⟨gb249,4,none⟩ = some (.int .i64 0):=(qh BK249.out 4).trans rfl;have hfz105_0:=qi BK249.out 0;have hfz105_1:=qi BK249.out 1;have hfz105_2:=qi BK249.out 2;have hfz105_3:=qi BK249.out 3;have hfz105_4:=qi BK249.out 4;have hnb106:=NB231_230.out;have hnc106:=NB230_231.out;have hcz107_0 : w102.cell? ⟨gb231,0,none⟩ = some (.slice A1_0 l1_0.length c1_0):=(qh BK231.out 0).trans rfl;have hcz107_1 : w102.cell? ⟨gb231,1,none⟩ = some (.slice A1_1 l1_1.length c1_1):=(qh BK231.out 1).trans rfl;have hfz107_0:=qi BK231.out 0;have hfz107_1:=qi BK231.out 1)|((with_reducible refine gate_callee (f:=60) rfl ?_);refine goesL_ (some 103) rfl rfl Try.func60 (by kernel_rfl) rfl #[.agg #[.int .i64 ((rd_T101 l0_1 x97_4).f0),.int .i64 ((rd_T101 l0_1 x97_4).f1),.int .i64 ((rd_T101 l0_1 x97_4).f2),.int .i64 ((rd_T101 l0_1 x97_4).f3),.int .i64 ((rd_T101 l0_1 x97_4).f4)],.agg #[.slice A1_0 l1_0.length c1_0,.slice A1_1 l1_1.length c1_1]] rfl (by (try simp only [List.map_toArray,List.map_cons,List.map_nil]);first|done|rfl|(simp only [List.length_drop,List.length_take];rfl)) ?_;(with_reducible refine (impl_slackOf.calls k4 ((rd_T101 l0_1 x97_4).f0) ((rd_T101 l0_1 x97_4).f1) ((rd_T101 l0_1 x97_4).f2) ((rd_T101 l0_1 x97_4).f3) ((rd_T101 l0_1 x97_4).f4) _ _ l1_0 _ _ l1_1 t250 _ ?side1 ?side2 ?side3 ?side4 A100.out).mono ?_);(case side1=>exact Kd.C_below HR1_0.out (by repeat (first|(with_reducible first|exact HB.out|apply qf|apply qa|apply qd|refine qg ?_ GE230.out|refine qg ?_ GE231.out|refine qg ?_ GE249.out)|exact HB.out)));(case side2=>exact HC1_0.out);(case side3=>exact Kd.C_below HR1_1.out (by repeat (first|(with_reducible first|exact HB.out|apply qf|apply qa|apply qd|refine qg ?_ GE230.out|refine qg ?_ GE231.out|refine qg ?_ GE249.out)|exact HB.out)));(case side4=>exact HC1_1.out);rintro e w108 ⟨rfl,hb⟩;refine ⟨_,rfl,?_⟩;have n0_:=qn.mk (ql (g:=gb230) (o:=.cells #[.int .i64 a0_0,.slice (some ad248) l0_1.length c0_1] 61 (0,0)) (by (with_reducible repeat (first|refine qb ?_ _|refine qe ?_|refine qc ?_ _));refine blk_far ?_ NB230_249.out _;(with_reducible repeat (first|refine qb ?_ _|refine qe ?_|refine qc ?_ _));refine blk_far ?_ NB230_249.out _;(with_reducible repeat (first|refine qb ?_ _|refine qe ?_|refine qc ?_ _));refine blk_far ?_ NB230_249.out _;(with_reducible repeat (first|refine qb ?_ _|refine qe ?_|refine qc ?_ _));refine blk_far ?_ NB230_249.out _;(with_reducible repeat (first|refine qb ?_ _|refine qe ?_|refine qc ?_ _));refine blk_far ?_ NB230_249.out _;(with_reducible repeat (first|refine qb ?_ _|refine qe ?_|refine qc ?_ _));exact BK230.out) hb);have n1_:=qn.mk (ql (g:=gb231) (o:=.cells #[.slice A1_0 l1_0.length c1_0,.slice A1_1 l1_1.length c1_1] 65 (0,0)) (by (with_reducible repeat (first|refine qb ?_ _|refine qe ?_|refine qc ?_ _));refine blk_far ?_ NB231_249.out _;(with_reducible repeat (first|refine qb ?_ _|refine qe ?_|refine qc ?_ _));refine blk_far ?_ NB231_249.out _;(with_reducible repeat (first|refine qb ?_ _|refine qe ?_|refine qc ?_ _));refine blk_far ?_ NB231_249.out _;(with_reducible repeat (first|refine qb ?_ _|refine qe ?_|refine qc ?_ _));refine blk_far ?_ NB231_249.out _;(with_reducible repeat (first|refine qb ?_ _|refine qe ?_|refine qc ?_ _));refine blk_far ?_ NB231_249.out _;(with_reducible repeat (first|refine qb ?_ _|refine qe ?_|refine qc ?_ _));exact BK231.out) hb);have n2_:=qn.mk (ql (g:=gb249) (o:=.cells #[.int .i64 ((rd_T101 l0_1 x97_4).f0),.int .i64 ((rd_T101 l0_1 x97_4).f1),.int .i64 ((rd_T101 l0_1 x97_4).f2),.int .i64 ((rd_T101 l0_1 x97_4).f3),.int .i64 ((rd_T101 l0_1 x97_4).f4)] 101 (0,0)) (by (with_reducible repeat (first|refine qb ?_ _|refine qe ?_|refine qc ?_ _));refine blk_put (cs:=#[.int .i64 ((rd_T101 l0_1 x97_4).f0),.int .i64 ((rd_T101 l0_1 x97_4).f1),.int .i64 ((rd_T101 l0_1 x97_4).f2),.int .i64 ((rd_T101 l0_1 x97_4).f3),.int .i64 0]) ?_ 4 _ rfl;(with_reducible repeat (first|refine qb ?_ _|refine qe ?_|refine qc ?_ _));refine blk_put (cs:=#[.int .i64 ((rd_T101 l0_1 x97_4).f0),.int .i64 ((rd_T101 l0_1 x97_4).f1),.int .i64 ((rd_T101 l0_1 x97_4).f2),.int .i64 0,.int .i64 0]) ?_ 3 _ rfl;(with_reducible repeat (first|refine qb ?_ _|refine qe ?_|refine qc ?_ _));refine blk_put (cs:=#[.int .i64 ((rd_T101 l0_1 x97_4).f0),.int .i64 ((rd_T101 l0_1 x97_4).f1),.int .i64 0,.int .i64 0,.int .i64 0]) ?_ 2 _ rfl;(with_reducible repeat (first|refine qb ?_ _|refine qe ?_|refine qc ?_ _));refine blk_put (cs:=#[.int .i64 ((rd_T101 l0_1 x97_4).f0),.int .i64 0,.int .i64 0,.int .i64 0,.int .i64 0]) ?_ 1 _ rfl;(with_reducible repeat (first|refine qb ?_ _|refine qe ?_|refine qc ?_ _));refine blk_put (cs:=#[.int .i64 0,.int .i64 0,.int .i64 0,.int .i64 0,.int .i64 0]) ?_ 0 _ rfl;(with_reducible repeat (first|refine qb ?_ _|refine qe ?_|refine qc ?_ _));exact BK249.out) hb);have n3_:=hs_ HB hb;clear BK230;clear BK231;clear BK249;clear HB;have BK230:=n0_;have BK231:=n1_;have BK249:=n2_;have HB:=n3_;clear n0_ n1_ n2_ n3_;(try clear hb);(try clear hb2);(try clear hk);(try clear hi)))
                                go_ret
                                exact ⟨by first|rfl|(simp [errW_none,errW_some] <;> rfl)|(simp [*,errW_none,errW_some] <;> rfl),by repeat (first|(with_reducible first|exact HB.out|apply qf|apply qa|apply qd|refine qg ?_ GE230.out|refine qg ?_ GE231.out|refine qg ?_ GE249.out)|exact HB.out)⟩
                              · rw [if_neg c101] at H
                                have c101b0 : decide (t250 < 0) = false:=decide_eq_false c101
                                clear c101
                                have H':=qn.mk H
                                clear H
                                have p248 : 0 ≤ (x97_4 : Int):=of_decide_eq_true (by first|(with_reducible assumption)|assumption)
                                have q248 : x97_4 < (l0_1.length : Int):=of_decide_eq_true (by first|(with_reducible assumption)|assumption)
                                obtain ⟨ad248,e248,hx248_0,hx248_1,hx248_2,hx248_3,hx248_4⟩:=at_T101 HR0_1.out x97_4 p248 q248
                                cases e248
                                replace hx248_0:=cb_ HB hx248_0
                                replace hx248_1:=cb_ HB hx248_1
                                replace hx248_2:=cb_ HB hx248_2
                                replace hx248_3:=cb_ HB hx248_3
                                replace hx248_4:=cb_ HB hx248_4
                                replace p248:=eq_true p248
                                replace q248:=eq_true q248
                                go_wp2_with (first|((with_reducible refine gate_dst (N:=16) rfl ?_);(try (refine gate_guard (by rfl) ?_;dsimp only));refine box_event ?hg (N:=16) ?hd (cs:=#[.int .i64 0,.int .i64 0,.int .i64 0,.int .i64 0,.int .i64 0]) (t:=101) ?hr ?_;(case hd=>rfl);(case hg=>rfl);(case hr=>first|(go_simp;done)|(go_simp;rfl));intro gb249 hg w109 hbox hb;have n0_:=bb_ BK230 hb;have n1_:=bb_ BK231 hb;have n2_:=hs_ HB hb;have n3_:=qn.mk (hbox);have n4_:=qn.mk ((by rw [hg];exact (qj (by repeat (first|(with_reducible first|exact HB.out|apply qf|apply qa|apply qd|refine qg ?_ GE230.out|refine qg ?_ GE231.out)|exact HB.out))) : w.heap.size ≤ gb249));have n5_:=qn.mk ((by rw [hg];exact (qj (by repeat (first|(with_reducible first|exact HB.out|apply qf|apply qa|apply qd|refine qg ?_ GE230.out|refine qg ?_ GE231.out)|exact HB.out))) : w.heap.size ≤ gb249));have n6_:=qn.mk ((by rw [hg];exact nl_ BK230 : gb230 ≠ gb249));have n7_:=qn.mk ((by rw [hg];exact ng_ BK230 : gb249 ≠ gb230));have n8_:=qn.mk ((by rw [hg];exact nl_ BK231 : gb231 ≠ gb249));have n9_:=qn.mk ((by rw [hg];exact ng_ BK231 : gb249 ≠ gb231));clear BK230;clear BK231;clear HB;have BK230:=n0_;have BK231:=n1_;have HB:=n2_;have BK249:=n3_;have GW249:=n4_;have GE249:=n5_;have NB230_249:=n6_;have NB249_230:=n7_;have NB231_249:=n8_;have NB249_231:=n9_;clear n0_ n1_ n2_ n3_ n4_ n5_ n6_ n7_ n8_ n9_;clear hb hbox hg;have hnb110:=NB249_230.out;have hnc110:=NB230_249.out;have hnb111:=NB249_231.out;have hnc111:=NB231_249.out;have hcz112_0 : w109.cell? ⟨gb249,0,none⟩ = some (.int .i64 0):=(qh BK249.out 0).trans rfl;have hcz112_1 : w109.cell? ⟨gb249,1,none⟩ = some (.int .i64 0):=(qh BK249.out 1).trans rfl;have hcz112_2 : w109.cell? ⟨gb249,2,none⟩ = some (.int .i64 0):=(qh BK249.out 2).trans rfl;have hcz112_3 : w109.cell? ⟨gb249,3,none⟩ = some (.int .i64 0):=(qh BK249.out 3).trans rfl;have hcz112_4 : w109.cell? ⟨gb249,4,none⟩ = some (.int .i64 0):=(qh BK249.out 4).trans rfl;have hfz112_0:=qi BK249.out 0;have hfz112_1:=qi BK249.out 1;have hfz112_2:=qi BK249.out 2;have hfz112_3:=qi BK249.out 3;have hfz112_4:=qi BK249.out 4;have hnb113:=NB231_230.out;have hnc113:=NB230_231.out;have hcz114_0 : w109.cell? ⟨gb231,0,none⟩ = some (.slice A1_0 l1_0.length c1_0):=(qh BK231.out 0).trans rfl;have hcz114_1 : w109.cell? ⟨gb231,1,none⟩ = some (.slice A1_1 l1_1.length c1_1):=(qh BK231.out 1).trans rfl;have hfz114_0:=qi BK231.out 0;have hfz114_1:=qi BK231.out 1)|((with_reducible refine gate_callee (f:=60) rfl ?_);refine goesL_ (some 103) rfl rfl Try.func60 (by kernel_rfl) rfl #[.agg #[.int .i64 ((rd_T101 l0_1 x97_4).f0),.int .i64 ((rd_T101 l0_1 x97_4).f1),.int .i64 ((rd_T101 l0_1 x97_4).f2),.int .i64 ((rd_T101 l0_1 x97_4).f3),.int .i64 ((rd_T101 l0_1 x97_4).f4)],.agg #[.slice A1_0 l1_0.length c1_0,.slice A1_1 l1_1.length c1_1]] rfl (by (try simp only [List.map_toArray,List.map_cons,List.map_nil]);first|done|rfl|(simp only [List.length_drop,List.length_take];rfl)) ?_;(with_reducible refine (impl_slackOf.calls k4 ((rd_T101 l0_1 x97_4).f0) ((rd_T101 l0_1 x97_4).f1) ((rd_T101 l0_1 x97_4).f2) ((rd_T101 l0_1 x97_4).f3) ((rd_T101 l0_1 x97_4).f4) _ _ l1_0 _ _ l1_1 t250 _ ?side1 ?side2 ?side3 ?side4 A100.out).mono ?_);(case side1=>exact Kd.C_below HR1_0.out (by repeat (first|(with_reducible first|exact HB.out|apply qf|apply qa|apply qd|refine qg ?_ GE230.out|refine qg ?_ GE231.out|refine qg ?_ GE249.out)|exact HB.out)));(case side2=>exact HC1_0.out);(case side3=>exact Kd.C_below HR1_1.out (by repeat (first|(with_reducible first|exact HB.out|apply qf|apply qa|apply qd|refine qg ?_ GE230.out|refine qg ?_ GE231.out|refine qg ?_ GE249.out)|exact HB.out)));(case side4=>exact HC1_1.out);rintro e w115 ⟨rfl,hb⟩;refine ⟨_,rfl,?_⟩;have n0_:=qn.mk (ql (g:=gb230) (o:=.cells #[.int .i64 a0_0,.slice (some ad248) l0_1.length c0_1] 61 (0,0)) (by (with_reducible repeat (first|refine qb ?_ _|refine qe ?_|refine qc ?_ _));refine blk_far ?_ NB230_249.out _;(with_reducible repeat (first|refine qb ?_ _|refine qe ?_|refine qc ?_ _));refine blk_far ?_ NB230_249.out _;(with_reducible repeat (first|refine qb ?_ _|refine qe ?_|refine qc ?_ _));refine blk_far ?_ NB230_249.out _;(with_reducible repeat (first|refine qb ?_ _|refine qe ?_|refine qc ?_ _));refine blk_far ?_ NB230_249.out _;(with_reducible repeat (first|refine qb ?_ _|refine qe ?_|refine qc ?_ _));refine blk_far ?_ NB230_249.out _;(with_reducible repeat (first|refine qb ?_ _|refine qe ?_|refine qc ?_ _));exact BK230.out) hb);have n1_:=qn.mk (ql (g:=gb231) (o:=.cells #[.slice A1_0 l1_0.length c1_0,.slice A1_1 l1_1.length c1_1] 65 (0,0)) (by (with_reducible repeat (first|refine qb ?_ _|refine qe ?_|refine qc ?_ _));refine blk_far ?_ NB231_249.out _;(with_reducible repeat (first|refine qb ?_ _|refine qe ?_|refine qc ?_ _));refine blk_far ?_ NB231_249.out _;(with_reducible repeat (first|refine qb ?_ _|refine qe ?_|refine qc ?_ _));refine blk_far ?_ NB231_249.out _;(with_reducible repeat (first|refine qb ?_ _|refine qe ?_|refine qc ?_ _));refine blk_far ?_ NB231_249.out _;(with_reducible repeat (first|refine qb ?_ _|refine qe ?_|refine qc ?_ _));refine blk_far ?_ NB231_249.out _;(with_reducible repeat (first|refine qb ?_ _|refine qe ?_|refine qc ?_ _));exact BK231.out) hb);have n2_:=qn.mk (ql (g:=gb249) (o:=.cells #[.int .i64 ((rd_T101 l0_1 x97_4).f0),.int .i64 ((rd_T101 l0_1 x97_4).f1),.int .i64 ((rd_T101 l0_1 x97_4).f2),.int .i64 ((rd_T101 l0_1 x97_4).f3),.int .i64 ((rd_T101 l0_1 x97_4).f4)] 101 (0,0)) (by (with_reducible repeat (first|refine qb ?_ _|refine qe ?_|refine qc ?_ _));refine blk_put (cs:=#[.int .i64 ((rd_T101 l0_1 x97_4).f0),.int .i64 ((rd_T101 l0_1 x97_4).f1),.int .i64 ((rd_T101 l0_1 x97_4).f2),.int .i64 ((rd_T101 l0_1 x97_4).f3),.int .i64 0]) ?_ 4 _ rfl;(with_reducible repeat (first|refine qb ?_ _|refine qe ?_|refine qc ?_ _));refine blk_put (cs:=#[.int .i64 ((rd_T101 l0_1 x97_4).f0),.int .i64 ((rd_T101 l0_1 x97_4).f1),.int .i64 ((rd_T101 l0_1 x97_4).f2),.int .i64 0,.int .i64 0]) ?_ 3 _ rfl;(with_reducible repeat (first|refine qb ?_ _|refine qe ?_|refine qc ?_ _));refine blk_put (cs:=#[.int .i64 ((rd_T101 l0_1 x97_4).f0),.int .i64 ((rd_T101 l0_1 x97_4).f1),.int .i64 0,.int .i64 0,.int .i64 0]) ?_ 2 _ rfl;(with_reducible repeat (first|refine qb ?_ _|refine qe ?_|refine qc ?_ _));refine blk_put (cs:=#[.int .i64 ((rd_T101 l0_1 x97_4).f0),.int .i64 0,.int .i64 0,.int .i64 0,.int .i64 0]) ?_ 1 _ rfl;(with_reducible repeat (first|refine qb ?_ _|refine qe ?_|refine qc ?_ _));refine blk_put (cs:=#[.int .i64 0,.int .i64 0,.int .i64 0,.int .i64 0,.int .i64 0]) ?_ 0 _ rfl;(with_reducible repeat (first|refine qb ?_ _|refine qe ?_|refine qc ?_ _));exact BK249.out) hb);have n3_:=hs_ HB hb;clear BK230;clear BK231;clear BK249;clear HB;have BK230:=n0_;have BK231:=n1_;have BK249:=n2_;have HB:=n3_;clear n0_ n1_ n2_ n3_;(try clear hb);(try clear hb2);(try clear hk);(try clear hi)))
                                go_roundg k4
                                case measure=>have:=HJ2.out;have:=HK2.out;have:=HK3.out;have:=HK4.out;omega
                                case rel=>exact ⟨(wrap64 (x97_4 + 1)),(by first|rfl|(simp;done)|(simp [*];done)),H',⟨by have:=HJ2.out;have:=HK2.out;have:=HK3.out;have:=HK4.out;omega⟩,⟨by (with_reducible repeat (first|refine qb ?_ _|refine qe ?_|refine qc ?_ _));exact BK230.out⟩,⟨by (with_reducible repeat (first|refine qb ?_ _|refine qe ?_|refine qc ?_ _));exact BK231.out⟩,⟨by repeat (first|(with_reducible first|exact HB.out|apply qf|apply qa|apply qd|refine qg ?_ GE230.out|refine qg ?_ GE231.out|refine qg ?_ GE249.out)|exact HB.out)⟩⟩
                            · rw [if_neg c99] at H
                              exact absurd H (by simp)
                          · rw [if_neg c98] at H
                            exact absurd H (by simp)
                        · rw [if_neg c97] at H
                          have c97b0 : decide (x97_4 < (l0_1.length : Int)) = false:=decide_eq_false c97
                          clear c97
                          obtain rfl:=Option.some.inj H
                          go_wp2
                          go_ret
                          exact ⟨by first|rfl|(simp [errW_none,errW_some] <;> rfl)|(simp [*,errW_none,errW_some] <;> rfl),by repeat (first|(with_reducible first|exact HB.out|apply qf|apply qa|apply qd|refine qg ?_ GE230.out|refine qg ?_ GE231.out)|exact HB.out)⟩

end Go.Proofs.Ytcdofljgeiohgaa.QFnExactProofOk
