/- Lean functions for the Go functions that the law FnExactProofOk reaches, and that each Go function comes to just its Lean function's answer; by a program of this session. -/
import Derived.Test.YtcdofljgeiohgaaZFnExactProofOkx0
import Derived.Test.YtcdofljgeiohgaaZFnExactProofOkx1
namespace Go.Proofs.Ytcdofljgeiohgaa.QFnExactProofOk
open Go.RowKit Go.Proofs.YtcdofljgeiohgaaW.PrintWords Go.Proofs.YtcdofljgeiohgaaW.PrintLast Go.Proofs.YtcdofljgeiohgaaW.PrintMore
attribute [local go_sem] max2_int min2_int max_two min_two max_three min_three max_four min_four   -- for this text's walks alone
set_option linter.unusedVariables false
set_option linter.unusedSimpArgs false

/-! ### spec_GraphOk: function 51 -/
mutual
def spec_GraphOk.l0 : Nat → Int → Int → List (S101) → Option (Bool)
  | 0,_,_,_=>none
  | k + 1,x3,x112000,x112001=>if x3 < (x112001.length : Int) then (if 0 ≤ x3 then (if ((rd_T101 x112001 x3).f0) < 0 then (spec_GraphOk.j1 k x3 true x112000 x112001 ((rd_T101 x112001 x3).f0) ((rd_T101 x112001 x3).f1) ((rd_T101 x112001 x3).f2) ((rd_T101 x112001 x3).f3) ((rd_T101 x112001 x3).f4)) else (if ((rd_T101 x112001 x3).f0) ≥ ((rd_T101 x112001 x3).f1) then (spec_GraphOk.j1 k x3 true x112000 x112001 ((rd_T101 x112001 x3).f0) ((rd_T101 x112001 x3).f1) ((rd_T101 x112001 x3).f2) ((rd_T101 x112001 x3).f3) ((rd_T101 x112001 x3).f4)) else (if ((rd_T101 x112001 x3).f1) ≥ x112000 then (spec_GraphOk.j1 k x3 true x112000 x112001 ((rd_T101 x112001 x3).f0) ((rd_T101 x112001 x3).f1) ((rd_T101 x112001 x3).f2) ((rd_T101 x112001 x3).f3) ((rd_T101 x112001 x3).f4)) else ((spec_l08Worth.f ((rd_T101 x112001 x3).f2)).bind fun t115=>(if t115 = true then ((spec_l08Worth.f ((rd_T101 x112001 x3).f3)).bind fun t116=>(if t116 = true then ((spec_l08Worth.f ((rd_T101 x112001 x3).f4)).bind fun t117=>(spec_GraphOk.j1 k x3 (!t117) x112000 x112001 ((rd_T101 x112001 x3).f0) ((rd_T101 x112001 x3).f1) ((rd_T101 x112001 x3).f2) ((rd_T101 x112001 x3).f3) ((rd_T101 x112001 x3).f4))) else (spec_GraphOk.j1 k x3 true x112000 x112001 ((rd_T101 x112001 x3).f0) ((rd_T101 x112001 x3).f1) ((rd_T101 x112001 x3).f2) ((rd_T101 x112001 x3).f3) ((rd_T101 x112001 x3).f4)))) else (spec_GraphOk.j1 k x3 true x112000 x112001 ((rd_T101 x112001 x3).f0) ((rd_T101 x112001 x3).f1) ((rd_T101 x112001 x3).f2) ((rd_T101 x112001 x3).f3) ((rd_T101 x112001 x3).f4))))))) else (none)) else (some true)
def spec_GraphOk.j1 : Nat → Int → Bool → Int → List (S101) → Int → Int → Int → Int → Int → Option (Bool)
  | 0,_,_,_,_,_,_,_,_,_=>none
  | k + 1,x3,x55,x112000,x112001,x115000,x115001,x115002,x115003,x115004=>if x55 = true then (some false) else (if x3 > 0 then (if 0 ≤ (wrap64 (x3 - 1)) then (if (wrap64 (x3 - 1)) < (x112001.length : Int) then (if ((rd_T101 x112001 (wrap64 (x3 - 1))).f0) > x115000 then (some false) else (if ((rd_T101 x112001 (wrap64 (x3 - 1))).f0) = x115000 then (if ((rd_T101 x112001 (wrap64 (x3 - 1))).f1) ≥ x115001 then (some false) else (spec_GraphOk.l0 k (wrap64 (x3 + 1)) x112000 x112001)) else (spec_GraphOk.l0 k (wrap64 (x3 + 1)) x112000 x112001))) else (none)) else (none)) else (spec_GraphOk.l0 k (wrap64 (x3 + 1)) x112000 x112001))
end
def spec_GraphOk.f (k : Nat) (a0_0 : Int) (l0_1 : List (S101)) : Option (Bool):=(spec_l01In.f a0_0 0 9).bind fun t112=>(if t112 = true then (spec_GraphOk.l0 k 0 a0_0 l0_1) else (some false))
theorem spec_GraphOk.mono_l : ∀ k,(∀ y0 y1 y2,LeO (spec_GraphOk.l0 k y0 y1 y2) (spec_GraphOk.l0 (k + 1) y0 y1 y2)) ∧ (∀ y0 y1 y2 y3 y4 y5 y6 y7 y8,LeO (spec_GraphOk.j1 k y0 y1 y2 y3 y4 y5 y6 y7 y8) (spec_GraphOk.j1 (k + 1) y0 y1 y2 y3 y4 y5 y6 y7 y8))
  | 0=>⟨fun _ _ _ r h=>by simp [spec_GraphOk.l0] at h,fun _ _ _ _ _ _ _ _ _ r h=>by simp [spec_GraphOk.j1] at h⟩
  | k + 1=>by
    obtain ⟨ih0,ih1⟩:=spec_GraphOk.mono_l k
    refine ⟨?_,?_⟩
    · intro y0 y1 y2
      unfold spec_GraphOk.l0
      repeat' first
      | (with_reducible exact ih0 _ _ _)
      | (with_reducible exact ih1 _ _ _ _ _ _ _ _ _)
      | (with_reducible exact LeO.refl _)
      | (with_reducible exact LeO.none _)
      | (with_reducible refine LeO.ite ?_ ?_)
      | (with_reducible refine LeO.bind ?_ (fun _=>?_))
      | exact ih0 _ _ _
      | exact ih1 _ _ _ _ _ _ _ _ _
      | exact LeO.none _
      | refine LeO.ite ?_ ?_
      | refine LeO.bind ?_ (fun _=>?_)
    · intro y0 y1 y2 y3 y4 y5 y6 y7 y8
      unfold spec_GraphOk.j1
      repeat' first
      | (with_reducible exact ih0 _ _ _)
      | (with_reducible exact ih1 _ _ _ _ _ _ _ _ _)
      | (with_reducible exact LeO.refl _)
      | (with_reducible exact LeO.none _)
      | (with_reducible refine LeO.ite ?_ ?_)
      | (with_reducible refine LeO.bind ?_ (fun _=>?_))
      | exact ih0 _ _ _
      | exact ih1 _ _ _ _ _ _ _ _ _
      | exact LeO.none _
      | refine LeO.ite ?_ ?_
      | refine LeO.bind ?_ (fun _=>?_)
theorem spec_GraphOk.mono : ∀ a0 a1 k,LeO (spec_GraphOk.f k a0 a1) (spec_GraphOk.f (k + 1) a0 a1):=by
  intro a0 a1 k
  obtain ⟨ih0,ih1⟩:=spec_GraphOk.mono_l k
  unfold spec_GraphOk.f
  repeat' first
      | (with_reducible exact ih0 _ _ _)
      | (with_reducible exact ih1 _ _ _ _ _ _ _ _ _)
      | (with_reducible exact LeO.refl _)
      | (with_reducible exact LeO.none _)
      | (with_reducible refine LeO.ite ?_ ?_)
      | (with_reducible refine LeO.bind ?_ (fun _=>?_))
      | exact ih0 _ _ _
      | exact ih1 _ _ _ _ _ _ _ _ _
      | exact LeO.none _
      | refine LeO.ite ?_ ?_
      | refine LeO.bind ?_ (fun _=>?_)
set_option maxHeartbeats 8000000 in
set_option maxRecDepth 100000 in
theorem spec_GraphOk.calls (k : Nat) (a0_0 : Int) (A0_1 : Option Addr) (c0_1 : Nat) (l0_1 : List (S101)) (r : Bool) (w : World) (hr0_1 : Kd.C k101 w A0_1 l0_1.length l0_1) (hc0_1 : l0_1.length ≤ c0_1) (h : spec_GraphOk.f k a0_0 l0_1 = some r) :
    Calls Try.prog 51 #[.agg #[.int .i64 a0_0,.slice A0_1 l0_1.length c0_1]] w fun e w'=>e = .returned (.bool r) ∧ Below w.heap.size w w':=by
  have hu61:=Try.underlying61
  have hu101:=Try.underlying101
  have HR0_1:=qn.mk hr0_1
  have HC0_1:=qn.mk hc0_1
  clear hr0_1 hc0_1
  have HB:=qn.mk (Below.refl w.heap.size w)
  have H : ((spec_l01In.f a0_0 0 9).bind fun t112=>(if t112 = true then (spec_GraphOk.l0 k 0 a0_0 l0_1) else (some false))) = some r:=h
  clear h
  replace H:=Option.bind_eq_some_iff.mp H
  obtain ⟨t112,A20,H⟩:=H
  replace H : (if t112 = true then (spec_GraphOk.l0 k 0 a0_0 l0_1) else (some false)) = some r:=H
  have A2:=qn.mk A20
  clear A20
  by_cases c3 : t112 = true
  · subst c3
    have H1 : (spec_GraphOk.l0 k 0 a0_0 l0_1) = some r:=by rw [if_pos rfl] at H;exact H
    clear H
    have H:=H1
    clear H1
    have H':=qn.mk H
    clear H
    go_enter Try.func51,Try.ntmps51
    go_wp2_with (first|((with_reducible refine gate_dst (N:=1) rfl ?_);refine box_event ?hg (N:=1) ?hd (cs:=#[.int .i64 a0_0,.slice A0_1 l0_1.length c0_1]) (t:=61) ?hr ?_;(case hd=>rfl);(case hg=>rfl);(case hr=>first|(go_simp;done)|(go_simp;rfl));intro gb111 hg w4 hbox hb;have n0_:=hs_ HB hb;have n1_:=qn.mk (hbox);have n2_:=qn.mk ((by rw [hg];exact (qj (by repeat (first|(with_reducible first|exact HB.out|apply qf|apply qa|apply qd)|exact HB.out))) : w.heap.size ≤ gb111));have n3_:=qn.mk ((by rw [hg];exact (qj (by repeat (first|(with_reducible first|exact HB.out|apply qf|apply qa|apply qd)|exact HB.out))) : w.heap.size ≤ gb111));clear HB;have HB:=n0_;have BK111:=n1_;have GW111:=n2_;have GE111:=n3_;clear n0_ n1_ n2_ n3_;clear hb hbox hg;have hcz5_0 : w4.cell? ⟨gb111,0,none⟩ = some (.int .i64 a0_0):=(qh BK111.out 0).trans rfl;have hcz5_1 : w4.cell? ⟨gb111,1,none⟩ = some (.slice A0_1 l0_1.length c0_1):=(qh BK111.out 1).trans rfl;have hfz5_0:=qi BK111.out 0;have hfz5_1:=qi BK111.out 1)|(go_at_call 30;(with_reducible refine (spec_l01In.calls a0_0 0 9 true _ A2.out).mono ?_);rintro e w' ⟨rfl,⟨nd,rfl⟩⟩;(try first|exact ⟨rfl,_,World.drewN_drewN _ _ _⟩|exact ⟨rfl,_,Eq.trans (World.drewN_drewN _ _ _) (congrArg (World.drewN _) (Nat.add_assoc _ _ _))⟩)))
    repeat (go_quiet (first|((with_reducible refine gate_dst (N:=1) rfl ?_);refine box_event ?hg (N:=1) ?hd (cs:=#[.int .i64 a0_0,.slice A0_1 l0_1.length c0_1]) (t:=61) ?hr ?_;(case hd=>rfl);(case hg=>rfl);(case hr=>first|(go_simp;done)|(go_simp;rfl));intro gb111 hg w4 hbox hb;have n0_:=hs_ HB hb;have n1_:=qn.mk (hbox);have n2_:=qn.mk ((by rw [hg];exact (qj (by repeat (first|(with_reducible first|exact HB.out|apply qf|apply qa|apply qd)|exact HB.out))) : w.heap.size ≤ gb111));have n3_:=qn.mk ((by rw [hg];exact (qj (by repeat (first|(with_reducible first|exact HB.out|apply qf|apply qa|apply qd)|exact HB.out))) : w.heap.size ≤ gb111));clear HB;have HB:=n0_;have BK111:=n1_;have GW111:=n2_;have GE111:=n3_;clear n0_ n1_ n2_ n3_;clear hb hbox hg;have hcz5_0 : w4.cell? ⟨gb111,0,none⟩ = some (.int .i64 a0_0):=(qh BK111.out 0).trans rfl;have hcz5_1 : w4.cell? ⟨gb111,1,none⟩ = some (.slice A0_1 l0_1.length c0_1):=(qh BK111.out 1).trans rfl;have hfz5_0:=qi BK111.out 0;have hfz5_1:=qi BK111.out 1)|(go_at_call 30;(with_reducible refine (spec_l01In.calls a0_0 0 9 true _ A2.out).mono ?_);rintro e w' ⟨rfl,⟨nd,rfl⟩⟩;(try first|exact ⟨rfl,_,World.drewN_drewN _ _ _⟩|exact ⟨rfl,_,Eq.trans (World.drewN_drewN _ _ _) (congrArg (World.drewN _) (Nat.add_assoc _ _ _))⟩)));try go_wp2_with (first|((with_reducible refine gate_dst (N:=1) rfl ?_);refine box_event ?hg (N:=1) ?hd (cs:=#[.int .i64 a0_0,.slice A0_1 l0_1.length c0_1]) (t:=61) ?hr ?_;(case hd=>rfl);(case hg=>rfl);(case hr=>first|(go_simp;done)|(go_simp;rfl));intro gb111 hg w4 hbox hb;have n0_:=hs_ HB hb;have n1_:=qn.mk (hbox);have n2_:=qn.mk ((by rw [hg];exact (qj (by repeat (first|(with_reducible first|exact HB.out|apply qf|apply qa|apply qd)|exact HB.out))) : w.heap.size ≤ gb111));have n3_:=qn.mk ((by rw [hg];exact (qj (by repeat (first|(with_reducible first|exact HB.out|apply qf|apply qa|apply qd)|exact HB.out))) : w.heap.size ≤ gb111));clear HB;have HB:=n0_;have BK111:=n1_;have GW111:=n2_;have GE111:=n3_;clear n0_ n1_ n2_ n3_;clear hb hbox hg;have hcz5_0 : w4.cell? ⟨gb111,0,none⟩ = some (.int .i64 a0_0):=(qh BK111.out 0).trans rfl;have hcz5_1 : w4.cell? ⟨gb111,1,none⟩ = some (.slice A0_1 l0_1.length c0_1):=(qh BK111.out 1).trans rfl;have hfz5_0:=qi BK111.out 0;have hfz5_1:=qi BK111.out 1)|(go_at_call 30;(with_reducible refine (spec_l01In.calls a0_0 0 9 true _ A2.out).mono ?_);rintro e w' ⟨rfl,⟨nd,rfl⟩⟩;(try first|exact ⟨rfl,_,World.drewN_drewN _ _ _⟩|exact ⟨rfl,_,Eq.trans (World.drewN_drewN _ _ _) (congrArg (World.drewN _) (Nat.add_assoc _ _ _))⟩))))
    go_loopg [3] k (fun kq v3 w'=>∃ (x3_1 : Int),v3 = .int .i64 x3_1 ∧ qn (spec_GraphOk.l0 kq x3_1 a0_0 l0_1 = some r) ∧ qn (kq ≤ k) ∧ qn (w'.heap[gb111]? = some (.cells #[.int .i64 a0_0,(.slice A0_1 l0_1.length c0_1)] 61 (0,0))) ∧ qn (Below w.heap.size w w'))
    case atStart=>exact ⟨(0),(by first|rfl|(simp;done)|(simp [*];done)),H',⟨Nat.le_refl _⟩,⟨by (with_reducible repeat (first|refine qb ?_ _|refine qe ?_|refine qc ?_ _));exact BK111.out⟩,⟨by repeat (first|(with_reducible first|exact HB.out|apply qf|apply qa|apply qd|refine qg ?_ GE111.out)|exact HB.out)⟩⟩
    case round =>
      clear H'
      try clear p2
      try clear c3
      try clear c5
      try clear hcz5_0
      try clear hcz5_1
      try clear hfz5_0
      try clear hfz5_1
      obtain ⟨x3_1,rfl,HA,HK1,BK111,HB⟩:=hrel
      cases gk with
      | zero=>exact absurd HA.out (by simp [spec_GraphOk.l0])
      | succ k1 =>
        have H:=HA.out
        clear HA
        simp only [spec_GraphOk.l0] at H
        by_cases c6 : x3_1 < (l0_1.length : Int)
        · rw [if_pos c6] at H
          have c6b0 : decide (x3_1 < (l0_1.length : Int)) = true:=decide_eq_true c6
          clear c6
          by_cases c7 : 0 ≤ x3_1
          · rw [if_pos c7] at H
            have c7b0 : decide (0 ≤ x3_1) = true:=decide_eq_true c7
            clear c7
            have HC8:=qn.mk H
            clear H
            have hcz9_0 : wr.cell? ⟨gb111,0,none⟩ = some (.int .i64 a0_0):=(qh BK111.out 0).trans rfl
            have hcz9_1 : wr.cell? ⟨gb111,1,none⟩ = some (.slice A0_1 l0_1.length c0_1):=(qh BK111.out 1).trans rfl
            have hfz9_0:=qi BK111.out 0
            have hfz9_1:=qi BK111.out 1
            have p113 : 0 ≤ (x3_1 : Int):=of_decide_eq_true (by first|(with_reducible assumption)|assumption)
            have q113 : x3_1 < (l0_1.length : Int):=of_decide_eq_true (by first|(with_reducible assumption)|assumption)
            obtain ⟨ad113,e113,hx113_0,hx113_1,hx113_2,hx113_3,hx113_4⟩:=at_T101 HR0_1.out x3_1 p113 q113
            cases e113
            replace hx113_0:=cb_ HB hx113_0
            replace hx113_1:=cb_ HB hx113_1
            replace hx113_2:=cb_ HB hx113_2
            replace hx113_3:=cb_ HB hx113_3
            replace hx113_4:=cb_ HB hx113_4
            replace p113:=eq_true p113
            replace q113:=eq_true q113
            go_upto_region 7 with (first|((with_reducible refine gate_dst (N:=4) rfl ?_);refine box_event ?hg (N:=4) ?hd (cs:=#[.int .i64 0,.int .i64 0,.int .i64 0,.int .i64 0,.int .i64 0]) (t:=101) ?hr ?_;(case hd=>rfl);(case hg=>rfl);(case hr=>first|(go_simp;done)|(go_simp;rfl));intro gb114 hg w10 hbox hb;have n0_:=bb_ BK111 hb;have n1_:=hs_ HB hb;have n2_:=qn.mk (hbox);have n3_:=qn.mk ((by rw [hg];exact (qj (by repeat (first|(with_reducible first|exact HB.out|apply qf|apply qa|apply qd|refine qg ?_ GE111.out)|exact HB.out))) : w.heap.size ≤ gb114));have n4_:=qn.mk ((by rw [hg];exact (qj (by repeat (first|(with_reducible first|exact HB.out|apply qf|apply qa|apply qd|refine qg ?_ GE111.out)|exact HB.out))) : w.heap.size ≤ gb114));have n5_:=qn.mk ((by rw [hg];exact nl_ BK111 : gb111 ≠ gb114));have n6_:=qn.mk ((by rw [hg];exact ng_ BK111 : gb114 ≠ gb111));clear BK111;clear HB;have BK111:=n0_;have HB:=n1_;have BK114:=n2_;have GW114:=n3_;have GE114:=n4_;have NB111_114:=n5_;have NB114_111:=n6_;clear n0_ n1_ n2_ n3_ n4_ n5_ n6_;clear hb hbox hg;have hnb11:=NB114_111.out;have hnc11:=NB111_114.out;have hcz12_0 : w10.cell? ⟨gb114,0,none⟩ = some (.int .i64 0):=(qh BK114.out 0).trans rfl;have hcz12_1 : w10.cell? ⟨gb114,1,none⟩ = some (.int .i64 0):=(qh BK114.out 1).trans rfl;have hcz12_2 : w10.cell? ⟨gb114,2,none⟩ = some (.int .i64 0):=(qh BK114.out 2).trans rfl;have hcz12_3 : w10.cell? ⟨gb114,3,none⟩ = some (.int .i64 0):=(qh BK114.out 3).trans rfl;have hcz12_4 : w10.cell? ⟨gb114,4,none⟩ = some (.int .i64 0):=(qh BK114.out 4).trans rfl;have hfz12_0:=qi BK114.out 0;have hfz12_1:=qi BK114.out 1;have hfz12_2:=qi BK114.out 2;have hfz12_3:=qi BK114.out 3;have hfz12_4:=qi BK114.out 4))
            repeat (go_quiet (first|((with_reducible refine gate_dst (N:=4) rfl ?_);refine box_event ?hg (N:=4) ?hd (cs:=#[.int .i64 0,.int .i64 0,.int .i64 0,.int .i64 0,.int .i64 0]) (t:=101) ?hr ?_;(case hd=>rfl);(case hg=>rfl);(case hr=>first|(go_simp;done)|(go_simp;rfl));intro gb114 hg w10 hbox hb;have n0_:=bb_ BK111 hb;have n1_:=hs_ HB hb;have n2_:=qn.mk (hbox);have n3_:=qn.mk ((by rw [hg];exact (qj (by repeat (first|(with_reducible first|exact HB.out|apply qf|apply qa|apply qd|refine qg ?_ GE111.out)|exact HB.out))) : w.heap.size ≤ gb114));have n4_:=qn.mk ((by rw [hg];exact (qj (by repeat (first|(with_reducible first|exact HB.out|apply qf|apply qa|apply qd|refine qg ?_ GE111.out)|exact HB.out))) : w.heap.size ≤ gb114));have n5_:=qn.mk ((by rw [hg];exact nl_ BK111 : gb111 ≠ gb114));have n6_:=qn.mk ((by rw [hg];exact ng_ BK111 : gb114 ≠ gb111));clear BK111;clear HB;have BK111:=n0_;have HB:=n1_;have BK114:=n2_;have GW114:=n3_;have GE114:=n4_;have NB111_114:=n5_;have NB114_111:=n6_;clear n0_ n1_ n2_ n3_ n4_ n5_ n6_;clear hb hbox hg;have hnb11:=NB114_111.out;have hnc11:=NB111_114.out;have hcz12_0 : w10.cell? ⟨gb114,0,none⟩ = some (.int .i64 0):=(qh BK114.out 0).trans rfl;have hcz12_1 : w10.cell? ⟨gb114,1,none⟩ = some (.int .i64 0):=(qh BK114.out 1).trans rfl;have hcz12_2 : w10.cell? ⟨gb114,2,none⟩ = some (.int .i64 0):=(qh BK114.out 2).trans rfl;have hcz12_3 : w10.cell? ⟨gb114,3,none⟩ = some (.int .i64 0):=(qh BK114.out 3).trans rfl;have hcz12_4 : w10.cell? ⟨gb114,4,none⟩ = some (.int .i64 0):=(qh BK114.out 4).trans rfl;have hfz12_0:=qi BK114.out 0;have hfz12_1:=qi BK114.out 1;have hfz12_2:=qi BK114.out 2;have hfz12_3:=qi BK114.out 3;have hfz12_4:=qi BK114.out 4));go_upto_region 7 with (first|((with_reducible refine gate_dst (N:=4) rfl ?_);refine box_event ?hg (N:=4) ?hd (cs:=#[.int .i64 0,.int .i64 0,.int .i64 0,.int .i64 0,.int .i64 0]) (t:=101) ?hr ?_;(case hd=>rfl);(case hg=>rfl);(case hr=>first|(go_simp;done)|(go_simp;rfl));intro gb114 hg w10 hbox hb;have n0_:=bb_ BK111 hb;have n1_:=hs_ HB hb;have n2_:=qn.mk (hbox);have n3_:=qn.mk ((by rw [hg];exact (qj (by repeat (first|(with_reducible first|exact HB.out|apply qf|apply qa|apply qd|refine qg ?_ GE111.out)|exact HB.out))) : w.heap.size ≤ gb114));have n4_:=qn.mk ((by rw [hg];exact (qj (by repeat (first|(with_reducible first|exact HB.out|apply qf|apply qa|apply qd|refine qg ?_ GE111.out)|exact HB.out))) : w.heap.size ≤ gb114));have n5_:=qn.mk ((by rw [hg];exact nl_ BK111 : gb111 ≠ gb114));have n6_:=qn.mk ((by rw [hg];exact ng_ BK111 : gb114 ≠ gb111));clear BK111;clear HB;have BK111:=n0_;have HB:=n1_;have BK114:=n2_;have GW114:=n3_;have GE114:=n4_;have NB111_114:=n5_;have NB114_111:=n6_;clear n0_ n1_ n2_ n3_ n4_ n5_ n6_;clear hb hbox hg;have hnb11:=NB114_111.out;have hnc11:=NB111_114.out;have hcz12_0 : w10.cell? ⟨gb114,0,none⟩ = some (.int .i64 0):=(qh BK114.out 0).trans rfl;have hcz12_1 : w10.cell? ⟨gb114,1,none⟩ = some (.int .i64 0):=(qh BK114.out 1).trans rfl;have hcz12_2 : w10.cell? ⟨gb114,2,none⟩ = some (.int .i64 0):=(qh BK114.out 2).trans rfl;have hcz12_3 : w10.cell? ⟨gb114,3,none⟩ = some (.int .i64 0):=(qh BK114.out 3).trans rfl;have hcz12_4 : w10.cell? ⟨gb114,4,none⟩ = some (.int .i64 0):=(qh BK114.out 4).trans rfl;have hfz12_0:=qi BK114.out 0;have hfz12_1:=qi BK114.out 1;have hfz12_2:=qi BK114.out 2;have hfz12_3:=qi BK114.out 3;have hfz12_4:=qi BK114.out 4)))
            (try simp only [Act.put,List.setIfInBounds_toArray,List.set_cons_zero,List.set_cons_succ])
            go_cut [55] (fun v55 wc=>∃ (kq : Nat) (x55_7 : Bool),v55 = .bool x55_7 ∧ qn (spec_GraphOk.j1 kq x3_1 x55_7 a0_0 l0_1 ((rd_T101 l0_1 x3_1).f0) ((rd_T101 l0_1 x3_1).f1) ((rd_T101 l0_1 x3_1).f2) ((rd_T101 l0_1 x3_1).f3) ((rd_T101 l0_1 x3_1).f4) = some r) ∧ qn (kq ≤ k1) ∧ qn (wc.heap[gb111]? = some (.cells #[.int .i64 a0_0,(.slice (some ad113) l0_1.length c0_1)] 61 (0,0))) ∧ qn (wc.heap[gb114]? = some (.cells #[.int .i64 ((rd_T101 l0_1 x3_1).f0),.int .i64 ((rd_T101 l0_1 x3_1).f1),.int .i64 ((rd_T101 l0_1 x3_1).f2),.int .i64 ((rd_T101 l0_1 x3_1).f3),.int .i64 ((rd_T101 l0_1 x3_1).f4)] 101 (0,0))) ∧ qn (Below w.heap.size w wc))
            case first =>
              have H:=HC8.out
              clear HC8
              by_cases c13 : ((rd_T101 l0_1 x3_1).f0) < 0
              · rw [if_pos c13] at H
                have c13b0 : decide (((rd_T101 l0_1 x3_1).f0) < 0) = true:=decide_eq_true c13
                clear c13
                (first|rw [c13b0]|(simp only [i64_w,i32_w];rw [c13b0])|skip)
                have H':=qn.mk H
                clear H
                have hnb14:=NB114_111.out
                have hnc14:=NB111_114.out
                have hcz15_0 : w10.cell? ⟨gb114,0,none⟩ = some (.int .i64 0):=(qh BK114.out 0).trans rfl
                have hcz15_1 : w10.cell? ⟨gb114,1,none⟩ = some (.int .i64 0):=(qh BK114.out 1).trans rfl
                have hcz15_2 : w10.cell? ⟨gb114,2,none⟩ = some (.int .i64 0):=(qh BK114.out 2).trans rfl
                have hcz15_3 : w10.cell? ⟨gb114,3,none⟩ = some (.int .i64 0):=(qh BK114.out 3).trans rfl
                have hcz15_4 : w10.cell? ⟨gb114,4,none⟩ = some (.int .i64 0):=(qh BK114.out 4).trans rfl
                have hfz15_0:=qi BK114.out 0
                have hfz15_1:=qi BK114.out 1
                have hfz15_2:=qi BK114.out 2
                have hfz15_3:=qi BK114.out 3
                have hfz15_4:=qi BK114.out 4
                go_wp2
                repeat (go_quiet (fail);try go_wp2)
                go_meet
                case rel=>exact ⟨_,(true),(by first|rfl|(simp;done)|(simp [*];done)),H',⟨by have:=HK1.out;first|omega|exact Nat.le_refl _⟩,⟨by (with_reducible repeat (first|refine qb ?_ _|refine qe ?_|refine qc ?_ _));refine blk_far ?_ NB111_114.out _;(with_reducible repeat (first|refine qb ?_ _|refine qe ?_|refine qc ?_ _));refine blk_far ?_ NB111_114.out _;(with_reducible repeat (first|refine qb ?_ _|refine qe ?_|refine qc ?_ _));refine blk_far ?_ NB111_114.out _;(with_reducible repeat (first|refine qb ?_ _|refine qe ?_|refine qc ?_ _));refine blk_far ?_ NB111_114.out _;(with_reducible repeat (first|refine qb ?_ _|refine qe ?_|refine qc ?_ _));refine blk_far ?_ NB111_114.out _;(with_reducible repeat (first|refine qb ?_ _|refine qe ?_|refine qc ?_ _));exact BK111.out⟩,⟨by (with_reducible repeat (first|refine qb ?_ _|refine qe ?_|refine qc ?_ _));refine blk_put (cs:=#[.int .i64 ((rd_T101 l0_1 x3_1).f0),.int .i64 ((rd_T101 l0_1 x3_1).f1),.int .i64 ((rd_T101 l0_1 x3_1).f2),.int .i64 ((rd_T101 l0_1 x3_1).f3),.int .i64 0]) ?_ 4 _ rfl;(with_reducible repeat (first|refine qb ?_ _|refine qe ?_|refine qc ?_ _));refine blk_put (cs:=#[.int .i64 ((rd_T101 l0_1 x3_1).f0),.int .i64 ((rd_T101 l0_1 x3_1).f1),.int .i64 ((rd_T101 l0_1 x3_1).f2),.int .i64 0,.int .i64 0]) ?_ 3 _ rfl;(with_reducible repeat (first|refine qb ?_ _|refine qe ?_|refine qc ?_ _));refine blk_put (cs:=#[.int .i64 ((rd_T101 l0_1 x3_1).f0),.int .i64 ((rd_T101 l0_1 x3_1).f1),.int .i64 0,.int .i64 0,.int .i64 0]) ?_ 2 _ rfl;(with_reducible repeat (first|refine qb ?_ _|refine qe ?_|refine qc ?_ _));refine blk_put (cs:=#[.int .i64 ((rd_T101 l0_1 x3_1).f0),.int .i64 0,.int .i64 0,.int .i64 0,.int .i64 0]) ?_ 1 _ rfl;(with_reducible repeat (first|refine qb ?_ _|refine qe ?_|refine qc ?_ _));refine blk_put (cs:=#[.int .i64 0,.int .i64 0,.int .i64 0,.int .i64 0,.int .i64 0]) ?_ 0 _ rfl;(with_reducible repeat (first|refine qb ?_ _|refine qe ?_|refine qc ?_ _));exact BK114.out⟩,⟨by repeat (first|(with_reducible first|exact HB.out|apply qf|apply qa|apply qd|refine qg ?_ GE111.out|refine qg ?_ GE114.out)|exact HB.out)⟩⟩
              · rw [if_neg c13] at H
                have c13b0 : decide (((rd_T101 l0_1 x3_1).f0) < 0) = false:=decide_eq_false c13
                clear c13
                (first|rw [c13b0]|(simp only [i64_w,i32_w];rw [c13b0])|skip)
                by_cases c16 : ((rd_T101 l0_1 x3_1).f0) ≥ ((rd_T101 l0_1 x3_1).f1)
                · rw [if_pos c16] at H
                  have c16b0 : decide (((rd_T101 l0_1 x3_1).f1) ≤ ((rd_T101 l0_1 x3_1).f0)) = true:=decide_eq_true c16
                  clear c16
                  have H':=qn.mk H
                  clear H
                  have hnb17:=NB114_111.out
                  have hnc17:=NB111_114.out
                  have hcz18_0 : w10.cell? ⟨gb114,0,none⟩ = some (.int .i64 0):=(qh BK114.out 0).trans rfl
                  have hcz18_1 : w10.cell? ⟨gb114,1,none⟩ = some (.int .i64 0):=(qh BK114.out 1).trans rfl
                  have hcz18_2 : w10.cell? ⟨gb114,2,none⟩ = some (.int .i64 0):=(qh BK114.out 2).trans rfl
                  have hcz18_3 : w10.cell? ⟨gb114,3,none⟩ = some (.int .i64 0):=(qh BK114.out 3).trans rfl
                  have hcz18_4 : w10.cell? ⟨gb114,4,none⟩ = some (.int .i64 0):=(qh BK114.out 4).trans rfl
                  have hfz18_0:=qi BK114.out 0
                  have hfz18_1:=qi BK114.out 1
                  have hfz18_2:=qi BK114.out 2
                  have hfz18_3:=qi BK114.out 3
                  have hfz18_4:=qi BK114.out 4
                  go_wp2
                  repeat (go_quiet (fail);try go_wp2)
                  go_meet
                  case rel=>exact ⟨_,(true),(by first|rfl|(simp;done)|(simp [*];done)),H',⟨by have:=HK1.out;first|omega|exact Nat.le_refl _⟩,⟨by (with_reducible repeat (first|refine qb ?_ _|refine qe ?_|refine qc ?_ _));refine blk_far ?_ NB111_114.out _;(with_reducible repeat (first|refine qb ?_ _|refine qe ?_|refine qc ?_ _));refine blk_far ?_ NB111_114.out _;(with_reducible repeat (first|refine qb ?_ _|refine qe ?_|refine qc ?_ _));refine blk_far ?_ NB111_114.out _;(with_reducible repeat (first|refine qb ?_ _|refine qe ?_|refine qc ?_ _));refine blk_far ?_ NB111_114.out _;(with_reducible repeat (first|refine qb ?_ _|refine qe ?_|refine qc ?_ _));refine blk_far ?_ NB111_114.out _;(with_reducible repeat (first|refine qb ?_ _|refine qe ?_|refine qc ?_ _));exact BK111.out⟩,⟨by (with_reducible repeat (first|refine qb ?_ _|refine qe ?_|refine qc ?_ _));refine blk_put (cs:=#[.int .i64 ((rd_T101 l0_1 x3_1).f0),.int .i64 ((rd_T101 l0_1 x3_1).f1),.int .i64 ((rd_T101 l0_1 x3_1).f2),.int .i64 ((rd_T101 l0_1 x3_1).f3),.int .i64 0]) ?_ 4 _ rfl;(with_reducible repeat (first|refine qb ?_ _|refine qe ?_|refine qc ?_ _));refine blk_put (cs:=#[.int .i64 ((rd_T101 l0_1 x3_1).f0),.int .i64 ((rd_T101 l0_1 x3_1).f1),.int .i64 ((rd_T101 l0_1 x3_1).f2),.int .i64 0,.int .i64 0]) ?_ 3 _ rfl;(with_reducible repeat (first|refine qb ?_ _|refine qe ?_|refine qc ?_ _));refine blk_put (cs:=#[.int .i64 ((rd_T101 l0_1 x3_1).f0),.int .i64 ((rd_T101 l0_1 x3_1).f1),.int .i64 0,.int .i64 0,.int .i64 0]) ?_ 2 _ rfl;(with_reducible repeat (first|refine qb ?_ _|refine qe ?_|refine qc ?_ _));refine blk_put (cs:=#[.int .i64 ((rd_T101 l0_1 x3_1).f0),.int .i64 0,.int .i64 0,.int .i64 0,.int .i64 0]) ?_ 1 _ rfl;(with_reducible repeat (first|refine qb ?_ _|refine qe ?_|refine qc ?_ _));refine blk_put (cs:=#[.int .i64 0,.int .i64 0,.int .i64 0,.int .i64 0,.int .i64 0]) ?_ 0 _ rfl;(with_reducible repeat (first|refine qb ?_ _|refine qe ?_|refine qc ?_ _));exact BK114.out⟩,⟨by repeat (first|(with_reducible first|exact HB.out|apply qf|apply qa|apply qd|refine qg ?_ GE111.out|refine qg ?_ GE114.out)|exact HB.out)⟩⟩
                · rw [if_neg c16] at H
                  have c16b0 : decide (((rd_T101 l0_1 x3_1).f1) ≤ ((rd_T101 l0_1 x3_1).f0)) = false:=decide_eq_false c16
                  clear c16
                  by_cases c19 : ((rd_T101 l0_1 x3_1).f1) ≥ a0_0
                  · rw [if_pos c19] at H
                    have c19b0 : decide (a0_0 ≤ ((rd_T101 l0_1 x3_1).f1)) = true:=decide_eq_true c19
                    clear c19
                    have H':=qn.mk H
                    clear H
                    have hnb20:=NB114_111.out
                    have hnc20:=NB111_114.out
                    have hcz21_0 : w10.cell? ⟨gb114,0,none⟩ = some (.int .i64 0):=(qh BK114.out 0).trans rfl
                    have hcz21_1 : w10.cell? ⟨gb114,1,none⟩ = some (.int .i64 0):=(qh BK114.out 1).trans rfl
                    have hcz21_2 : w10.cell? ⟨gb114,2,none⟩ = some (.int .i64 0):=(qh BK114.out 2).trans rfl
                    have hcz21_3 : w10.cell? ⟨gb114,3,none⟩ = some (.int .i64 0):=(qh BK114.out 3).trans rfl
                    have hcz21_4 : w10.cell? ⟨gb114,4,none⟩ = some (.int .i64 0):=(qh BK114.out 4).trans rfl
                    have hfz21_0:=qi BK114.out 0
                    have hfz21_1:=qi BK114.out 1
                    have hfz21_2:=qi BK114.out 2
                    have hfz21_3:=qi BK114.out 3
                    have hfz21_4:=qi BK114.out 4
                    have hcz22_0 : w10.cell? ⟨gb111,0,none⟩ = some (.int .i64 a0_0):=(qh BK111.out 0).trans rfl
                    have hcz22_1 : w10.cell? ⟨gb111,1,none⟩ = some (.slice (some ad113) l0_1.length c0_1):=(qh BK111.out 1).trans rfl
                    have hfz22_0:=qi BK111.out 0
                    have hfz22_1:=qi BK111.out 1
                    go_wp2
                    repeat (go_quiet (fail);try go_wp2)
                    go_meet
                    case rel=>exact ⟨_,(true),(by first|rfl|(simp;done)|(simp [*];done)),H',⟨by have:=HK1.out;first|omega|exact Nat.le_refl _⟩,⟨by (with_reducible repeat (first|refine qb ?_ _|refine qe ?_|refine qc ?_ _));refine blk_far ?_ NB111_114.out _;(with_reducible repeat (first|refine qb ?_ _|refine qe ?_|refine qc ?_ _));refine blk_far ?_ NB111_114.out _;(with_reducible repeat (first|refine qb ?_ _|refine qe ?_|refine qc ?_ _));refine blk_far ?_ NB111_114.out _;(with_reducible repeat (first|refine qb ?_ _|refine qe ?_|refine qc ?_ _));refine blk_far ?_ NB111_114.out _;(with_reducible repeat (first|refine qb ?_ _|refine qe ?_|refine qc ?_ _));refine blk_far ?_ NB111_114.out _;(with_reducible repeat (first|refine qb ?_ _|refine qe ?_|refine qc ?_ _));exact BK111.out⟩,⟨by (with_reducible repeat (first|refine qb ?_ _|refine qe ?_|refine qc ?_ _));refine blk_put (cs:=#[.int .i64 ((rd_T101 l0_1 x3_1).f0),.int .i64 ((rd_T101 l0_1 x3_1).f1),.int .i64 ((rd_T101 l0_1 x3_1).f2),.int .i64 ((rd_T101 l0_1 x3_1).f3),.int .i64 0]) ?_ 4 _ rfl;(with_reducible repeat (first|refine qb ?_ _|refine qe ?_|refine qc ?_ _));refine blk_put (cs:=#[.int .i64 ((rd_T101 l0_1 x3_1).f0),.int .i64 ((rd_T101 l0_1 x3_1).f1),.int .i64 ((rd_T101 l0_1 x3_1).f2),.int .i64 0,.int .i64 0]) ?_ 3 _ rfl;(with_reducible repeat (first|refine qb ?_ _|refine qe ?_|refine qc ?_ _));refine blk_put (cs:=#[.int .i64 ((rd_T101 l0_1 x3_1).f0),.int .i64 ((rd_T101 l0_1 x3_1).f1),.int .i64 0,.int .i64 0,.int .i64 0]) ?_ 2 _ rfl;(with_reducible repeat (first|refine qb ?_ _|refine qe ?_|refine qc ?_ _));refine blk_put (cs:=#[.int .i64 ((rd_T101 l0_1 x3_1).f0),.int .i64 0,.int .i64 0,.int .i64 0,.int .i64 0]) ?_ 1 _ rfl;(with_reducible repeat (first|refine qb ?_ _|refine qe ?_|refine qc ?_ _));refine blk_put (cs:=#[.int .i64 0,.int .i64 0,.int .i64 0,.int .i64 0,.int .i64 0]) ?_ 0 _ rfl;(with_reducible repeat (first|refine qb ?_ _|refine qe ?_|refine qc ?_ _));exact BK114.out⟩,⟨by repeat (first|(with_reducible first|exact HB.out|apply qf|apply qa|apply qd|refine qg ?_ GE111.out|refine qg ?_ GE114.out)|exact HB.out)⟩⟩
                  · rw [if_neg c19] at H
                    have c19b0 : decide (a0_0 ≤ ((rd_T101 l0_1 x3_1).f1)) = false:=decide_eq_false c19
                    clear c19
                    replace H:=Option.bind_eq_some_iff.mp H
                    obtain ⟨t115,A230,H⟩:=H
                    replace H : (if t115 = true then ((spec_l08Worth.f ((rd_T101 l0_1 x3_1).f3)).bind fun t116=>(if t116 = true then ((spec_l08Worth.f ((rd_T101 l0_1 x3_1).f4)).bind fun t117=>(spec_GraphOk.j1 k1 x3_1 (!t117) a0_0 l0_1 ((rd_T101 l0_1 x3_1).f0) ((rd_T101 l0_1 x3_1).f1) ((rd_T101 l0_1 x3_1).f2) ((rd_T101 l0_1 x3_1).f3) ((rd_T101 l0_1 x3_1).f4))) else (spec_GraphOk.j1 k1 x3_1 true a0_0 l0_1 ((rd_T101 l0_1 x3_1).f0) ((rd_T101 l0_1 x3_1).f1) ((rd_T101 l0_1 x3_1).f2) ((rd_T101 l0_1 x3_1).f3) ((rd_T101 l0_1 x3_1).f4)))) else (spec_GraphOk.j1 k1 x3_1 true a0_0 l0_1 ((rd_T101 l0_1 x3_1).f0) ((rd_T101 l0_1 x3_1).f1) ((rd_T101 l0_1 x3_1).f2) ((rd_T101 l0_1 x3_1).f3) ((rd_T101 l0_1 x3_1).f4))) = some r:=H
                    have A23:=qn.mk A230
                    clear A230
                    by_cases c24 : t115 = true
                    · subst c24
                      have H1 : ((spec_l08Worth.f ((rd_T101 l0_1 x3_1).f3)).bind fun t116=>(if t116 = true then ((spec_l08Worth.f ((rd_T101 l0_1 x3_1).f4)).bind fun t117=>(spec_GraphOk.j1 k1 x3_1 (!t117) a0_0 l0_1 ((rd_T101 l0_1 x3_1).f0) ((rd_T101 l0_1 x3_1).f1) ((rd_T101 l0_1 x3_1).f2) ((rd_T101 l0_1 x3_1).f3) ((rd_T101 l0_1 x3_1).f4))) else (spec_GraphOk.j1 k1 x3_1 true a0_0 l0_1 ((rd_T101 l0_1 x3_1).f0) ((rd_T101 l0_1 x3_1).f1) ((rd_T101 l0_1 x3_1).f2) ((rd_T101 l0_1 x3_1).f3) ((rd_T101 l0_1 x3_1).f4)))) = some r:=by rw [if_pos rfl] at H;exact H
                      clear H
                      have H:=H1
                      clear H1
                      replace H:=Option.bind_eq_some_iff.mp H
                      obtain ⟨t116,A250,H⟩:=H
                      replace H : (if t116 = true then ((spec_l08Worth.f ((rd_T101 l0_1 x3_1).f4)).bind fun t117=>(spec_GraphOk.j1 k1 x3_1 (!t117) a0_0 l0_1 ((rd_T101 l0_1 x3_1).f0) ((rd_T101 l0_1 x3_1).f1) ((rd_T101 l0_1 x3_1).f2) ((rd_T101 l0_1 x3_1).f3) ((rd_T101 l0_1 x3_1).f4))) else (spec_GraphOk.j1 k1 x3_1 true a0_0 l0_1 ((rd_T101 l0_1 x3_1).f0) ((rd_T101 l0_1 x3_1).f1) ((rd_T101 l0_1 x3_1).f2) ((rd_T101 l0_1 x3_1).f3) ((rd_T101 l0_1 x3_1).f4))) = some r:=H
                      have A25:=qn.mk A250
                      clear A250
                      by_cases c26 : t116 = true
                      · subst c26
                        have H1 : ((spec_l08Worth.f ((rd_T101 l0_1 x3_1).f4)).bind fun t117=>(spec_GraphOk.j1 k1 x3_1 (!t117) a0_0 l0_1 ((rd_T101 l0_1 x3_1).f0) ((rd_T101 l0_1 x3_1).f1) ((rd_T101 l0_1 x3_1).f2) ((rd_T101 l0_1 x3_1).f3) ((rd_T101 l0_1 x3_1).f4))) = some r:=by rw [if_pos rfl] at H;exact H
                        clear H
                        have H:=H1
                        clear H1
                        replace H:=Option.bind_eq_some_iff.mp H
                        obtain ⟨t117,A270,H⟩:=H
                        replace H : (spec_GraphOk.j1 k1 x3_1 (!t117) a0_0 l0_1 ((rd_T101 l0_1 x3_1).f0) ((rd_T101 l0_1 x3_1).f1) ((rd_T101 l0_1 x3_1).f2) ((rd_T101 l0_1 x3_1).f3) ((rd_T101 l0_1 x3_1).f4)) = some r:=H
                        have A27:=qn.mk A270
                        clear A270
                        have H':=qn.mk H
                        clear H
                        have hnb28:=NB114_111.out
                        have hnc28:=NB111_114.out
                        have hcz29_0 : w10.cell? ⟨gb114,0,none⟩ = some (.int .i64 0):=(qh BK114.out 0).trans rfl
                        have hcz29_1 : w10.cell? ⟨gb114,1,none⟩ = some (.int .i64 0):=(qh BK114.out 1).trans rfl
                        have hcz29_2 : w10.cell? ⟨gb114,2,none⟩ = some (.int .i64 0):=(qh BK114.out 2).trans rfl
                        have hcz29_3 : w10.cell? ⟨gb114,3,none⟩ = some (.int .i64 0):=(qh BK114.out 3).trans rfl
                        have hcz29_4 : w10.cell? ⟨gb114,4,none⟩ = some (.int .i64 0):=(qh BK114.out 4).trans rfl
                        have hfz29_0:=qi BK114.out 0
                        have hfz29_1:=qi BK114.out 1
                        have hfz29_2:=qi BK114.out 2
                        have hfz29_3:=qi BK114.out 3
                        have hfz29_4:=qi BK114.out 4
                        have hcz30_0 : w10.cell? ⟨gb111,0,none⟩ = some (.int .i64 a0_0):=(qh BK111.out 0).trans rfl
                        have hcz30_1 : w10.cell? ⟨gb111,1,none⟩ = some (.slice (some ad113) l0_1.length c0_1):=(qh BK111.out 1).trans rfl
                        have hfz30_0:=qi BK111.out 0
                        have hfz30_1:=qi BK111.out 1
                        go_wp2_with (first|(go_at_call 73;(with_reducible refine (spec_l08Worth.calls ((rd_T101 l0_1 x3_1).f2) true _ A23.out).mono ?_);rintro e w' ⟨rfl,⟨nd,rfl⟩⟩;(try first|exact ⟨rfl,_,World.drewN_drewN _ _ _⟩|exact ⟨rfl,_,Eq.trans (World.drewN_drewN _ _ _) (congrArg (World.drewN _) (Nat.add_assoc _ _ _))⟩))|(go_at_call 73;(with_reducible refine (spec_l08Worth.calls ((rd_T101 l0_1 x3_1).f3) true _ A25.out).mono ?_);rintro e w' ⟨rfl,⟨nd,rfl⟩⟩;(try first|exact ⟨rfl,_,World.drewN_drewN _ _ _⟩|exact ⟨rfl,_,Eq.trans (World.drewN_drewN _ _ _) (congrArg (World.drewN _) (Nat.add_assoc _ _ _))⟩))|(go_at_call 73;(with_reducible refine (spec_l08Worth.calls ((rd_T101 l0_1 x3_1).f4) t117 _ A27.out).mono ?_);rintro e w' ⟨rfl,⟨nd,rfl⟩⟩;(try first|exact ⟨rfl,_,World.drewN_drewN _ _ _⟩|exact ⟨rfl,_,Eq.trans (World.drewN_drewN _ _ _) (congrArg (World.drewN _) (Nat.add_assoc _ _ _))⟩)))
                        repeat (go_quiet (first|(go_at_call 73;(with_reducible refine (spec_l08Worth.calls ((rd_T101 l0_1 x3_1).f2) true _ A23.out).mono ?_);rintro e w' ⟨rfl,⟨nd,rfl⟩⟩;(try first|exact ⟨rfl,_,World.drewN_drewN _ _ _⟩|exact ⟨rfl,_,Eq.trans (World.drewN_drewN _ _ _) (congrArg (World.drewN _) (Nat.add_assoc _ _ _))⟩))|(go_at_call 73;(with_reducible refine (spec_l08Worth.calls ((rd_T101 l0_1 x3_1).f3) true _ A25.out).mono ?_);rintro e w' ⟨rfl,⟨nd,rfl⟩⟩;(try first|exact ⟨rfl,_,World.drewN_drewN _ _ _⟩|exact ⟨rfl,_,Eq.trans (World.drewN_drewN _ _ _) (congrArg (World.drewN _) (Nat.add_assoc _ _ _))⟩))|(go_at_call 73;(with_reducible refine (spec_l08Worth.calls ((rd_T101 l0_1 x3_1).f4) t117 _ A27.out).mono ?_);rintro e w' ⟨rfl,⟨nd,rfl⟩⟩;(try first|exact ⟨rfl,_,World.drewN_drewN _ _ _⟩|exact ⟨rfl,_,Eq.trans (World.drewN_drewN _ _ _) (congrArg (World.drewN _) (Nat.add_assoc _ _ _))⟩)));try go_wp2_with (first|(go_at_call 73;(with_reducible refine (spec_l08Worth.calls ((rd_T101 l0_1 x3_1).f2) true _ A23.out).mono ?_);rintro e w' ⟨rfl,⟨nd,rfl⟩⟩;(try first|exact ⟨rfl,_,World.drewN_drewN _ _ _⟩|exact ⟨rfl,_,Eq.trans (World.drewN_drewN _ _ _) (congrArg (World.drewN _) (Nat.add_assoc _ _ _))⟩))|(go_at_call 73;(with_reducible refine (spec_l08Worth.calls ((rd_T101 l0_1 x3_1).f3) true _ A25.out).mono ?_);rintro e w' ⟨rfl,⟨nd,rfl⟩⟩;(try first|exact ⟨rfl,_,World.drewN_drewN _ _ _⟩|exact ⟨rfl,_,Eq.trans (World.drewN_drewN _ _ _) (congrArg (World.drewN _) (Nat.add_assoc _ _ _))⟩))|(go_at_call 73;(with_reducible refine (spec_l08Worth.calls ((rd_T101 l0_1 x3_1).f4) t117 _ A27.out).mono ?_);rintro e w' ⟨rfl,⟨nd,rfl⟩⟩;(try first|exact ⟨rfl,_,World.drewN_drewN _ _ _⟩|exact ⟨rfl,_,Eq.trans (World.drewN_drewN _ _ _) (congrArg (World.drewN _) (Nat.add_assoc _ _ _))⟩))))
                        go_meet
                        case rel=>exact ⟨_,(!t117),(by first|rfl|(simp;done)|(simp [*];done)),H',⟨by have:=HK1.out;first|omega|exact Nat.le_refl _⟩,⟨by (with_reducible repeat (first|refine qb ?_ _|refine qe ?_|refine qc ?_ _));refine blk_far ?_ NB111_114.out _;(with_reducible repeat (first|refine qb ?_ _|refine qe ?_|refine qc ?_ _));refine blk_far ?_ NB111_114.out _;(with_reducible repeat (first|refine qb ?_ _|refine qe ?_|refine qc ?_ _));refine blk_far ?_ NB111_114.out _;(with_reducible repeat (first|refine qb ?_ _|refine qe ?_|refine qc ?_ _));refine blk_far ?_ NB111_114.out _;(with_reducible repeat (first|refine qb ?_ _|refine qe ?_|refine qc ?_ _));refine blk_far ?_ NB111_114.out _;(with_reducible repeat (first|refine qb ?_ _|refine qe ?_|refine qc ?_ _));exact BK111.out⟩,⟨by (with_reducible repeat (first|refine qb ?_ _|refine qe ?_|refine qc ?_ _));refine blk_put (cs:=#[.int .i64 ((rd_T101 l0_1 x3_1).f0),.int .i64 ((rd_T101 l0_1 x3_1).f1),.int .i64 ((rd_T101 l0_1 x3_1).f2),.int .i64 ((rd_T101 l0_1 x3_1).f3),.int .i64 0]) ?_ 4 _ rfl;(with_reducible repeat (first|refine qb ?_ _|refine qe ?_|refine qc ?_ _));refine blk_put (cs:=#[.int .i64 ((rd_T101 l0_1 x3_1).f0),.int .i64 ((rd_T101 l0_1 x3_1).f1),.int .i64 ((rd_T101 l0_1 x3_1).f2),.int .i64 0,.int .i64 0]) ?_ 3 _ rfl;(with_reducible repeat (first|refine qb ?_ _|refine qe ?_|refine qc ?_ _));refine blk_put (cs:=#[.int .i64 ((rd_T101 l0_1 x3_1).f0),.int .i64 ((rd_T101 l0_1 x3_1).f1),.int .i64 0,.int .i64 0,.int .i64 0]) ?_ 2 _ rfl;(with_reducible repeat (first|refine qb ?_ _|refine qe ?_|refine qc ?_ _));refine blk_put (cs:=#[.int .i64 ((rd_T101 l0_1 x3_1).f0),.int .i64 0,.int .i64 0,.int .i64 0,.int .i64 0]) ?_ 1 _ rfl;(with_reducible repeat (first|refine qb ?_ _|refine qe ?_|refine qc ?_ _));refine blk_put (cs:=#[.int .i64 0,.int .i64 0,.int .i64 0,.int .i64 0,.int .i64 0]) ?_ 0 _ rfl;(with_reducible repeat (first|refine qb ?_ _|refine qe ?_|refine qc ?_ _));exact BK114.out⟩,⟨by repeat (first|(with_reducible first|exact HB.out|apply qf|apply qa|apply qd|refine qg ?_ GE111.out|refine qg ?_ GE114.out)|exact HB.out)⟩⟩
                      · replace c26:=Bool.eq_false_iff.mpr c26
                        subst c26
                        have H1 : (spec_GraphOk.j1 k1 x3_1 true a0_0 l0_1 ((rd_T101 l0_1 x3_1).f0) ((rd_T101 l0_1 x3_1).f1) ((rd_T101 l0_1 x3_1).f2) ((rd_T101 l0_1 x3_1).f3) ((rd_T101 l0_1 x3_1).f4)) = some r:=by rw [if_neg (show ¬ (false = true) by decide)] at H;exact H
                        clear H
                        have H:=H1
                        clear H1
                        have H':=qn.mk H
                        clear H
                        have hnb31:=NB114_111.out
                        have hnc31:=NB111_114.out
                        have hcz32_0 : w10.cell? ⟨gb114,0,none⟩ = some (.int .i64 0):=(qh BK114.out 0).trans rfl
                        have hcz32_1 : w10.cell? ⟨gb114,1,none⟩ = some (.int .i64 0):=(qh BK114.out 1).trans rfl
                        have hcz32_2 : w10.cell? ⟨gb114,2,none⟩ = some (.int .i64 0):=(qh BK114.out 2).trans rfl
                        have hcz32_3 : w10.cell? ⟨gb114,3,none⟩ = some (.int .i64 0):=(qh BK114.out 3).trans rfl
                        have hcz32_4 : w10.cell? ⟨gb114,4,none⟩ = some (.int .i64 0):=(qh BK114.out 4).trans rfl
                        have hfz32_0:=qi BK114.out 0
                        have hfz32_1:=qi BK114.out 1
                        have hfz32_2:=qi BK114.out 2
                        have hfz32_3:=qi BK114.out 3
                        have hfz32_4:=qi BK114.out 4
                        have hcz33_0 : w10.cell? ⟨gb111,0,none⟩ = some (.int .i64 a0_0):=(qh BK111.out 0).trans rfl
                        have hcz33_1 : w10.cell? ⟨gb111,1,none⟩ = some (.slice (some ad113) l0_1.length c0_1):=(qh BK111.out 1).trans rfl
                        have hfz33_0:=qi BK111.out 0
                        have hfz33_1:=qi BK111.out 1
                        go_wp2_with (first|(go_at_call 73;(with_reducible refine (spec_l08Worth.calls ((rd_T101 l0_1 x3_1).f2) true _ A23.out).mono ?_);rintro e w' ⟨rfl,⟨nd,rfl⟩⟩;(try first|exact ⟨rfl,_,World.drewN_drewN _ _ _⟩|exact ⟨rfl,_,Eq.trans (World.drewN_drewN _ _ _) (congrArg (World.drewN _) (Nat.add_assoc _ _ _))⟩))|(go_at_call 73;(with_reducible refine (spec_l08Worth.calls ((rd_T101 l0_1 x3_1).f3) false _ A25.out).mono ?_);rintro e w' ⟨rfl,⟨nd,rfl⟩⟩;(try first|exact ⟨rfl,_,World.drewN_drewN _ _ _⟩|exact ⟨rfl,_,Eq.trans (World.drewN_drewN _ _ _) (congrArg (World.drewN _) (Nat.add_assoc _ _ _))⟩)))
                        repeat (go_quiet (first|(go_at_call 73;(with_reducible refine (spec_l08Worth.calls ((rd_T101 l0_1 x3_1).f2) true _ A23.out).mono ?_);rintro e w' ⟨rfl,⟨nd,rfl⟩⟩;(try first|exact ⟨rfl,_,World.drewN_drewN _ _ _⟩|exact ⟨rfl,_,Eq.trans (World.drewN_drewN _ _ _) (congrArg (World.drewN _) (Nat.add_assoc _ _ _))⟩))|(go_at_call 73;(with_reducible refine (spec_l08Worth.calls ((rd_T101 l0_1 x3_1).f3) false _ A25.out).mono ?_);rintro e w' ⟨rfl,⟨nd,rfl⟩⟩;(try first|exact ⟨rfl,_,World.drewN_drewN _ _ _⟩|exact ⟨rfl,_,Eq.trans (World.drewN_drewN _ _ _) (congrArg (World.drewN _) (Nat.add_assoc _ _ _))⟩)));try go_wp2_with (first|(go_at_call 73;(with_reducible refine (spec_l08Worth.calls ((rd_T101 l0_1 x3_1).f2) true _ A23.out).mono ?_);rintro e w' ⟨rfl,⟨nd,rfl⟩⟩;(try first|exact ⟨rfl,_,World.drewN_drewN _ _ _⟩|exact ⟨rfl,_,Eq.trans (World.drewN_drewN _ _ _) (congrArg (World.drewN _) (Nat.add_assoc _ _ _))⟩))|(go_at_call 73;(with_reducible refine (spec_l08Worth.calls ((rd_T101 l0_1 x3_1).f3) false _ A25.out).mono ?_);rintro e w' ⟨rfl,⟨nd,rfl⟩⟩;(try first|exact ⟨rfl,_,World.drewN_drewN _ _ _⟩|exact ⟨rfl,_,Eq.trans (World.drewN_drewN _ _ _) (congrArg (World.drewN _) (Nat.add_assoc _ _ _))⟩))))
                        go_meet
                        case rel=>exact ⟨_,(true),(by first|rfl|(simp;done)|(simp [*];done)),H',⟨by have:=HK1.out;first|omega|exact Nat.le_refl _⟩,⟨by (with_reducible repeat (first|refine qb ?_ _|refine qe ?_|refine qc ?_ _));refine blk_far ?_ NB111_114.out _;(with_reducible repeat (first|refine qb ?_ _|refine qe ?_|refine qc ?_ _));refine blk_far ?_ NB111_114.out _;(with_reducible repeat (first|refine qb ?_ _|refine qe ?_|refine qc ?_ _));refine blk_far ?_ NB111_114.out _;(with_reducible repeat (first|refine qb ?_ _|refine qe ?_|refine qc ?_ _));refine blk_far ?_ NB111_114.out _;(with_reducible repeat (first|refine qb ?_ _|refine qe ?_|refine qc ?_ _));refine blk_far ?_ NB111_114.out _;(with_reducible repeat (first|refine qb ?_ _|refine qe ?_|refine qc ?_ _));exact BK111.out⟩,⟨by (with_reducible repeat (first|refine qb ?_ _|refine qe ?_|refine qc ?_ _));refine blk_put (cs:=#[.int .i64 ((rd_T101 l0_1 x3_1).f0),.int .i64 ((rd_T101 l0_1 x3_1).f1),.int .i64 ((rd_T101 l0_1 x3_1).f2),.int .i64 ((rd_T101 l0_1 x3_1).f3),.int .i64 0]) ?_ 4 _ rfl;(with_reducible repeat (first|refine qb ?_ _|refine qe ?_|refine qc ?_ _));refine blk_put (cs:=#[.int .i64 ((rd_T101 l0_1 x3_1).f0),.int .i64 ((rd_T101 l0_1 x3_1).f1),.int .i64 ((rd_T101 l0_1 x3_1).f2),.int .i64 0,.int .i64 0]) ?_ 3 _ rfl;(with_reducible repeat (first|refine qb ?_ _|refine qe ?_|refine qc ?_ _));refine blk_put (cs:=#[.int .i64 ((rd_T101 l0_1 x3_1).f0),.int .i64 ((rd_T101 l0_1 x3_1).f1),.int .i64 0,.int .i64 0,.int .i64 0]) ?_ 2 _ rfl;(with_reducible repeat (first|refine qb ?_ _|refine qe ?_|refine qc ?_ _));refine blk_put (cs:=#[.int .i64 ((rd_T101 l0_1 x3_1).f0),.int .i64 0,.int .i64 0,.int .i64 0,.int .i64 0]) ?_ 1 _ rfl;(with_reducible repeat (first|refine qb ?_ _|refine qe ?_|refine qc ?_ _));refine blk_put (cs:=#[.int .i64 0,.int .i64 0,.int .i64 0,.int .i64 0,.int .i64 0]) ?_ 0 _ rfl;(with_reducible repeat (first|refine qb ?_ _|refine qe ?_|refine qc ?_ _));exact BK114.out⟩,⟨by repeat (first|(with_reducible first|exact HB.out|apply qf|apply qa|apply qd|refine qg ?_ GE111.out|refine qg ?_ GE114.out)|exact HB.out)⟩⟩
                    · replace c24:=Bool.eq_false_iff.mpr c24
                      subst c24
                      have H1 : (spec_GraphOk.j1 k1 x3_1 true a0_0 l0_1 ((rd_T101 l0_1 x3_1).f0) ((rd_T101 l0_1 x3_1).f1) ((rd_T101 l0_1 x3_1).f2) ((rd_T101 l0_1 x3_1).f3) ((rd_T101 l0_1 x3_1).f4)) = some r:=by rw [if_neg (show ¬ (false = true) by decide)] at H;exact H
                      clear H
                      have H:=H1
                      clear H1
                      have H':=qn.mk H
                      clear H
                      have hnb34:=NB114_111.out
                      have hnc34:=NB111_114.out
                      have hcz35_0 : w10.cell? ⟨gb114,0,none⟩ = some (.int .i64 0):=(qh BK114.out 0).trans rfl
                      have hcz35_1 : w10.cell? ⟨gb114,1,none⟩ = some (.int .i64 0):=(qh BK114.out 1).trans rfl
                      have hcz35_2 : w10.cell? ⟨gb114,2,none⟩ = some (.int .i64 0):=(qh BK114.out 2).trans rfl
                      have hcz35_3 : w10.cell? ⟨gb114,3,none⟩ = some (.int .i64 0):=(qh BK114.out 3).trans rfl
                      have hcz35_4 : w10.cell? ⟨gb114,4,none⟩ = some (.int .i64 0):=(qh BK114.out 4).trans rfl
                      have hfz35_0:=qi BK114.out 0
                      have hfz35_1:=qi BK114.out 1
                      have hfz35_2:=qi BK114.out 2
                      have hfz35_3:=qi BK114.out 3
                      have hfz35_4:=qi BK114.out 4
                      have hcz36_0 : w10.cell? ⟨gb111,0,none⟩ = some (.int .i64 a0_0):=(qh BK111.out 0).trans rfl
                      have hcz36_1 : w10.cell? ⟨gb111,1,none⟩ = some (.slice (some ad113) l0_1.length c0_1):=(qh BK111.out 1).trans rfl
                      have hfz36_0:=qi BK111.out 0
                      have hfz36_1:=qi BK111.out 1
                      go_wp2_with (first|(go_at_call 73;(with_reducible refine (spec_l08Worth.calls ((rd_T101 l0_1 x3_1).f2) false _ A23.out).mono ?_);rintro e w' ⟨rfl,⟨nd,rfl⟩⟩;(try first|exact ⟨rfl,_,World.drewN_drewN _ _ _⟩|exact ⟨rfl,_,Eq.trans (World.drewN_drewN _ _ _) (congrArg (World.drewN _) (Nat.add_assoc _ _ _))⟩)))
                      repeat (go_quiet (first|(go_at_call 73;(with_reducible refine (spec_l08Worth.calls ((rd_T101 l0_1 x3_1).f2) false _ A23.out).mono ?_);rintro e w' ⟨rfl,⟨nd,rfl⟩⟩;(try first|exact ⟨rfl,_,World.drewN_drewN _ _ _⟩|exact ⟨rfl,_,Eq.trans (World.drewN_drewN _ _ _) (congrArg (World.drewN _) (Nat.add_assoc _ _ _))⟩)));try go_wp2_with (first|(go_at_call 73;(with_reducible refine (spec_l08Worth.calls ((rd_T101 l0_1 x3_1).f2) false _ A23.out).mono ?_);rintro e w' ⟨rfl,⟨nd,rfl⟩⟩;(try first|exact ⟨rfl,_,World.drewN_drewN _ _ _⟩|exact ⟨rfl,_,Eq.trans (World.drewN_drewN _ _ _) (congrArg (World.drewN _) (Nat.add_assoc _ _ _))⟩))))
                      go_meet
                      case rel=>exact ⟨_,(true),(by first|rfl|(simp;done)|(simp [*];done)),H',⟨by have:=HK1.out;first|omega|exact Nat.le_refl _⟩,⟨by (with_reducible repeat (first|refine qb ?_ _|refine qe ?_|refine qc ?_ _));refine blk_far ?_ NB111_114.out _;(with_reducible repeat (first|refine qb ?_ _|refine qe ?_|refine qc ?_ _));refine blk_far ?_ NB111_114.out _;(with_reducible repeat (first|refine qb ?_ _|refine qe ?_|refine qc ?_ _));refine blk_far ?_ NB111_114.out _;(with_reducible repeat (first|refine qb ?_ _|refine qe ?_|refine qc ?_ _));refine blk_far ?_ NB111_114.out _;(with_reducible repeat (first|refine qb ?_ _|refine qe ?_|refine qc ?_ _));refine blk_far ?_ NB111_114.out _;(with_reducible repeat (first|refine qb ?_ _|refine qe ?_|refine qc ?_ _));exact BK111.out⟩,⟨by (with_reducible repeat (first|refine qb ?_ _|refine qe ?_|refine qc ?_ _));refine blk_put (cs:=#[.int .i64 ((rd_T101 l0_1 x3_1).f0),.int .i64 ((rd_T101 l0_1 x3_1).f1),.int .i64 ((rd_T101 l0_1 x3_1).f2),.int .i64 ((rd_T101 l0_1 x3_1).f3),.int .i64 0]) ?_ 4 _ rfl;(with_reducible repeat (first|refine qb ?_ _|refine qe ?_|refine qc ?_ _));refine blk_put (cs:=#[.int .i64 ((rd_T101 l0_1 x3_1).f0),.int .i64 ((rd_T101 l0_1 x3_1).f1),.int .i64 ((rd_T101 l0_1 x3_1).f2),.int .i64 0,.int .i64 0]) ?_ 3 _ rfl;(with_reducible repeat (first|refine qb ?_ _|refine qe ?_|refine qc ?_ _));refine blk_put (cs:=#[.int .i64 ((rd_T101 l0_1 x3_1).f0),.int .i64 ((rd_T101 l0_1 x3_1).f1),.int .i64 0,.int .i64 0,.int .i64 0]) ?_ 2 _ rfl;(with_reducible repeat (first|refine qb ?_ _|refine qe ?_|refine qc ?_ _));refine blk_put (cs:=#[.int .i64 ((rd_T101 l0_1 x3_1).f0),.int .i64 0,.int .i64 0,.int .i64 0,.int .i64 0]) ?_ 1 _ rfl;(with_reducible repeat (first|refine qb ?_ _|refine qe ?_|refine qc ?_ _));refine blk_put (cs:=#[.int .i64 0,.int .i64 0,.int .i64 0,.int .i64 0,.int .i64 0]) ?_ 0 _ rfl;(with_reducible repeat (first|refine qb ?_ _|refine qe ?_|refine qc ?_ _));exact BK114.out⟩,⟨by repeat (first|(with_reducible first|exact HB.out|apply qf|apply qa|apply qd|refine qg ?_ GE111.out|refine qg ?_ GE114.out)|exact HB.out)⟩⟩
            case rest =>
              clear HC8
              try clear c1
              try clear p1
              try clear q1
              try clear hx1
              try clear c2
              try clear p2
              try clear c3
              try clear c5
              try clear c6
              try clear c6b0
              try clear c7
              try clear c7b0
              try clear c11
              try clear p11
              try clear q11
              try clear hx11
              try clear c13
              try clear c13b0
              try clear c14
              try clear c16
              try clear c16b0
              try clear c17
              try clear c19
              try clear c19b0
              try clear c20
              try clear c24
              try clear c26
              try clear c28
              try clear c31
              try clear c34
              try clear hcz12_0
              try clear hcz12_1
              try clear hcz12_2
              try clear hcz12_3
              try clear hcz12_4
              try clear hcz15_0
              try clear hcz15_1
              try clear hcz15_2
              try clear hcz15_3
              try clear hcz15_4
              try clear hcz18_0
              try clear hcz18_1
              try clear hcz18_2
              try clear hcz18_3
              try clear hcz18_4
              try clear hcz21_0
              try clear hcz21_1
              try clear hcz21_2
              try clear hcz21_3
              try clear hcz21_4
              try clear hcz22_0
              try clear hcz22_1
              try clear hcz29_0
              try clear hcz29_1
              try clear hcz29_2
              try clear hcz29_3
              try clear hcz29_4
              try clear hcz30_0
              try clear hcz30_1
              try clear hcz32_0
              try clear hcz32_1
              try clear hcz32_2
              try clear hcz32_3
              try clear hcz32_4
              try clear hcz33_0
              try clear hcz33_1
              try clear hcz35_0
              try clear hcz35_1
              try clear hcz35_2
              try clear hcz35_3
              try clear hcz35_4
              try clear hcz36_0
              try clear hcz36_1
              try clear hcz5_0
              try clear hcz5_1
              try clear hcz9_0
              try clear hcz9_1
              try clear hfz12_0
              try clear hfz12_1
              try clear hfz12_2
              try clear hfz12_3
              try clear hfz12_4
              try clear hfz15_0
              try clear hfz15_1
              try clear hfz15_2
              try clear hfz15_3
              try clear hfz15_4
              try clear hfz18_0
              try clear hfz18_1
              try clear hfz18_2
              try clear hfz18_3
              try clear hfz18_4
              try clear hfz21_0
              try clear hfz21_1
              try clear hfz21_2
              try clear hfz21_3
              try clear hfz21_4
              try clear hfz22_0
              try clear hfz22_1
              try clear hfz29_0
              try clear hfz29_1
              try clear hfz29_2
              try clear hfz29_3
              try clear hfz29_4
              try clear hfz30_0
              try clear hfz30_1
              try clear hfz32_0
              try clear hfz32_1
              try clear hfz32_2
              try clear hfz32_3
              try clear hfz32_4
              try clear hfz33_0
              try clear hfz33_1
              try clear hfz35_0
              try clear hfz35_1
              try clear hfz35_2
              try clear hfz35_3
              try clear hfz35_4
              try clear hfz36_0
              try clear hfz36_1
              try clear hfz5_0
              try clear hfz5_1
              try clear hfz9_0
              try clear hfz9_1
              try clear hx113_0
              try clear hx113_1
              try clear hx113_2
              try clear hx113_3
              try clear hx113_4
              try clear p113
              try clear p2
              try clear q113
              obtain ⟨kq,x55_7,rfl,HA,HJ7,BK111,BK114,HB⟩:=hcut
              cases kq with
              | zero=>exact absurd HA.out (by simp [spec_GraphOk.j1])
              | succ kj7 =>
                have H:=HA.out
                clear HA
                simp only [spec_GraphOk.j1] at H
                by_cases c37 : x55_7 = true
                · subst c37
                  have H1 : (some false) = some r:=by rw [if_pos rfl] at H;exact H
                  clear H
                  have H:=H1
                  clear H1
                  obtain rfl:=Option.some.inj H
                  go_wp2
                  repeat (go_quiet (fail);try go_wp2)
                  go_ret
                  exact ⟨by first|rfl|(simp [errW_none,errW_some] <;> rfl)|(simp [*,errW_none,errW_some] <;> rfl),by repeat (first|(with_reducible first|exact HB.out|apply qf|apply qa|apply qd|refine qg ?_ GE111.out|refine qg ?_ GE114.out)|exact HB.out)⟩
                · replace c37:=Bool.eq_false_iff.mpr c37
                  subst c37
                  have H1 : (if x3_1 > 0 then (if 0 ≤ (wrap64 (x3_1 - 1)) then (if (wrap64 (x3_1 - 1)) < (l0_1.length : Int) then (if ((rd_T101 l0_1 (wrap64 (x3_1 - 1))).f0) > ((rd_T101 l0_1 x3_1).f0) then (some false) else (if ((rd_T101 l0_1 (wrap64 (x3_1 - 1))).f0) = ((rd_T101 l0_1 x3_1).f0) then (if ((rd_T101 l0_1 (wrap64 (x3_1 - 1))).f1) ≥ ((rd_T101 l0_1 x3_1).f1) then (some false) else (spec_GraphOk.l0 kj7 (wrap64 (x3_1 + 1)) a0_0 l0_1)) else (spec_GraphOk.l0 kj7 (wrap64 (x3_1 + 1)) a0_0 l0_1))) else (none)) else (none)) else (spec_GraphOk.l0 kj7 (wrap64 (x3_1 + 1)) a0_0 l0_1)) = some r:=by rw [if_neg (show ¬ (false = true) by decide)] at H;exact H
                  clear H
                  have H:=H1
                  clear H1
                  by_cases c38 : x3_1 > 0
                  · rw [if_pos c38] at H
                    have c38b0 : decide (0 < x3_1) = true:=decide_eq_true c38
                    clear c38
                    obtain ⟨ji39,hji39⟩ : ∃ j_ : Int,(wrap64 (x3_1 - 1)) = j_:=⟨_,rfl⟩
                    replace H : (if 0 ≤ (ji39) then (if (ji39) < (l0_1.length : Int) then (if ((rd_T101 l0_1 (ji39)).f0) > ((rd_T101 l0_1 x3_1).f0) then (some false) else (if ((rd_T101 l0_1 (ji39)).f0) = ((rd_T101 l0_1 x3_1).f0) then (if ((rd_T101 l0_1 (ji39)).f1) ≥ ((rd_T101 l0_1 x3_1).f1) then (some false) else (spec_GraphOk.l0 kj7 (wrap64 (x3_1 + 1)) a0_0 l0_1)) else (spec_GraphOk.l0 kj7 (wrap64 (x3_1 + 1)) a0_0 l0_1))) else (none)) else (none)) = some r:=by first|(rw [hji39] at H;exact H)|(simp only [hji39] at H ⊢;exact H)
                    have hji39w : (IntKind.i64.wrap (x3_1 - 1)) = ji39:=(i64_w _).trans hji39
                    by_cases c40 : 0 ≤ (ji39)
                    · rw [if_pos c40] at H
                      have c40b0 : decide (0 ≤ (ji39)) = true:=decide_eq_true c40
                      clear c40
                      by_cases c41 : (ji39) < (l0_1.length : Int)
                      · rw [if_pos c41] at H
                        have c41b0 : decide ((ji39) < (l0_1.length : Int)) = true:=decide_eq_true c41
                        clear c41
                        by_cases c42 : ((rd_T101 l0_1 (ji39)).f0) > ((rd_T101 l0_1 x3_1).f0)
                        · rw [if_pos c42] at H
                          have c42b0 : decide (((rd_T101 l0_1 x3_1).f0) < ((rd_T101 l0_1 (ji39)).f0)) = true:=decide_eq_true c42
                          clear c42
                          obtain rfl:=Option.some.inj H
                          have hnb43:=NB111_114.out
                          have hnc43:=NB114_111.out
                          have hcz44_0 : wc.cell? ⟨gb111,0,none⟩ = some (.int .i64 a0_0):=(qh BK111.out 0).trans rfl
                          have hcz44_1 : wc.cell? ⟨gb111,1,none⟩ = some (.slice (some ad113) l0_1.length c0_1):=(qh BK111.out 1).trans rfl
                          have hfz44_0:=qi BK111.out 0
                          have hfz44_1:=qi BK111.out 1
                          have p118 : 0 ≤ ((ji39) : Int):=of_decide_eq_true (by first|(with_reducible assumption)|assumption)
                          have q118 : (ji39) < (l0_1.length : Int):=of_decide_eq_true (by first|(with_reducible assumption)|assumption)
                          obtain ⟨ad118,e118,hx118_0,hx118_1,hx118_2,hx118_3,hx118_4⟩:=at_T101 HR0_1.out (ji39) p118 q118
                          obtain rfl : ad113 = ad118:=(by injection e118)
                          replace hx118_0:=cb_ HB hx118_0
                          replace hx118_1:=cb_ HB hx118_1
                          replace hx118_2:=cb_ HB hx118_2
                          replace hx118_3:=cb_ HB hx118_3
                          replace hx118_4:=cb_ HB hx118_4
                          replace p118:=eq_true p118
                          replace q118:=eq_true q118
                          have hcz45_0 : wc.cell? ⟨gb114,0,none⟩ = some (.int .i64 ((rd_T101 l0_1 x3_1).f0)):=(qh BK114.out 0).trans rfl
                          have hcz45_1 : wc.cell? ⟨gb114,1,none⟩ = some (.int .i64 ((rd_T101 l0_1 x3_1).f1)):=(qh BK114.out 1).trans rfl
                          have hcz45_2 : wc.cell? ⟨gb114,2,none⟩ = some (.int .i64 ((rd_T101 l0_1 x3_1).f2)):=(qh BK114.out 2).trans rfl
                          have hcz45_3 : wc.cell? ⟨gb114,3,none⟩ = some (.int .i64 ((rd_T101 l0_1 x3_1).f3)):=(qh BK114.out 3).trans rfl
                          have hcz45_4 : wc.cell? ⟨gb114,4,none⟩ = some (.int .i64 ((rd_T101 l0_1 x3_1).f4)):=(qh BK114.out 4).trans rfl
                          have hfz45_0:=qi BK114.out 0
                          have hfz45_1:=qi BK114.out 1
                          have hfz45_2:=qi BK114.out 2
                          have hfz45_3:=qi BK114.out 3
                          have hfz45_4:=qi BK114.out 4
                          go_wp2
                          repeat (go_quiet (fail);try go_wp2)
                          go_ret
                          exact ⟨by first|rfl|(simp [errW_none,errW_some] <;> rfl)|(simp only [← hji39];first|rfl|(simp [errW_none,errW_some] <;> rfl))|(simp [*,errW_none,errW_some] <;> rfl),by repeat (first|(with_reducible first|exact HB.out|apply qf|apply qa|apply qd|refine qg ?_ GE111.out|refine qg ?_ GE114.out)|exact HB.out)⟩
                        · rw [if_neg c42] at H
                          have c42b0 : decide (((rd_T101 l0_1 x3_1).f0) < ((rd_T101 l0_1 (ji39)).f0)) = false:=decide_eq_false c42
                          clear c42
                          by_cases c46 : ((rd_T101 l0_1 (ji39)).f0) = ((rd_T101 l0_1 x3_1).f0)
                          · rw [if_pos c46] at H
                            have c46b0 : (((rd_T101 l0_1 (ji39)).f0) == ((rd_T101 l0_1 x3_1).f0)) = true:=beq_iff_eq.mpr c46
                            have c46b1 : (((rd_T101 l0_1 (ji39)).f0) != ((rd_T101 l0_1 x3_1).f0)) = false:=bne_eq_false_iff_eq.mpr c46
                            clear c46
                            by_cases c47 : ((rd_T101 l0_1 (ji39)).f1) ≥ ((rd_T101 l0_1 x3_1).f1)
                            · rw [if_pos c47] at H
                              have c47b0 : decide (((rd_T101 l0_1 x3_1).f1) ≤ ((rd_T101 l0_1 (ji39)).f1)) = true:=decide_eq_true c47
                              clear c47
                              obtain rfl:=Option.some.inj H
                              have hnb48:=NB111_114.out
                              have hnc48:=NB114_111.out
                              have hcz49_0 : wc.cell? ⟨gb111,0,none⟩ = some (.int .i64 a0_0):=(qh BK111.out 0).trans rfl
                              have hcz49_1 : wc.cell? ⟨gb111,1,none⟩ = some (.slice (some ad113) l0_1.length c0_1):=(qh BK111.out 1).trans rfl
                              have hfz49_0:=qi BK111.out 0
                              have hfz49_1:=qi BK111.out 1
                              have p118 : 0 ≤ ((ji39) : Int):=of_decide_eq_true (by first|(with_reducible assumption)|assumption)
                              have q118 : (ji39) < (l0_1.length : Int):=of_decide_eq_true (by first|(with_reducible assumption)|assumption)
                              obtain ⟨ad118,e118,hx118_0,hx118_1,hx118_2,hx118_3,hx118_4⟩:=at_T101 HR0_1.out (ji39) p118 q118
                              obtain rfl : ad113 = ad118:=(by injection e118)
                              replace hx118_0:=cb_ HB hx118_0
                              replace hx118_1:=cb_ HB hx118_1
                              replace hx118_2:=cb_ HB hx118_2
                              replace hx118_3:=cb_ HB hx118_3
                              replace hx118_4:=cb_ HB hx118_4
                              replace p118:=eq_true p118
                              replace q118:=eq_true q118
                              have hcz50_0 : wc.cell? ⟨gb114,0,none⟩ = some (.int .i64 ((rd_T101 l0_1 x3_1).f0)):=(qh BK114.out 0).trans rfl
                              have hcz50_1 : wc.cell? ⟨gb114,1,none⟩ = some (.int .i64 ((rd_T101 l0_1 x3_1).f1)):=(qh BK114.out 1).trans rfl
                              have hcz50_2 : wc.cell? ⟨gb114,2,none⟩ = some (.int .i64 ((rd_T101 l0_1 x3_1).f2)):=(qh BK114.out 2).trans rfl
                              have hcz50_3 : wc.cell? ⟨gb114,3,none⟩ = some (.int .i64 ((rd_T101 l0_1 x3_1).f3)):=(qh BK114.out 3).trans rfl
                              have hcz50_4 : wc.cell? ⟨gb114,4,none⟩ = some (.int .i64 ((rd_T101 l0_1 x3_1).f4)):=(qh BK114.out 4).trans rfl
                              have hfz50_0:=qi BK114.out 0
                              have hfz50_1:=qi BK114.out 1
                              have hfz50_2:=qi BK114.out 2
                              have hfz50_3:=qi BK114.out 3
                              have hfz50_4:=qi BK114.out 4
                              have p119 : 0 ≤ ((ji39) : Int):=of_decide_eq_true (by first|(with_reducible assumption)|assumption)
                              have q119 : (ji39) < (l0_1.length : Int):=of_decide_eq_true (by first|(with_reducible assumption)|assumption)
                              obtain ⟨ad119,e119,hx119_0,hx119_1,hx119_2,hx119_3,hx119_4⟩:=at_T101 HR0_1.out (ji39) p119 q119
                              obtain rfl : ad113 = ad119:=(by injection e119)
                              replace hx119_0:=cb_ HB hx119_0
                              replace hx119_1:=cb_ HB hx119_1
                              replace hx119_2:=cb_ HB hx119_2
                              replace hx119_3:=cb_ HB hx119_3
                              replace hx119_4:=cb_ HB hx119_4
                              replace p119:=eq_true p119
                              replace q119:=eq_true q119
                              have p120 : 0 ≤ ((ji39) : Int):=of_decide_eq_true (by first|(with_reducible assumption)|assumption)
                              have q120 : (ji39) < (l0_1.length : Int):=of_decide_eq_true (by first|(with_reducible assumption)|assumption)
                              obtain ⟨ad120,e120,hx120_0,hx120_1,hx120_2,hx120_3,hx120_4⟩:=at_T101 HR0_1.out (ji39) p120 q120
                              obtain rfl : ad113 = ad120:=(by injection e120)
                              replace hx120_0:=cb_ HB hx120_0
                              replace hx120_1:=cb_ HB hx120_1
                              replace hx120_2:=cb_ HB hx120_2
                              replace hx120_3:=cb_ HB hx120_3
                              replace hx120_4:=cb_ HB hx120_4
                              replace p120:=eq_true p120
                              replace q120:=eq_true q120
                              go_wp2
                              repeat (go_quiet (fail);try go_wp2)
                              go_ret
                              exact ⟨by first|rfl|(simp [errW_none,errW_some] <;> rfl)|(simp only [← hji39];first|rfl|(simp [errW_none,errW_some] <;> rfl))|(simp [*,errW_none,errW_some] <;> rfl),by repeat (first|(with_reducible first|exact HB.out|apply qf|apply qa|apply qd|refine qg ?_ GE111.out|refine qg ?_ GE114.out)|exact HB.out)⟩
                            · rw [if_neg c47] at H
                              have c47b0 : decide (((rd_T101 l0_1 x3_1).f1) ≤ ((rd_T101 l0_1 (ji39)).f1)) = false:=decide_eq_false c47
                              clear c47
                              have H':=qn.mk H
                              clear H
                              have hnb51:=NB111_114.out
                              have hnc51:=NB114_111.out
                              have hcz52_0 : wc.cell? ⟨gb111,0,none⟩ = some (.int .i64 a0_0):=(qh BK111.out 0).trans rfl
                              have hcz52_1 : wc.cell? ⟨gb111,1,none⟩ = some (.slice (some ad113) l0_1.length c0_1):=(qh BK111.out 1).trans rfl
                              have hfz52_0:=qi BK111.out 0
                              have hfz52_1:=qi BK111.out 1
                              have p118 : 0 ≤ ((ji39) : Int):=of_decide_eq_true (by first|(with_reducible assumption)|assumption)
                              have q118 : (ji39) < (l0_1.length : Int):=of_decide_eq_true (by first|(with_reducible assumption)|assumption)
                              obtain ⟨ad118,e118,hx118_0,hx118_1,hx118_2,hx118_3,hx118_4⟩:=at_T101 HR0_1.out (ji39) p118 q118
                              obtain rfl : ad113 = ad118:=(by injection e118)
                              replace hx118_0:=cb_ HB hx118_0
                              replace hx118_1:=cb_ HB hx118_1
                              replace hx118_2:=cb_ HB hx118_2
                              replace hx118_3:=cb_ HB hx118_3
                              replace hx118_4:=cb_ HB hx118_4
                              replace p118:=eq_true p118
                              replace q118:=eq_true q118
                              have hcz53_0 : wc.cell? ⟨gb114,0,none⟩ = some (.int .i64 ((rd_T101 l0_1 x3_1).f0)):=(qh BK114.out 0).trans rfl
                              have hcz53_1 : wc.cell? ⟨gb114,1,none⟩ = some (.int .i64 ((rd_T101 l0_1 x3_1).f1)):=(qh BK114.out 1).trans rfl
                              have hcz53_2 : wc.cell? ⟨gb114,2,none⟩ = some (.int .i64 ((rd_T101 l0_1 x3_1).f2)):=(qh BK114.out 2).trans rfl
                              have hcz53_3 : wc.cell? ⟨gb114,3,none⟩ = some (.int .i64 ((rd_T101 l0_1 x3_1).f3)):=(qh BK114.out 3).trans rfl
                              have hcz53_4 : wc.cell? ⟨gb114,4,none⟩ = some (.int .i64 ((rd_T101 l0_1 x3_1).f4)):=(qh BK114.out 4).trans rfl
                              have hfz53_0:=qi BK114.out 0
                              have hfz53_1:=qi BK114.out 1
                              have hfz53_2:=qi BK114.out 2
                              have hfz53_3:=qi BK114.out 3
                              have hfz53_4:=qi BK114.out 4
                              have p119 : 0 ≤ ((ji39) : Int):=of_decide_eq_true (by first|(with_reducible assumption)|assumption)
                              have q119 : (ji39) < (l0_1.length : Int):=of_decide_eq_true (by first|(with_reducible assumption)|assumption)
                              obtain ⟨ad119,e119,hx119_0,hx119_1,hx119_2,hx119_3,hx119_4⟩:=at_T101 HR0_1.out (ji39) p119 q119
                              obtain rfl : ad113 = ad119:=(by injection e119)
                              replace hx119_0:=cb_ HB hx119_0
                              replace hx119_1:=cb_ HB hx119_1
                              replace hx119_2:=cb_ HB hx119_2
                              replace hx119_3:=cb_ HB hx119_3
                              replace hx119_4:=cb_ HB hx119_4
                              replace p119:=eq_true p119
                              replace q119:=eq_true q119
                              have p120 : 0 ≤ ((ji39) : Int):=of_decide_eq_true (by first|(with_reducible assumption)|assumption)
                              have q120 : (ji39) < (l0_1.length : Int):=of_decide_eq_true (by first|(with_reducible assumption)|assumption)
                              obtain ⟨ad120,e120,hx120_0,hx120_1,hx120_2,hx120_3,hx120_4⟩:=at_T101 HR0_1.out (ji39) p120 q120
                              obtain rfl : ad113 = ad120:=(by injection e120)
                              replace hx120_0:=cb_ HB hx120_0
                              replace hx120_1:=cb_ HB hx120_1
                              replace hx120_2:=cb_ HB hx120_2
                              replace hx120_3:=cb_ HB hx120_3
                              replace hx120_4:=cb_ HB hx120_4
                              replace p120:=eq_true p120
                              replace q120:=eq_true q120
                              go_wp2
                              repeat (go_quiet (fail);try go_wp2)
                              go_roundg kj7
                              case measure=>have:=HK1.out;have:=HJ7.out;omega
                              case rel=>exact ⟨(wrap64 (x3_1 + 1)),(by first|rfl|(simp;done)|(simp [*];done)),H',⟨by have:=HK1.out;have:=HJ7.out;omega⟩,⟨by (with_reducible repeat (first|refine qb ?_ _|refine qe ?_|refine qc ?_ _));exact BK111.out⟩,⟨by repeat (first|(with_reducible first|exact HB.out|apply qf|apply qa|apply qd|refine qg ?_ GE111.out|refine qg ?_ GE114.out)|exact HB.out)⟩⟩
                          · rw [if_neg c46] at H
                            have c46b0 : (((rd_T101 l0_1 (ji39)).f0) == ((rd_T101 l0_1 x3_1).f0)) = false:=beq_eq_false_iff_ne.mpr c46
                            have c46b1 : (((rd_T101 l0_1 (ji39)).f0) != ((rd_T101 l0_1 x3_1).f0)) = true:=bne_iff_ne.mpr c46
                            have H':=qn.mk H
                            clear H
                            have hnb54:=NB111_114.out
                            have hnc54:=NB114_111.out
                            have hcz55_0 : wc.cell? ⟨gb111,0,none⟩ = some (.int .i64 a0_0):=(qh BK111.out 0).trans rfl
                            have hcz55_1 : wc.cell? ⟨gb111,1,none⟩ = some (.slice (some ad113) l0_1.length c0_1):=(qh BK111.out 1).trans rfl
                            have hfz55_0:=qi BK111.out 0
                            have hfz55_1:=qi BK111.out 1
                            have p118 : 0 ≤ ((ji39) : Int):=of_decide_eq_true (by first|(with_reducible assumption)|assumption)
                            have q118 : (ji39) < (l0_1.length : Int):=of_decide_eq_true (by first|(with_reducible assumption)|assumption)
                            obtain ⟨ad118,e118,hx118_0,hx118_1,hx118_2,hx118_3,hx118_4⟩:=at_T101 HR0_1.out (ji39) p118 q118
                            obtain rfl : ad113 = ad118:=(by injection e118)
                            replace hx118_0:=cb_ HB hx118_0
                            replace hx118_1:=cb_ HB hx118_1
                            replace hx118_2:=cb_ HB hx118_2
                            replace hx118_3:=cb_ HB hx118_3
                            replace hx118_4:=cb_ HB hx118_4
                            replace p118:=eq_true p118
                            replace q118:=eq_true q118
                            have hcz56_0 : wc.cell? ⟨gb114,0,none⟩ = some (.int .i64 ((rd_T101 l0_1 x3_1).f0)):=(qh BK114.out 0).trans rfl
                            have hcz56_1 : wc.cell? ⟨gb114,1,none⟩ = some (.int .i64 ((rd_T101 l0_1 x3_1).f1)):=(qh BK114.out 1).trans rfl
                            have hcz56_2 : wc.cell? ⟨gb114,2,none⟩ = some (.int .i64 ((rd_T101 l0_1 x3_1).f2)):=(qh BK114.out 2).trans rfl
                            have hcz56_3 : wc.cell? ⟨gb114,3,none⟩ = some (.int .i64 ((rd_T101 l0_1 x3_1).f3)):=(qh BK114.out 3).trans rfl
                            have hcz56_4 : wc.cell? ⟨gb114,4,none⟩ = some (.int .i64 ((rd_T101 l0_1 x3_1).f4)):=(qh BK114.out 4).trans rfl
                            have hfz56_0:=qi BK114.out 0
                            have hfz56_1:=qi BK114.out 1
                            have hfz56_2:=qi BK114.out 2
                            have hfz56_3:=qi BK114.out 3
                            have hfz56_4:=qi BK114.out 4
                            have p119 : 0 ≤ ((ji39) : Int):=of_decide_eq_true (by first|(with_reducible assumption)|assumption)
                            have q119 : (ji39) < (l0_1.length : Int):=of_decide_eq_true (by first|(with_reducible assumption)|assumption)
                            obtain ⟨ad119,e119,hx119_0,hx119_1,hx119_2,hx119_3,hx119_4⟩:=at_T101 HR0_1.out (ji39) p119 q119
                            obtain rfl : ad113 = ad119:=(by injection e119)
                            replace hx119_0:=cb_ HB hx119_0
                            replace hx119_1:=cb_ HB hx119_1
                            replace hx119_2:=cb_ HB hx119_2
                            replace hx119_3:=cb_ HB hx119_3
                            replace hx119_4:=cb_ HB hx119_4
                            replace p119:=eq_true p119
                            replace q119:=eq_true q119
                            go_wp2
                            repeat (go_quiet (fail);try go_wp2)
                            go_roundg kj7
                            case measure=>have:=HK1.out;have:=HJ7.out;omega
                            case rel=>exact ⟨(wrap64 (x3_1 + 1)),(by first|rfl|(simp;done)|(simp [*];done)),H',⟨by have:=HK1.out;have:=HJ7.out;omega⟩,⟨by (with_reducible repeat (first|refine qb ?_ _|refine qe ?_|refine qc ?_ _));exact BK111.out⟩,⟨by repeat (first|(with_reducible first|exact HB.out|apply qf|apply qa|apply qd|refine qg ?_ GE111.out|refine qg ?_ GE114.out)|exact HB.out)⟩⟩
                      · rw [if_neg c41] at H
                        exact absurd H (by simp)
                    · rw [if_neg c40] at H
                      exact absurd H (by simp)
                  · rw [if_neg c38] at H
                    have c38b0 : decide (0 < x3_1) = false:=decide_eq_false c38
                    clear c38
                    have H':=qn.mk H
                    clear H
                    go_wp2
                    repeat (go_quiet (fail);try go_wp2)
                    go_roundg kj7
                    case measure=>have:=HK1.out;have:=HJ7.out;omega
                    case rel=>exact ⟨(wrap64 (x3_1 + 1)),(by first|rfl|(simp;done)|(simp [*];done)),H',⟨by have:=HK1.out;have:=HJ7.out;omega⟩,⟨by (with_reducible repeat (first|refine qb ?_ _|refine qe ?_|refine qc ?_ _));exact BK111.out⟩,⟨by repeat (first|(with_reducible first|exact HB.out|apply qf|apply qa|apply qd|refine qg ?_ GE111.out|refine qg ?_ GE114.out)|exact HB.out)⟩⟩
          · rw [if_neg c7] at H
            exact absurd H (by simp)
        · rw [if_neg c6] at H
          have c6b0 : decide (x3_1 < (l0_1.length : Int)) = false:=decide_eq_false c6
          clear c6
          obtain rfl:=Option.some.inj H
          have hcz57_0 : wr.cell? ⟨gb111,0,none⟩ = some (.int .i64 a0_0):=(qh BK111.out 0).trans rfl
          have hcz57_1 : wr.cell? ⟨gb111,1,none⟩ = some (.slice A0_1 l0_1.length c0_1):=(qh BK111.out 1).trans rfl
          have hfz57_0:=qi BK111.out 0
          have hfz57_1:=qi BK111.out 1
          go_wp2
          repeat (go_quiet (fail);try go_wp2)
          go_ret
          exact ⟨by first|rfl|(simp [errW_none,errW_some] <;> rfl)|(simp [*,errW_none,errW_some] <;> rfl),by repeat (first|(with_reducible first|exact HB.out|apply qf|apply qa|apply qd|refine qg ?_ GE111.out)|exact HB.out)⟩
  · replace c3:=Bool.eq_false_iff.mpr c3
    subst c3
    have H1 : (some false) = some r:=by rw [if_neg (show ¬ (false = true) by decide)] at H;exact H
    clear H
    have H:=H1
    clear H1
    obtain rfl:=Option.some.inj H
    go_enter Try.func51,Try.ntmps51
    go_wp2_with (first|((with_reducible refine gate_dst (N:=1) rfl ?_);refine box_event ?hg (N:=1) ?hd (cs:=#[.int .i64 a0_0,.slice A0_1 l0_1.length c0_1]) (t:=61) ?hr ?_;(case hd=>rfl);(case hg=>rfl);(case hr=>first|(go_simp;done)|(go_simp;rfl));intro gb111 hg w58 hbox hb;have n0_:=hs_ HB hb;have n1_:=qn.mk (hbox);have n2_:=qn.mk ((by rw [hg];exact (qj (by repeat (first|(with_reducible first|exact HB.out|apply qf|apply qa|apply qd)|exact HB.out))) : w.heap.size ≤ gb111));have n3_:=qn.mk ((by rw [hg];exact (qj (by repeat (first|(with_reducible first|exact HB.out|apply qf|apply qa|apply qd)|exact HB.out))) : w.heap.size ≤ gb111));clear HB;have HB:=n0_;have BK111:=n1_;have GW111:=n2_;have GE111:=n3_;clear n0_ n1_ n2_ n3_;clear hb hbox hg;have hcz59_0 : w58.cell? ⟨gb111,0,none⟩ = some (.int .i64 a0_0):=(qh BK111.out 0).trans rfl;have hcz59_1 : w58.cell? ⟨gb111,1,none⟩ = some (.slice A0_1 l0_1.length c0_1):=(qh BK111.out 1).trans rfl;have hfz59_0:=qi BK111.out 0;have hfz59_1:=qi BK111.out 1)|(go_at_call 30;(with_reducible refine (spec_l01In.calls a0_0 0 9 false _ A2.out).mono ?_);rintro e w' ⟨rfl,⟨nd,rfl⟩⟩;(try first|exact ⟨rfl,_,World.drewN_drewN _ _ _⟩|exact ⟨rfl,_,Eq.trans (World.drewN_drewN _ _ _) (congrArg (World.drewN _) (Nat.add_assoc _ _ _))⟩)))
    repeat (go_quiet (first|((with_reducible refine gate_dst (N:=1) rfl ?_);refine box_event ?hg (N:=1) ?hd (cs:=#[.int .i64 a0_0,.slice A0_1 l0_1.length c0_1]) (t:=61) ?hr ?_;(case hd=>rfl);(case hg=>rfl);(case hr=>first|(go_simp;done)|(go_simp;rfl));intro gb111 hg w58 hbox hb;have n0_:=hs_ HB hb;have n1_:=qn.mk (hbox);have n2_:=qn.mk ((by rw [hg];exact (qj (by repeat (first|(with_reducible first|exact HB.out|apply qf|apply qa|apply qd)|exact HB.out))) : w.heap.size ≤ gb111));have n3_:=qn.mk ((by rw [hg];exact (qj (by repeat (first|(with_reducible first|exact HB.out|apply qf|apply qa|apply qd)|exact HB.out))) : w.heap.size ≤ gb111));clear HB;have HB:=n0_;have BK111:=n1_;have GW111:=n2_;have GE111:=n3_;clear n0_ n1_ n2_ n3_;clear hb hbox hg;have hcz59_0 : w58.cell? ⟨gb111,0,none⟩ = some (.int .i64 a0_0):=(qh BK111.out 0).trans rfl;have hcz59_1 : w58.cell? ⟨gb111,1,none⟩ = some (.slice A0_1 l0_1.length c0_1):=(qh BK111.out 1).trans rfl;have hfz59_0:=qi BK111.out 0;have hfz59_1:=qi BK111.out 1)|(go_at_call 30;(with_reducible refine (spec_l01In.calls a0_0 0 9 false _ A2.out).mono ?_);rintro e w' ⟨rfl,⟨nd,rfl⟩⟩;(try first|exact ⟨rfl,_,World.drewN_drewN _ _ _⟩|exact ⟨rfl,_,Eq.trans (World.drewN_drewN _ _ _) (congrArg (World.drewN _) (Nat.add_assoc _ _ _))⟩)));try go_wp2_with (first|((with_reducible refine gate_dst (N:=1) rfl ?_);refine box_event ?hg (N:=1) ?hd (cs:=#[.int .i64 a0_0,.slice A0_1 l0_1.length c0_1]) (t:=61) ?hr ?_;(case hd=>rfl);(case hg=>rfl);(case hr=>first|(go_simp;done)|(go_simp;rfl));intro gb111 hg w58 hbox hb;have n0_:=hs_ HB hb;have n1_:=qn.mk (hbox);have n2_:=qn.mk ((by rw [hg];exact (qj (by repeat (first|(with_reducible first|exact HB.out|apply qf|apply qa|apply qd)|exact HB.out))) : w.heap.size ≤ gb111));have n3_:=qn.mk ((by rw [hg];exact (qj (by repeat (first|(with_reducible first|exact HB.out|apply qf|apply qa|apply qd)|exact HB.out))) : w.heap.size ≤ gb111));clear HB;have HB:=n0_;have BK111:=n1_;have GW111:=n2_;have GE111:=n3_;clear n0_ n1_ n2_ n3_;clear hb hbox hg;have hcz59_0 : w58.cell? ⟨gb111,0,none⟩ = some (.int .i64 a0_0):=(qh BK111.out 0).trans rfl;have hcz59_1 : w58.cell? ⟨gb111,1,none⟩ = some (.slice A0_1 l0_1.length c0_1):=(qh BK111.out 1).trans rfl;have hfz59_0:=qi BK111.out 0;have hfz59_1:=qi BK111.out 1)|(go_at_call 30;(with_reducible refine (spec_l01In.calls a0_0 0 9 false _ A2.out).mono ?_);rintro e w' ⟨rfl,⟨nd,rfl⟩⟩;(try first|exact ⟨rfl,_,World.drewN_drewN _ _ _⟩|exact ⟨rfl,_,Eq.trans (World.drewN_drewN _ _ _) (congrArg (World.drewN _) (Nat.add_assoc _ _ _))⟩))))
    go_ret
    exact ⟨by first|rfl|(simp [errW_none,errW_some] <;> rfl)|(simp [*,errW_none,errW_some] <;> rfl),by repeat (first|(with_reducible first|exact HB.out|apply qf|apply qa|apply qd|refine qg ?_ GE111.out)|exact HB.out)⟩

/-! ### spec_l03In: function 74 -/
def spec_l03In.l0 : Nat → List Int → Int → Int → Option (Bool)
  | 0,_,_,_=>none
  | k + 1,x0,x1,x5=>if x5 < (x0.length : Int) then (if 0 ≤ x5 then (if (rd x0 x5) = x1 then (some true) else (spec_l03In.l0 k x0 x1 (wrap64 (x5 + 1)))) else (none)) else (some false)
def spec_l03In.f (k : Nat) (l0 : List Int) (a1 : Int) : Option (Bool):=spec_l03In.l0 k l0 a1 0
theorem spec_l03In.mono_l : ∀ k,(∀ y0 y1 y2,LeO (spec_l03In.l0 k y0 y1 y2) (spec_l03In.l0 (k + 1) y0 y1 y2))
  | 0=>fun _ _ _ r h=>by simp [spec_l03In.l0] at h
  | k + 1=>by
    have ih0:=spec_l03In.mono_l k
    · intro y0 y1 y2
      unfold spec_l03In.l0
      repeat' first
      | (with_reducible exact ih0 _ _ _)
      | (with_reducible exact LeO.refl _)
      | (with_reducible exact LeO.none _)
      | (with_reducible refine LeO.ite ?_ ?_)
      | (with_reducible refine LeO.bind ?_ (fun _=>?_))
      | exact ih0 _ _ _
      | exact LeO.none _
      | refine LeO.ite ?_ ?_
      | refine LeO.bind ?_ (fun _=>?_)
theorem spec_l03In.mono : ∀ a0 a1 k,LeO (spec_l03In.f k a0 a1) (spec_l03In.f (k + 1) a0 a1):=by
  intro a0 a1 k
  have ih0:=spec_l03In.mono_l k
  unfold spec_l03In.f
  repeat' first
      | (with_reducible exact ih0 _ _ _)
      | (with_reducible exact LeO.refl _)
      | (with_reducible exact LeO.none _)
      | (with_reducible refine LeO.ite ?_ ?_)
      | (with_reducible refine LeO.bind ?_ (fun _=>?_))
      | exact ih0 _ _ _
      | exact LeO.none _
      | refine LeO.ite ?_ ?_
      | refine LeO.bind ?_ (fun _=>?_)
set_option maxHeartbeats 8000000 in
set_option maxRecDepth 100000 in
theorem spec_l03In.calls (k : Nat) (A0 : Option Addr) (c0 : Nat) (l0 : List Int) (a1 : Int) (r : Bool) (w : World) (hr0 : Kd.C (Kd.int .i64) w A0 l0.length l0) (hc0 : l0.length ≤ c0) (h : spec_l03In.f k l0 a1 = some r) :
    Calls Try.prog 74 #[.slice A0 l0.length c0,.int .i64 a1] w fun e w'=>e = .returned (.bool r) ∧ Drawn0 w w':=by
  have HR0:=qn.mk hr0
  have HC0:=qn.mk hc0
  clear hr0 hc0
  have H : (spec_l03In.l0 k l0 a1 0) = some r:=h
  clear h
  have H':=qn.mk H
  clear H
  go_enter Try.func74,Try.ntmps74
  go_wp2
  go_loopg [5] k (fun kq v5 w'=>∃ (x5_1 : Int),v5 = .int .i64 x5_1 ∧ qn (spec_l03In.l0 kq l0 a1 x5_1 = some r) ∧ qn (kq ≤ k) ∧ Drawn0 w w')
  case atStart=>exact ⟨(0),(by first|rfl|(simp;done)|(simp [*];done)),H',⟨Nat.le_refl _⟩,by repeat (first|exact Drawn0.refl _|apply Drawn0.step)⟩
  case round =>
    clear H'
    try clear p2
    obtain ⟨x5_1,rfl,HA,HK1,⟨m1,rfl⟩⟩:=hrel
    cases gk with
    | zero=>exact absurd HA.out (by simp [spec_l03In.l0])
    | succ k1 =>
      have H:=HA.out
      clear HA
      simp only [spec_l03In.l0] at H
      by_cases c3 : x5_1 < (l0.length : Int)
      · rw [if_pos c3] at H
        have c3b0 : decide (x5_1 < (l0.length : Int)) = true:=decide_eq_true c3
        clear c3
        by_cases c4 : 0 ≤ x5_1
        · rw [if_pos c4] at H
          have c4b0 : decide (0 ≤ x5_1) = true:=decide_eq_true c4
          clear c4
          by_cases c5 : (rd l0 x5_1) = a1
          · rw [if_pos c5] at H
            have c5b0 : ((rd l0 x5_1) == a1) = true:=beq_iff_eq.mpr c5
            have c5b1 : ((rd l0 x5_1) != a1) = false:=bne_eq_false_iff_eq.mpr c5
            clear c5
            obtain rfl:=Option.some.inj H
            have p121 : 0 ≤ (x5_1 : Int):=of_decide_eq_true (by first|(with_reducible assumption)|assumption)
            have q121 : x5_1 < (l0.length : Int):=of_decide_eq_true (by first|(with_reducible assumption)|assumption)
            obtain ⟨ad121,e121,hx121_0⟩:=Kd.at_int HR0.out x5_1 p121 q121
            cases e121
            replace p121:=eq_true p121
            replace q121:=eq_true q121
            go_wp2
            go_ret
            exact ⟨by first|rfl|(simp;done)|(simp [*];done),by repeat (first|exact Drawn0.refl _|apply Drawn0.step)⟩
          · rw [if_neg c5] at H
            have c5b0 : ((rd l0 x5_1) == a1) = false:=beq_eq_false_iff_ne.mpr c5
            have c5b1 : ((rd l0 x5_1) != a1) = true:=bne_iff_ne.mpr c5
            have H':=qn.mk H
            clear H
            have p121 : 0 ≤ (x5_1 : Int):=of_decide_eq_true (by first|(with_reducible assumption)|assumption)
            have q121 : x5_1 < (l0.length : Int):=of_decide_eq_true (by first|(with_reducible assumption)|assumption)
            obtain ⟨ad121,e121,hx121_0⟩:=Kd.at_int HR0.out x5_1 p121 q121
            cases e121
            replace p121:=eq_true p121
            replace q121:=eq_true q121
            go_wp2
            go_roundg k1
            case measure=>have:=HK1.out;omega
            case rel=>exact ⟨(wrap64 (x5_1 + 1)),(by first|rfl|(simp;done)|(simp [*];done)),H',⟨by have:=HK1.out;omega⟩,by repeat (first|exact Drawn0.refl _|apply Drawn0.step)⟩
        · rw [if_neg c4] at H
          exact absurd H (by simp)
      · rw [if_neg c3] at H
        have c3b0 : decide (x5_1 < (l0.length : Int)) = false:=decide_eq_false c3
        clear c3
        obtain rfl:=Option.some.inj H
        go_wp2
        go_ret
        exact ⟨by first|rfl|(simp;done)|(simp [*];done),by repeat (first|exact Drawn0.refl _|apply Drawn0.step)⟩

end Go.Proofs.Ytcdofljgeiohgaa.QFnExactProofOk
