/- Lean functions for the Go functions that the law FnExactProofOk reaches, and that each Go function comes to just its Lean function's answer; by a program of this session. -/
import Derived.Test.YtcdofljgeiohgaaZFnExactProofOkx0
import Derived.Test.YtcdofljgeiohgaaZFnExactProofOkx6
namespace Go.Proofs.Ytcdofljgeiohgaa.QFnExactProofOk
open Go.RowKit Go.Proofs.YtcdofljgeiohgaaW.PrintWords Go.Proofs.YtcdofljgeiohgaaW.PrintLast Go.Proofs.YtcdofljgeiohgaaW.PrintMore
attribute [local go_sem] max2_int min2_int max_two min_two max_three min_three max_four min_four   -- for this text's walks alone
set_option linter.unusedVariables false
set_option linter.unusedSimpArgs false

/-! ### impl_GraphOk: function 57 -/
mutual
def impl_GraphOk.l0 : Nat → List (S101) → Int → Int → Int → List (S101) → Option (Bool)
  | 0,_,_,_,_,_=>none
  | k + 1,x11,x12,x13,x200000,x200001=>if x13 < x12 then (if 0 ≤ x13 then (if x13 < (x11.length : Int) then ((impl_in.f ((rd_T101 x11 x13).f0) 0 (wrap64 (x200000 - 1))).bind fun t203=>(if t203 = true then ((impl_in.f ((rd_T101 x11 x13).f1) 0 (wrap64 (x200000 - 1))).bind fun t204=>(if t204 = true then (if ((rd_T101 x11 x13).f0) ≥ ((rd_T101 x11 x13).f1) then (impl_GraphOk.j1 k x13 x11 x12 x13 true x200000 x200001 ((rd_T101 x11 x13).f0) ((rd_T101 x11 x13).f1) ((rd_T101 x11 x13).f2) ((rd_T101 x11 x13).f3) ((rd_T101 x11 x13).f4)) else ((impl_in.f ((rd_T101 x11 x13).f2) 0 50).bind fun t205=>(if t205 = true then ((impl_in.f ((rd_T101 x11 x13).f3) 0 50).bind fun t206=>(if t206 = true then ((impl_in.f ((rd_T101 x11 x13).f4) 0 50).bind fun t207=>(impl_GraphOk.j1 k x13 x11 x12 x13 (!t207) x200000 x200001 ((rd_T101 x11 x13).f0) ((rd_T101 x11 x13).f1) ((rd_T101 x11 x13).f2) ((rd_T101 x11 x13).f3) ((rd_T101 x11 x13).f4))) else (impl_GraphOk.j1 k x13 x11 x12 x13 true x200000 x200001 ((rd_T101 x11 x13).f0) ((rd_T101 x11 x13).f1) ((rd_T101 x11 x13).f2) ((rd_T101 x11 x13).f3) ((rd_T101 x11 x13).f4)))) else (impl_GraphOk.j1 k x13 x11 x12 x13 true x200000 x200001 ((rd_T101 x11 x13).f0) ((rd_T101 x11 x13).f1) ((rd_T101 x11 x13).f2) ((rd_T101 x11 x13).f3) ((rd_T101 x11 x13).f4))))) else (impl_GraphOk.j1 k x13 x11 x12 x13 true x200000 x200001 ((rd_T101 x11 x13).f0) ((rd_T101 x11 x13).f1) ((rd_T101 x11 x13).f2) ((rd_T101 x11 x13).f3) ((rd_T101 x11 x13).f4)))) else (impl_GraphOk.j1 k x13 x11 x12 x13 true x200000 x200001 ((rd_T101 x11 x13).f0) ((rd_T101 x11 x13).f1) ((rd_T101 x11 x13).f2) ((rd_T101 x11 x13).f3) ((rd_T101 x11 x13).f4)))) else (none)) else (none)) else (some true)
def impl_GraphOk.j1 : Nat → Int → List (S101) → Int → Int → Bool → Int → List (S101) → Int → Int → Int → Int → Int → Option (Bool)
  | 0,_,_,_,_,_,_,_,_,_,_,_,_=>none
  | k + 1,x3,x11,x12,x13,x58,x200000,x200001,x203000,x203001,x203002,x203003,x203004=>if x58 = true then (some false) else (if x3 > 0 then (if 0 ≤ (wrap64 (x3 - 1)) then (if (wrap64 (x3 - 1)) < (x200001.length : Int) then (if ((rd_T101 x200001 (wrap64 (x3 - 1))).f0) > x203000 then (some false) else (if ((rd_T101 x200001 (wrap64 (x3 - 1))).f0) = x203000 then (if ((rd_T101 x200001 (wrap64 (x3 - 1))).f1) ≥ x203001 then (some false) else (impl_GraphOk.l0 k x11 x12 (wrap64 (x13 + 1)) x200000 x200001)) else (impl_GraphOk.l0 k x11 x12 (wrap64 (x13 + 1)) x200000 x200001))) else (none)) else (none)) else (impl_GraphOk.l0 k x11 x12 (wrap64 (x13 + 1)) x200000 x200001))
end
def impl_GraphOk.f (k : Nat) (a0_0 : Int) (l0_1 : List (S101)) : Option (Bool):=(impl_in.f a0_0 0 9).bind fun t200=>(if t200 = true then (impl_GraphOk.l0 k l0_1 (l0_1.length : Int) 0 a0_0 l0_1) else (some false))
theorem impl_GraphOk.mono_l : ∀ k,(∀ y0 y1 y2 y3 y4,LeO (impl_GraphOk.l0 k y0 y1 y2 y3 y4) (impl_GraphOk.l0 (k + 1) y0 y1 y2 y3 y4)) ∧ (∀ y0 y1 y2 y3 y4 y5 y6 y7 y8 y9 y10 y11,LeO (impl_GraphOk.j1 k y0 y1 y2 y3 y4 y5 y6 y7 y8 y9 y10 y11) (impl_GraphOk.j1 (k + 1) y0 y1 y2 y3 y4 y5 y6 y7 y8 y9 y10 y11))
  | 0=>⟨fun _ _ _ _ _ r h=>by simp [impl_GraphOk.l0] at h,fun _ _ _ _ _ _ _ _ _ _ _ _ r h=>by simp [impl_GraphOk.j1] at h⟩
  | k + 1=>by
    obtain ⟨ih0,ih1⟩:=impl_GraphOk.mono_l k
    refine ⟨?_,?_⟩
    · intro y0 y1 y2 y3 y4
      unfold impl_GraphOk.l0
      repeat' first
      | (with_reducible exact ih0 _ _ _ _ _)
      | (with_reducible exact ih1 _ _ _ _ _ _ _ _ _ _ _ _)
      | (with_reducible exact LeO.refl _)
      | (with_reducible exact LeO.none _)
      | (with_reducible refine LeO.ite ?_ ?_)
      | (with_reducible refine LeO.bind ?_ (fun _=>?_))
      | exact ih0 _ _ _ _ _
      | exact ih1 _ _ _ _ _ _ _ _ _ _ _ _
      | exact LeO.none _
      | refine LeO.ite ?_ ?_
      | refine LeO.bind ?_ (fun _=>?_)
    · intro y0 y1 y2 y3 y4 y5 y6 y7 y8 y9 y10 y11
      unfold impl_GraphOk.j1
      repeat' first
      | (with_reducible exact ih0 _ _ _ _ _)
      | (with_reducible exact ih1 _ _ _ _ _ _ _ _ _ _ _ _)
      | (with_reducible exact LeO.refl _)
      | (with_reducible exact LeO.none _)
      | (with_reducible refine LeO.ite ?_ ?_)
      | (with_reducible refine LeO.bind ?_ (fun _=>?_))
      | exact ih0 _ _ _ _ _
      | exact ih1 _ _ _ _ _ _ _ _ _ _ _ _
      | exact LeO.none _
      | refine LeO.ite ?_ ?_
      | refine LeO.bind ?_ (fun _=>?_)
theorem impl_GraphOk.mono : ∀ a0 a1 k,LeO (impl_GraphOk.f k a0 a1) (impl_GraphOk.f (k + 1) a0 a1):=by
  intro a0 a1 k
  obtain ⟨ih0,ih1⟩:=impl_GraphOk.mono_l k
  unfold impl_GraphOk.f
  repeat' first
      | (with_reducible exact ih0 _ _ _ _ _)
      | (with_reducible exact ih1 _ _ _ _ _ _ _ _ _ _ _ _)
      | (with_reducible exact LeO.refl _)
      | (with_reducible exact LeO.none _)
      | (with_reducible refine LeO.ite ?_ ?_)
      | (with_reducible refine LeO.bind ?_ (fun _=>?_))
      | exact ih0 _ _ _ _ _
      | exact ih1 _ _ _ _ _ _ _ _ _ _ _ _
      | exact LeO.none _
      | refine LeO.ite ?_ ?_
      | refine LeO.bind ?_ (fun _=>?_)
set_option maxHeartbeats 8000000 in
set_option maxRecDepth 100000 in
theorem impl_GraphOk.calls (k : Nat) (a0_0 : Int) (A0_1 : Option Addr) (c0_1 : Nat) (l0_1 : List (S101)) (r : Bool) (w : World) (hr0_1 : Kd.C k101 w A0_1 l0_1.length l0_1) (hc0_1 : l0_1.length ≤ c0_1) (h : impl_GraphOk.f k a0_0 l0_1 = some r) :
    Calls Try.prog 57 #[.agg #[.int .i64 a0_0,.slice A0_1 l0_1.length c0_1]] w fun e w'=>e = .returned (.bool r) ∧ Below w.heap.size w w':=by
  have hu61:=Try.underlying61
  have hu101:=Try.underlying101
  have HR0_1:=qn.mk hr0_1
  have HC0_1:=qn.mk hc0_1
  clear hr0_1 hc0_1
  have HB:=qn.mk (Below.refl w.heap.size w)
  have H : ((impl_in.f a0_0 0 9).bind fun t200=>(if t200 = true then (impl_GraphOk.l0 k l0_1 (l0_1.length : Int) 0 a0_0 l0_1) else (some false))) = some r:=h
  clear h
  replace H:=Option.bind_eq_some_iff.mp H
  obtain ⟨t200,A20,H⟩:=H
  replace H : (if t200 = true then (impl_GraphOk.l0 k l0_1 (l0_1.length : Int) 0 a0_0 l0_1) else (some false)) = some r:=H
  have A2:=qn.mk A20
  clear A20
  by_cases c3 : t200 = true
  · subst c3
    have H1 : (impl_GraphOk.l0 k l0_1 (l0_1.length : Int) 0 a0_0 l0_1) = some r:=by rw [if_pos rfl] at H;exact H
    clear H
    have H:=H1
    clear H1
    have H':=qn.mk H
    clear H
    go_enter Try.func57,Try.ntmps57
    go_wp2_with (first|((with_reducible refine gate_dst (N:=1) rfl ?_);refine box_event ?hg (N:=1) ?hd (cs:=#[.int .i64 a0_0,.slice A0_1 l0_1.length c0_1]) (t:=61) ?hr ?_;(case hd=>rfl);(case hg=>rfl);(case hr=>first|(go_simp;done)|(go_simp;rfl));intro gb199 hg w4 hbox hb;have n0_:=hs_ HB hb;have n1_:=qn.mk (hbox);have n2_:=qn.mk ((by rw [hg];exact (qj (by repeat (first|(with_reducible first|exact HB.out|apply qf|apply qa|apply qd)|exact HB.out))) : w.heap.size ≤ gb199));have n3_:=qn.mk ((by rw [hg];exact (qj (by repeat (first|(with_reducible first|exact HB.out|apply qf|apply qa|apply qd)|exact HB.out))) : w.heap.size ≤ gb199));clear HB;have HB:=n0_;have BK199:=n1_;have GW199:=n2_;have GE199:=n3_;clear n0_ n1_ n2_ n3_;clear hb hbox hg;have hcz5_0 : w4.cell? ⟨gb199,0,none⟩ = some (.int .i64 a0_0):=(qh BK199.out 0).trans rfl;have hcz5_1 : w4.cell? ⟨gb199,1,none⟩ = some (.slice A0_1 l0_1.length c0_1):=(qh BK199.out 1).trans rfl;have hfz5_0:=qi BK199.out 0;have hfz5_1:=qi BK199.out 1)|(go_at_call 28;(with_reducible refine (impl_in.calls a0_0 0 9 true _ A2.out).mono ?_);rintro e w' ⟨rfl,⟨nd,rfl⟩⟩;(try first|exact ⟨rfl,_,World.drewN_drewN _ _ _⟩|exact ⟨rfl,_,Eq.trans (World.drewN_drewN _ _ _) (congrArg (World.drewN _) (Nat.add_assoc _ _ _))⟩)))
    repeat (go_quiet (first|((with_reducible refine gate_dst (N:=1) rfl ?_);refine box_event ?hg (N:=1) ?hd (cs:=#[.int .i64 a0_0,.slice A0_1 l0_1.length c0_1]) (t:=61) ?hr ?_;(case hd=>rfl);(case hg=>rfl);(case hr=>first|(go_simp;done)|(go_simp;rfl));intro gb199 hg w4 hbox hb;have n0_:=hs_ HB hb;have n1_:=qn.mk (hbox);have n2_:=qn.mk ((by rw [hg];exact (qj (by repeat (first|(with_reducible first|exact HB.out|apply qf|apply qa|apply qd)|exact HB.out))) : w.heap.size ≤ gb199));have n3_:=qn.mk ((by rw [hg];exact (qj (by repeat (first|(with_reducible first|exact HB.out|apply qf|apply qa|apply qd)|exact HB.out))) : w.heap.size ≤ gb199));clear HB;have HB:=n0_;have BK199:=n1_;have GW199:=n2_;have GE199:=n3_;clear n0_ n1_ n2_ n3_;clear hb hbox hg;have hcz5_0 : w4.cell? ⟨gb199,0,none⟩ = some (.int .i64 a0_0):=(qh BK199.out 0).trans rfl;have hcz5_1 : w4.cell? ⟨gb199,1,none⟩ = some (.slice A0_1 l0_1.length c0_1):=(qh BK199.out 1).trans rfl;have hfz5_0:=qi BK199.out 0;have hfz5_1:=qi BK199.out 1)|(go_at_call 28;(with_reducible refine (impl_in.calls a0_0 0 9 true _ A2.out).mono ?_);rintro e w' ⟨rfl,⟨nd,rfl⟩⟩;(try first|exact ⟨rfl,_,World.drewN_drewN _ _ _⟩|exact ⟨rfl,_,Eq.trans (World.drewN_drewN _ _ _) (congrArg (World.drewN _) (Nat.add_assoc _ _ _))⟩)));try go_wp2_with (first|((with_reducible refine gate_dst (N:=1) rfl ?_);refine box_event ?hg (N:=1) ?hd (cs:=#[.int .i64 a0_0,.slice A0_1 l0_1.length c0_1]) (t:=61) ?hr ?_;(case hd=>rfl);(case hg=>rfl);(case hr=>first|(go_simp;done)|(go_simp;rfl));intro gb199 hg w4 hbox hb;have n0_:=hs_ HB hb;have n1_:=qn.mk (hbox);have n2_:=qn.mk ((by rw [hg];exact (qj (by repeat (first|(with_reducible first|exact HB.out|apply qf|apply qa|apply qd)|exact HB.out))) : w.heap.size ≤ gb199));have n3_:=qn.mk ((by rw [hg];exact (qj (by repeat (first|(with_reducible first|exact HB.out|apply qf|apply qa|apply qd)|exact HB.out))) : w.heap.size ≤ gb199));clear HB;have HB:=n0_;have BK199:=n1_;have GW199:=n2_;have GE199:=n3_;clear n0_ n1_ n2_ n3_;clear hb hbox hg;have hcz5_0 : w4.cell? ⟨gb199,0,none⟩ = some (.int .i64 a0_0):=(qh BK199.out 0).trans rfl;have hcz5_1 : w4.cell? ⟨gb199,1,none⟩ = some (.slice A0_1 l0_1.length c0_1):=(qh BK199.out 1).trans rfl;have hfz5_0:=qi BK199.out 0;have hfz5_1:=qi BK199.out 1)|(go_at_call 28;(with_reducible refine (impl_in.calls a0_0 0 9 true _ A2.out).mono ?_);rintro e w' ⟨rfl,⟨nd,rfl⟩⟩;(try first|exact ⟨rfl,_,World.drewN_drewN _ _ _⟩|exact ⟨rfl,_,Eq.trans (World.drewN_drewN _ _ _) (congrArg (World.drewN _) (Nat.add_assoc _ _ _))⟩))))
    go_loopg [13] k (fun kq v13 w'=>∃ (x13_1 : Int),v13 = .int .i64 x13_1 ∧ qn (impl_GraphOk.l0 kq l0_1 (l0_1.length : Int) x13_1 a0_0 l0_1 = some r) ∧ qn (kq ≤ k) ∧ qn (w'.heap[gb199]? = some (.cells #[.int .i64 a0_0,(.slice A0_1 l0_1.length c0_1)] 61 (0,0))) ∧ qn (Below w.heap.size w w'))
    case atStart=>exact ⟨(0),(by first|rfl|(simp;done)|(simp [*];done)),H',⟨Nat.le_refl _⟩,⟨by (with_reducible repeat (first|refine qb ?_ _|refine qe ?_|refine qc ?_ _));exact BK199.out⟩,⟨by repeat (first|(with_reducible first|exact HB.out|apply qf|apply qa|apply qd|refine qg ?_ GE199.out)|exact HB.out)⟩⟩
    case round =>
      clear H'
      try clear p2
      try clear c3
      try clear c5
      try clear hcz5_0
      try clear hcz5_1
      try clear hfz5_0
      try clear hfz5_1
      obtain ⟨x13_1,rfl,HA,HK1,BK199,HB⟩:=hrel
      cases gk with
      | zero=>exact absurd HA.out (by simp [impl_GraphOk.l0])
      | succ k1 =>
        have H:=HA.out
        clear HA
        simp only [impl_GraphOk.l0] at H
        by_cases c6 : x13_1 < (l0_1.length : Int)
        · rw [if_pos c6] at H
          have c6b0 : decide (x13_1 < (l0_1.length : Int)) = true:=decide_eq_true c6
          clear c6
          by_cases c7 : 0 ≤ x13_1
          · rw [if_pos c7] at H
            have c7b0 : decide (0 ≤ x13_1) = true:=decide_eq_true c7
            clear c7
            by_cases c8 : x13_1 < (l0_1.length : Int)
            · rw [if_pos c8] at H
              have c8b0 : decide (x13_1 < (l0_1.length : Int)) = true:=decide_eq_true c8
              clear c8
              have HC9:=qn.mk H
              clear H
              have p201 : 0 ≤ (x13_1 : Int):=of_decide_eq_true (by first|(with_reducible assumption)|assumption)
              have q201 : x13_1 < (l0_1.length : Int):=of_decide_eq_true (by first|(with_reducible assumption)|assumption)
              obtain ⟨ad201,e201,hx201_0,hx201_1,hx201_2,hx201_3,hx201_4⟩:=at_T101 HR0_1.out x13_1 p201 q201
              cases e201
              replace hx201_0:=cb_ HB hx201_0
              replace hx201_1:=cb_ HB hx201_1
              replace hx201_2:=cb_ HB hx201_2
              replace hx201_3:=cb_ HB hx201_3
              replace hx201_4:=cb_ HB hx201_4
              replace p201:=eq_true p201
              replace q201:=eq_true q201
              go_upto_region 6 with (first|((with_reducible refine gate_dst (N:=4) rfl ?_);refine box_event ?hg (N:=4) ?hd (cs:=#[.int .i64 0,.int .i64 0,.int .i64 0,.int .i64 0,.int .i64 0]) (t:=101) ?hr ?_;(case hd=>rfl);(case hg=>rfl);(case hr=>first|(go_simp;done)|(go_simp;rfl));intro gb202 hg w10 hbox hb;have n0_:=bb_ BK199 hb;have n1_:=hs_ HB hb;have n2_:=qn.mk (hbox);have n3_:=qn.mk ((by rw [hg];exact (qj (by repeat (first|(with_reducible first|exact HB.out|apply qf|apply qa|apply qd|refine qg ?_ GE199.out)|exact HB.out))) : w.heap.size ≤ gb202));have n4_:=qn.mk ((by rw [hg];exact (qj (by repeat (first|(with_reducible first|exact HB.out|apply qf|apply qa|apply qd|refine qg ?_ GE199.out)|exact HB.out))) : w.heap.size ≤ gb202));have n5_:=qn.mk ((by rw [hg];exact nl_ BK199 : gb199 ≠ gb202));have n6_:=qn.mk ((by rw [hg];exact ng_ BK199 : gb202 ≠ gb199));clear BK199;clear HB;have BK199:=n0_;have HB:=n1_;have BK202:=n2_;have GW202:=n3_;have GE202:=n4_;have NB199_202:=n5_;have NB202_199:=n6_;clear n0_ n1_ n2_ n3_ n4_ n5_ n6_;clear hb hbox hg;have hnb11:=NB202_199.out;have hnc11:=NB199_202.out;have hcz12_0 : w10.cell? ⟨gb202,0,none⟩ = some (.int .i64 0):=(qh BK202.out 0).trans rfl;have hcz12_1 : w10.cell? ⟨gb202,1,none⟩ = some (.int .i64 0):=(qh BK202.out 1).trans rfl;have hcz12_2 : w10.cell? ⟨gb202,2,none⟩ = some (.int .i64 0):=(qh BK202.out 2).trans rfl;have hcz12_3 : w10.cell? ⟨gb202,3,none⟩ = some (.int .i64 0):=(qh BK202.out 3).trans rfl;have hcz12_4 : w10.cell? ⟨gb202,4,none⟩ = some (.int .i64 0):=(qh BK202.out 4).trans rfl;have hfz12_0:=qi BK202.out 0;have hfz12_1:=qi BK202.out 1;have hfz12_2:=qi BK202.out 2;have hfz12_3:=qi BK202.out 3;have hfz12_4:=qi BK202.out 4))
              repeat (go_quiet (first|((with_reducible refine gate_dst (N:=4) rfl ?_);refine box_event ?hg (N:=4) ?hd (cs:=#[.int .i64 0,.int .i64 0,.int .i64 0,.int .i64 0,.int .i64 0]) (t:=101) ?hr ?_;(case hd=>rfl);(case hg=>rfl);(case hr=>first|(go_simp;done)|(go_simp;rfl));intro gb202 hg w10 hbox hb;have n0_:=bb_ BK199 hb;have n1_:=hs_ HB hb;have n2_:=qn.mk (hbox);have n3_:=qn.mk ((by rw [hg];exact (qj (by repeat (first|(with_reducible first|exact HB.out|apply qf|apply qa|apply qd|refine qg ?_ GE199.out)|exact HB.out))) : w.heap.size ≤ gb202));have n4_:=qn.mk ((by rw [hg];exact (qj (by repeat (first|(with_reducible first|exact HB.out|apply qf|apply qa|apply qd|refine qg ?_ GE199.out)|exact HB.out))) : w.heap.size ≤ gb202));have n5_:=qn.mk ((by rw [hg];exact nl_ BK199 : gb199 ≠ gb202));have n6_:=qn.mk ((by rw [hg];exact ng_ BK199 : gb202 ≠ gb199));clear BK199;clear HB;have BK199:=n0_;have HB:=n1_;have BK202:=n2_;have GW202:=n3_;have GE202:=n4_;have NB199_202:=n5_;have NB202_199:=n6_;clear n0_ n1_ n2_ n3_ n4_ n5_ n6_;clear hb hbox hg;have hnb11:=NB202_199.out;have hnc11:=NB199_202.out;have hcz12_0 : w10.cell? ⟨gb202,0,none⟩ = some (.int .i64 0):=(qh BK202.out 0).trans rfl;have hcz12_1 : w10.cell? ⟨gb202,1,none⟩ = some (.int .i64 0):=(qh BK202.out 1).trans rfl;have hcz12_2 : w10.cell? ⟨gb202,2,none⟩ = some (.int .i64 0):=(qh BK202.out 2).trans rfl;have hcz12_3 : w10.cell? ⟨gb202,3,none⟩ = some (.int .i64 0):=(qh BK202.out 3).trans rfl;have hcz12_4 : w10.cell? ⟨gb202,4,none⟩ = some (.int .i64 0):=(qh BK202.out 4).trans rfl;have hfz12_0:=qi BK202.out 0;have hfz12_1:=qi BK202.out 1;have hfz12_2:=qi BK202.out 2;have hfz12_3:=qi BK202.out 3;have hfz12_4:=qi BK202.out 4));go_upto_region 6 with (first|((with_reducible refine gate_dst (N:=4) rfl ?_);refine box_event ?hg (N:=4) ?hd (cs:=#[.int .i64 0,.int .i64 0,.int .i64 0,.int .i64 0,.int .i64 0]) (t:=101) ?hr ?_;(case hd=>rfl);(case hg=>rfl);(case hr=>first|(go_simp;done)|(go_simp;rfl));intro gb202 hg w10 hbox hb;have n0_:=bb_ BK199 hb;have n1_:=hs_ HB hb;have n2_:=qn.mk (hbox);have n3_:=qn.mk ((by rw [hg];exact (qj (by repeat (first|(with_reducible first|exact HB.out|apply qf|apply qa|apply qd|refine qg ?_ GE199.out)|exact HB.out))) : w.heap.size ≤ gb202));have n4_:=qn.mk ((by rw [hg];exact (qj (by repeat (first|(with_reducible first|exact HB.out|apply qf|apply qa|apply qd|refine qg ?_ GE199.out)|exact HB.out))) : w.heap.size ≤ gb202));have n5_:=qn.mk ((by rw [hg];exact nl_ BK199 : gb199 ≠ gb202));have n6_:=qn.mk ((by rw [hg];exact ng_ BK199 : gb202 ≠ gb199));clear BK199;clear HB;have BK199:=n0_;have HB:=n1_;have BK202:=n2_;have GW202:=n3_;have GE202:=n4_;have NB199_202:=n5_;have NB202_199:=n6_;clear n0_ n1_ n2_ n3_ n4_ n5_ n6_;clear hb hbox hg;have hnb11:=NB202_199.out;have hnc11:=NB199_202.out;have hcz12_0 : w10.cell? ⟨gb202,0,none⟩ = some (.int .i64 0):=(qh BK202.out 0).trans rfl;have hcz12_1 : w10.cell? ⟨gb202,1,none⟩ = some (.int .i64 0):=(qh BK202.out 1).trans rfl;have hcz12_2 : w10.cell? ⟨gb202,2,none⟩ = some (.int .i64 0):=(qh BK202.out 2).trans rfl;have hcz12_3 : w10.cell? ⟨gb202,3,none⟩ = some (.int .i64 0):=(qh BK202.out 3).trans rfl;have hcz12_4 : w10.cell? ⟨gb202,4,none⟩ = some (.int .i64 0):=(qh BK202.out 4).trans rfl;have hfz12_0:=qi BK202.out 0;have hfz12_1:=qi BK202.out 1;have hfz12_2:=qi BK202.out 2;have hfz12_3:=qi BK202.out 3;have hfz12_4:=qi BK202.out 4)))
              (try simp only [Act.put,List.setIfInBounds_toArray,List.set_cons_zero,List.set_cons_succ])
              go_cut [58] (fun v58 wc=>∃ (kq : Nat) (x58_8 : Bool),v58 = .bool x58_8 ∧ qn (impl_GraphOk.j1 kq x13_1 l0_1 (l0_1.length : Int) x13_1 x58_8 a0_0 l0_1 ((rd_T101 l0_1 x13_1).f0) ((rd_T101 l0_1 x13_1).f1) ((rd_T101 l0_1 x13_1).f2) ((rd_T101 l0_1 x13_1).f3) ((rd_T101 l0_1 x13_1).f4) = some r) ∧ qn (kq ≤ k1) ∧ qn (wc.heap[gb199]? = some (.cells #[.int .i64 a0_0,(.slice (some ad201) l0_1.length c0_1)] 61 (0,0))) ∧ qn (wc.heap[gb202]? = some (.cells #[.int .i64 ((rd_T101 l0_1 x13_1).f0),.int .i64 ((rd_T101 l0_1 x13_1).f1),.int .i64 ((rd_T101 l0_1 x13_1).f2),.int .i64 ((rd_T101 l0_1 x13_1).f3),.int .i64 ((rd_T101 l0_1 x13_1).f4)] 101 (0,0))) ∧ qn (Below w.heap.size w wc))
              case first =>
                have H:=HC9.out
                clear HC9
                replace H:=Option.bind_eq_some_iff.mp H
                obtain ⟨t203,A130,H⟩:=H
                replace H : (if t203 = true then ((impl_in.f ((rd_T101 l0_1 x13_1).f1) 0 (wrap64 (a0_0 - 1))).bind fun t204=>(if t204 = true then (if ((rd_T101 l0_1 x13_1).f0) ≥ ((rd_T101 l0_1 x13_1).f1) then (impl_GraphOk.j1 k1 x13_1 l0_1 (l0_1.length : Int) x13_1 true a0_0 l0_1 ((rd_T101 l0_1 x13_1).f0) ((rd_T101 l0_1 x13_1).f1) ((rd_T101 l0_1 x13_1).f2) ((rd_T101 l0_1 x13_1).f3) ((rd_T101 l0_1 x13_1).f4)) else ((impl_in.f ((rd_T101 l0_1 x13_1).f2) 0 50).bind fun t205=>(if t205 = true then ((impl_in.f ((rd_T101 l0_1 x13_1).f3) 0 50).bind fun t206=>(if t206 = true then ((impl_in.f ((rd_T101 l0_1 x13_1).f4) 0 50).bind fun t207=>(impl_GraphOk.j1 k1 x13_1 l0_1 (l0_1.length : Int) x13_1 (!t207) a0_0 l0_1 ((rd_T101 l0_1 x13_1).f0) ((rd_T101 l0_1 x13_1).f1) ((rd_T101 l0_1 x13_1).f2) ((rd_T101 l0_1 x13_1).f3) ((rd_T101 l0_1 x13_1).f4))) else (impl_GraphOk.j1 k1 x13_1 l0_1 (l0_1.length : Int) x13_1 true a0_0 l0_1 ((rd_T101 l0_1 x13_1).f0) ((rd_T101 l0_1 x13_1).f1) ((rd_T101 l0_1 x13_1).f2) ((rd_T101 l0_1 x13_1).f3) ((rd_T101 l0_1 x13_1).f4)))) else (impl_GraphOk.j1 k1 x13_1 l0_1 (l0_1.length : Int) x13_1 true a0_0 l0_1 ((rd_T101 l0_1 x13_1).f0) ((rd_T101 l0_1 x13_1).f1) ((rd_T101 l0_1 x13_1).f2) ((rd_T101 l0_1 x13_1).f3) ((rd_T101 l0_1 x13_1).f4))))) else (impl_GraphOk.j1 k1 x13_1 l0_1 (l0_1.length : Int) x13_1 true a0_0 l0_1 ((rd_T101 l0_1 x13_1).f0) ((rd_T101 l0_1 x13_1).f1) ((rd_T101 l0_1 x13_1).f2) ((rd_T101 l0_1 x13_1).f3) ((rd_T101 l0_1 x13_1).f4)))) else (impl_GraphOk.j1 k1 x13_1 l0_1 (l0_1.length : Int) x13_1 true a0_0 l0_1 ((rd_T101 l0_1 x13_1).f0) ((rd_T101 l0_1 x13_1).f1) ((rd_T101 l0_1 x13_1).f2) ((rd_T101 l0_1 x13_1).f3) ((rd_T101 l0_1 x13_1).f4))) = some r:=H
                have A13:=qn.mk A130
                clear A130
                by_cases c14 : t203 = true
                · subst c14
                  have H1 : ((impl_in.f ((rd_T101 l0_1 x13_1).f1) 0 (wrap64 (a0_0 - 1))).bind fun t204=>(if t204 = true then (if ((rd_T101 l0_1 x13_1).f0) ≥ ((rd_T101 l0_1 x13_1).f1) then (impl_GraphOk.j1 k1 x13_1 l0_1 (l0_1.length : Int) x13_1 true a0_0 l0_1 ((rd_T101 l0_1 x13_1).f0) ((rd_T101 l0_1 x13_1).f1) ((rd_T101 l0_1 x13_1).f2) ((rd_T101 l0_1 x13_1).f3) ((rd_T101 l0_1 x13_1).f4)) else ((impl_in.f ((rd_T101 l0_1 x13_1).f2) 0 50).bind fun t205=>(if t205 = true then ((impl_in.f ((rd_T101 l0_1 x13_1).f3) 0 50).bind fun t206=>(if t206 = true then ((impl_in.f ((rd_T101 l0_1 x13_1).f4) 0 50).bind fun t207=>(impl_GraphOk.j1 k1 x13_1 l0_1 (l0_1.length : Int) x13_1 (!t207) a0_0 l0_1 ((rd_T101 l0_1 x13_1).f0) ((rd_T101 l0_1 x13_1).f1) ((rd_T101 l0_1 x13_1).f2) ((rd_T101 l0_1 x13_1).f3) ((rd_T101 l0_1 x13_1).f4))) else (impl_GraphOk.j1 k1 x13_1 l0_1 (l0_1.length : Int) x13_1 true a0_0 l0_1 ((rd_T101 l0_1 x13_1).f0) ((rd_T101 l0_1 x13_1).f1) ((rd_T101 l0_1 x13_1).f2) ((rd_T101 l0_1 x13_1).f3) ((rd_T101 l0_1 x13_1).f4)))) else (impl_GraphOk.j1 k1 x13_1 l0_1 (l0_1.length : Int) x13_1 true a0_0 l0_1 ((rd_T101 l0_1 x13_1).f0) ((rd_T101 l0_1 x13_1).f1) ((rd_T101 l0_1 x13_1).f2) ((rd_T101 l0_1 x13_1).f3) ((rd_T101 l0_1 x13_1).f4))))) else (impl_GraphOk.j1 k1 x13_1 l0_1 (l0_1.length : Int) x13_1 true a0_0 l0_1 ((rd_T101 l0_1 x13_1).f0) ((rd_T101 l0_1 x13_1).f1) ((rd_T101 l0_1 x13_1).f2) ((rd_T101 l0_1 x13_1).f3) ((rd_T101 l0_1 x13_1).f4)))) = some r:=by rw [if_pos rfl] at H;exact H
                  clear H
                  have H:=H1
                  clear H1
                  replace H:=Option.bind_eq_some_iff.mp H
                  obtain ⟨t204,A150,H⟩:=H
                  replace H : (if t204 = true then (if ((rd_T101 l0_1 x13_1).f0) ≥ ((rd_T101 l0_1 x13_1).f1) then (impl_GraphOk.j1 k1 x13_1 l0_1 (l0_1.length : Int) x13_1 true a0_0 l0_1 ((rd_T101 l0_1 x13_1).f0) ((rd_T101 l0_1 x13_1).f1) ((rd_T101 l0_1 x13_1).f2) ((rd_T101 l0_1 x13_1).f3) ((rd_T101 l0_1 x13_1).f4)) else ((impl_in.f ((rd_T101 l0_1 x13_1).f2) 0 50).bind fun t205=>(if t205 = true then ((impl_in.f ((rd_T101 l0_1 x13_1).f3) 0 50).bind fun t206=>(if t206 = true then ((impl_in.f ((rd_T101 l0_1 x13_1).f4) 0 50).bind fun t207=>(impl_GraphOk.j1 k1 x13_1 l0_1 (l0_1.length : Int) x13_1 (!t207) a0_0 l0_1 ((rd_T101 l0_1 x13_1).f0) ((rd_T101 l0_1 x13_1).f1) ((rd_T101 l0_1 x13_1).f2) ((rd_T101 l0_1 x13_1).f3) ((rd_T101 l0_1 x13_1).f4))) else (impl_GraphOk.j1 k1 x13_1 l0_1 (l0_1.length : Int) x13_1 true a0_0 l0_1 ((rd_T101 l0_1 x13_1).f0) ((rd_T101 l0_1 x13_1).f1) ((rd_T101 l0_1 x13_1).f2) ((rd_T101 l0_1 x13_1).f3) ((rd_T101 l0_1 x13_1).f4)))) else (impl_GraphOk.j1 k1 x13_1 l0_1 (l0_1.length : Int) x13_1 true a0_0 l0_1 ((rd_T101 l0_1 x13_1).f0) ((rd_T101 l0_1 x13_1).f1) ((rd_T101 l0_1 x13_1).f2) ((rd_T101 l0_1 x13_1).f3) ((rd_T101 l0_1 x13_1).f4))))) else (impl_GraphOk.j1 k1 x13_1 l0_1 (l0_1.length : Int) x13_1 true a0_0 l0_1 ((rd_T101 l0_1 x13_1).f0) ((rd_T101 l0_1 x13_1).f1) ((rd_T101 l0_1 x13_1).f2) ((rd_T101 l0_1 x13_1).f3) ((rd_T101 l0_1 x13_1).f4))) = some r:=H
                  have A15:=qn.mk A150
                  clear A150
                  by_cases c16 : t204 = true
                  · subst c16
                    have H1 : (if ((rd_T101 l0_1 x13_1).f0) ≥ ((rd_T101 l0_1 x13_1).f1) then (impl_GraphOk.j1 k1 x13_1 l0_1 (l0_1.length : Int) x13_1 true a0_0 l0_1 ((rd_T101 l0_1 x13_1).f0) ((rd_T101 l0_1 x13_1).f1) ((rd_T101 l0_1 x13_1).f2) ((rd_T101 l0_1 x13_1).f3) ((rd_T101 l0_1 x13_1).f4)) else ((impl_in.f ((rd_T101 l0_1 x13_1).f2) 0 50).bind fun t205=>(if t205 = true then ((impl_in.f ((rd_T101 l0_1 x13_1).f3) 0 50).bind fun t206=>(if t206 = true then ((impl_in.f ((rd_T101 l0_1 x13_1).f4) 0 50).bind fun t207=>(impl_GraphOk.j1 k1 x13_1 l0_1 (l0_1.length : Int) x13_1 (!t207) a0_0 l0_1 ((rd_T101 l0_1 x13_1).f0) ((rd_T101 l0_1 x13_1).f1) ((rd_T101 l0_1 x13_1).f2) ((rd_T101 l0_1 x13_1).f3) ((rd_T101 l0_1 x13_1).f4))) else (impl_GraphOk.j1 k1 x13_1 l0_1 (l0_1.length : Int) x13_1 true a0_0 l0_1 ((rd_T101 l0_1 x13_1).f0) ((rd_T101 l0_1 x13_1).f1) ((rd_T101 l0_1 x13_1).f2) ((rd_T101 l0_1 x13_1).f3) ((rd_T101 l0_1 x13_1).f4)))) else (impl_GraphOk.j1 k1 x13_1 l0_1 (l0_1.length : Int) x13_1 true a0_0 l0_1 ((rd_T101 l0_1 x13_1).f0) ((rd_T101 l0_1 x13_1).f1) ((rd_T101 l0_1 x13_1).f2) ((rd_T101 l0_1 x13_1).f3) ((rd_T101 l0_1 x13_1).f4))))) = some r:=by rw [if_pos rfl] at H;exact H
                    clear H
                    have H:=H1
                    clear H1
                    by_cases c17 : ((rd_T101 l0_1 x13_1).f0) ≥ ((rd_T101 l0_1 x13_1).f1)
                    · rw [if_pos c17] at H
                      have c17b0 : decide (((rd_T101 l0_1 x13_1).f1) ≤ ((rd_T101 l0_1 x13_1).f0)) = true:=decide_eq_true c17
                      clear c17
                      (first|rw [c17b0]|(simp only [i64_w,i32_w];rw [c17b0])|skip)
                      have H':=qn.mk H
                      clear H
                      have hnb18:=NB202_199.out
                      have hnc18:=NB199_202.out
                      have hcz19_0 : w10.cell? ⟨gb202,0,none⟩ = some (.int .i64 0):=(qh BK202.out 0).trans rfl
                      have hcz19_1 : w10.cell? ⟨gb202,1,none⟩ = some (.int .i64 0):=(qh BK202.out 1).trans rfl
                      have hcz19_2 : w10.cell? ⟨gb202,2,none⟩ = some (.int .i64 0):=(qh BK202.out 2).trans rfl
                      have hcz19_3 : w10.cell? ⟨gb202,3,none⟩ = some (.int .i64 0):=(qh BK202.out 3).trans rfl
                      have hcz19_4 : w10.cell? ⟨gb202,4,none⟩ = some (.int .i64 0):=(qh BK202.out 4).trans rfl
                      have hfz19_0:=qi BK202.out 0
                      have hfz19_1:=qi BK202.out 1
                      have hfz19_2:=qi BK202.out 2
                      have hfz19_3:=qi BK202.out 3
                      have hfz19_4:=qi BK202.out 4
                      have hcz20_0 : w10.cell? ⟨gb199,0,none⟩ = some (.int .i64 a0_0):=(qh BK199.out 0).trans rfl
                      have hcz20_1 : w10.cell? ⟨gb199,1,none⟩ = some (.slice (some ad201) l0_1.length c0_1):=(qh BK199.out 1).trans rfl
                      have hfz20_0:=qi BK199.out 0
                      have hfz20_1:=qi BK199.out 1
                      go_wp2_with (first|(go_at_call 28;(with_reducible refine (impl_in.calls ((rd_T101 l0_1 x13_1).f0) 0 (wrap64 (a0_0 - 1)) true _ A13.out).mono ?_);rintro e w' ⟨rfl,⟨nd,rfl⟩⟩;(try first|exact ⟨rfl,_,World.drewN_drewN _ _ _⟩|exact ⟨rfl,_,Eq.trans (World.drewN_drewN _ _ _) (congrArg (World.drewN _) (Nat.add_assoc _ _ _))⟩))|(go_at_call 28;(with_reducible refine (impl_in.calls ((rd_T101 l0_1 x13_1).f1) 0 (wrap64 (a0_0 - 1)) true _ A15.out).mono ?_);rintro e w' ⟨rfl,⟨nd,rfl⟩⟩;(try first|exact ⟨rfl,_,World.drewN_drewN _ _ _⟩|exact ⟨rfl,_,Eq.trans (World.drewN_drewN _ _ _) (congrArg (World.drewN _) (Nat.add_assoc _ _ _))⟩)))
                      repeat (go_quiet (first|(go_at_call 28;(with_reducible refine (impl_in.calls ((rd_T101 l0_1 x13_1).f0) 0 (wrap64 (a0_0 - 1)) true _ A13.out).mono ?_);rintro e w' ⟨rfl,⟨nd,rfl⟩⟩;(try first|exact ⟨rfl,_,World.drewN_drewN _ _ _⟩|exact ⟨rfl,_,Eq.trans (World.drewN_drewN _ _ _) (congrArg (World.drewN _) (Nat.add_assoc _ _ _))⟩))|(go_at_call 28;(with_reducible refine (impl_in.calls ((rd_T101 l0_1 x13_1).f1) 0 (wrap64 (a0_0 - 1)) true _ A15.out).mono ?_);rintro e w' ⟨rfl,⟨nd,rfl⟩⟩;(try first|exact ⟨rfl,_,World.drewN_drewN _ _ _⟩|exact ⟨rfl,_,Eq.trans (World.drewN_drewN _ _ _) (congrArg (World.drewN _) (Nat.add_assoc _ _ _))⟩)));try go_wp2_with (first|(go_at_call 28;(with_reducible refine (impl_in.calls ((rd_T101 l0_1 x13_1).f0) 0 (wrap64 (a0_0 - 1)) true _ A13.out).mono ?_);rintro e w' ⟨rfl,⟨nd,rfl⟩⟩;(try first|exact ⟨rfl,_,World.drewN_drewN _ _ _⟩|exact ⟨rfl,_,Eq.trans (World.drewN_drewN _ _ _) (congrArg (World.drewN _) (Nat.add_assoc _ _ _))⟩))|(go_at_call 28;(with_reducible refine (impl_in.calls ((rd_T101 l0_1 x13_1).f1) 0 (wrap64 (a0_0 - 1)) true _ A15.out).mono ?_);rintro e w' ⟨rfl,⟨nd,rfl⟩⟩;(try first|exact ⟨rfl,_,World.drewN_drewN _ _ _⟩|exact ⟨rfl,_,Eq.trans (World.drewN_drewN _ _ _) (congrArg (World.drewN _) (Nat.add_assoc _ _ _))⟩))))
                      go_meet
                      case rel=>exact ⟨_,(true),(by first|rfl|(simp;done)|(simp [*];done)),H',⟨by have:=HK1.out;first|omega|exact Nat.le_refl _⟩,⟨by (with_reducible repeat (first|refine qb ?_ _|refine qe ?_|refine qc ?_ _));refine blk_far ?_ NB199_202.out _;(with_reducible repeat (first|refine qb ?_ _|refine qe ?_|refine qc ?_ _));refine blk_far ?_ NB199_202.out _;(with_reducible repeat (first|refine qb ?_ _|refine qe ?_|refine qc ?_ _));refine blk_far ?_ NB199_202.out _;(with_reducible repeat (first|refine qb ?_ _|refine qe ?_|refine qc ?_ _));refine blk_far ?_ NB199_202.out _;(with_reducible repeat (first|refine qb ?_ _|refine qe ?_|refine qc ?_ _));refine blk_far ?_ NB199_202.out _;(with_reducible repeat (first|refine qb ?_ _|refine qe ?_|refine qc ?_ _));exact BK199.out⟩,⟨by (with_reducible repeat (first|refine qb ?_ _|refine qe ?_|refine qc ?_ _));refine blk_put (cs:=#[.int .i64 ((rd_T101 l0_1 x13_1).f0),.int .i64 ((rd_T101 l0_1 x13_1).f1),.int .i64 ((rd_T101 l0_1 x13_1).f2),.int .i64 ((rd_T101 l0_1 x13_1).f3),.int .i64 0]) ?_ 4 _ rfl;(with_reducible repeat (first|refine qb ?_ _|refine qe ?_|refine qc ?_ _));refine blk_put (cs:=#[.int .i64 ((rd_T101 l0_1 x13_1).f0),.int .i64 ((rd_T101 l0_1 x13_1).f1),.int .i64 ((rd_T101 l0_1 x13_1).f2),.int .i64 0,.int .i64 0]) ?_ 3 _ rfl;(with_reducible repeat (first|refine qb ?_ _|refine qe ?_|refine qc ?_ _));refine blk_put (cs:=#[.int .i64 ((rd_T101 l0_1 x13_1).f0),.int .i64 ((rd_T101 l0_1 x13_1).f1),.int .i64 0,.int .i64 0,.int .i64 0]) ?_ 2 _ rfl;(with_reducible repeat (first|refine qb ?_ _|refine qe ?_|refine qc ?_ _));refine blk_put (cs:=#[.int .i64 ((rd_T101 l0_1 x13_1).f0),.int .i64 0,.int .i64 0,.int .i64 0,.int .i64 0]) ?_ 1 _ rfl;(with_reducible repeat (first|refine qb ?_ _|refine qe ?_|refine qc ?_ _));refine blk_put (cs:=#[.int .i64 0,.int .i64 0,.int .i64 0,.int .i64 0,.int .i64 0]) ?_ 0 _ rfl;(with_reducible repeat (first|refine qb ?_ _|refine qe ?_|refine qc ?_ _));exact BK202.out⟩,⟨by repeat (first|(with_reducible first|exact HB.out|apply qf|apply qa|apply qd|refine qg ?_ GE199.out|refine qg ?_ GE202.out)|exact HB.out)⟩⟩
                    · rw [if_neg c17] at H
                      have c17b0 : decide (((rd_T101 l0_1 x13_1).f1) ≤ ((rd_T101 l0_1 x13_1).f0)) = false:=decide_eq_false c17
                      clear c17
                      (first|rw [c17b0]|(simp only [i64_w,i32_w];rw [c17b0])|skip)
                      replace H:=Option.bind_eq_some_iff.mp H
                      obtain ⟨t205,A210,H⟩:=H
                      replace H : (if t205 = true then ((impl_in.f ((rd_T101 l0_1 x13_1).f3) 0 50).bind fun t206=>(if t206 = true then ((impl_in.f ((rd_T101 l0_1 x13_1).f4) 0 50).bind fun t207=>(impl_GraphOk.j1 k1 x13_1 l0_1 (l0_1.length : Int) x13_1 (!t207) a0_0 l0_1 ((rd_T101 l0_1 x13_1).f0) ((rd_T101 l0_1 x13_1).f1) ((rd_T101 l0_1 x13_1).f2) ((rd_T101 l0_1 x13_1).f3) ((rd_T101 l0_1 x13_1).f4))) else (impl_GraphOk.j1 k1 x13_1 l0_1 (l0_1.length : Int) x13_1 true a0_0 l0_1 ((rd_T101 l0_1 x13_1).f0) ((rd_T101 l0_1 x13_1).f1) ((rd_T101 l0_1 x13_1).f2) ((rd_T101 l0_1 x13_1).f3) ((rd_T101 l0_1 x13_1).f4)))) else (impl_GraphOk.j1 k1 x13_1 l0_1 (l0_1.length : Int) x13_1 true a0_0 l0_1 ((rd_T101 l0_1 x13_1).f0) ((rd_T101 l0_1 x13_1).f1) ((rd_T101 l0_1 x13_1).f2) ((rd_T101 l0_1 x13_1).f3) ((rd_T101 l0_1 x13_1).f4))) = some r:=H
                      have A21:=qn.mk A210
                      clear A210
                      by_cases c22 : t205 = true
                      · subst c22
                        have H1 : ((impl_in.f ((rd_T101 l0_1 x13_1).f3) 0 50).bind fun t206=>(if t206 = true then ((impl_in.f ((rd_T101 l0_1 x13_1).f4) 0 50).bind fun t207=>(impl_GraphOk.j1 k1 x13_1 l0_1 (l0_1.length : Int) x13_1 (!t207) a0_0 l0_1 ((rd_T101 l0_1 x13_1).f0) ((rd_T101 l0_1 x13_1).f1) ((rd_T101 l0_1 x13_1).f2) ((rd_T101 l0_1 x13_1).f3) ((rd_T101 l0_1 x13_1).f4))) else (impl_GraphOk.j1 k1 x13_1 l0_1 (l0_1.length : Int) x13_1 true a0_0 l0_1 ((rd_T101 l0_1 x13_1).f0) ((rd_T101 l0_1 x13_1).f1) ((rd_T101 l0_1 x13_1).f2) ((rd_T101 l0_1 x13_1).f3) ((rd_T101 l0_1 x13_1).f4)))) = some r:=by rw [if_pos rfl] at H;exact H
                        clear H
                        have H:=H1
                        clear H1
                        replace H:=Option.bind_eq_some_iff.mp H
                        obtain ⟨t206,A230,H⟩:=H
                        replace H : (if t206 = true then ((impl_in.f ((rd_T101 l0_1 x13_1).f4) 0 50).bind fun t207=>(impl_GraphOk.j1 k1 x13_1 l0_1 (l0_1.length : Int) x13_1 (!t207) a0_0 l0_1 ((rd_T101 l0_1 x13_1).f0) ((rd_T101 l0_1 x13_1).f1) ((rd_T101 l0_1 x13_1).f2) ((rd_T101 l0_1 x13_1).f3) ((rd_T101 l0_1 x13_1).f4))) else (impl_GraphOk.j1 k1 x13_1 l0_1 (l0_1.length : Int) x13_1 true a0_0 l0_1 ((rd_T101 l0_1 x13_1).f0) ((rd_T101 l0_1 x13_1).f1) ((rd_T101 l0_1 x13_1).f2) ((rd_T101 l0_1 x13_1).f3) ((rd_T101 l0_1 x13_1).f4))) = some r:=H
                        have A23:=qn.mk A230
                        clear A230
                        by_cases c24 : t206 = true
                        · subst c24
                          have H1 : ((impl_in.f ((rd_T101 l0_1 x13_1).f4) 0 50).bind fun t207=>(impl_GraphOk.j1 k1 x13_1 l0_1 (l0_1.length : Int) x13_1 (!t207) a0_0 l0_1 ((rd_T101 l0_1 x13_1).f0) ((rd_T101 l0_1 x13_1).f1) ((rd_T101 l0_1 x13_1).f2) ((rd_T101 l0_1 x13_1).f3) ((rd_T101 l0_1 x13_1).f4))) = some r:=by rw [if_pos rfl] at H;exact H
                          clear H
                          have H:=H1
                          clear H1
                          replace H:=Option.bind_eq_some_iff.mp H
                          obtain ⟨t207,A250,H⟩:=H
                          replace H : (impl_GraphOk.j1 k1 x13_1 l0_1 (l0_1.length : Int) x13_1 (!t207) a0_0 l0_1 ((rd_T101 l0_1 x13_1).f0) ((rd_T101 l0_1 x13_1).f1) ((rd_T101 l0_1 x13_1).f2) ((rd_T101 l0_1 x13_1).f3) ((rd_T101 l0_1 x13_1).f4)) = some r:=H
                          have A25:=qn.mk A250
                          clear A250
                          have H':=qn.mk H
                          clear H
                          have hnb26:=NB202_199.out
                          have hnc26:=NB199_202.out
                          have hcz27_0 : w10.cell? ⟨gb202,0,none⟩ = some (.int .i64 0):=(qh BK202.out 0).trans rfl
                          have hcz27_1 : w10.cell? ⟨gb202,1,none⟩ = some (.int .i64 0):=(qh BK202.out 1).trans rfl
                          have hcz27_2 : w10.cell? ⟨gb202,2,none⟩ = some (.int .i64 0):=(qh BK202.out 2).trans rfl
                          have hcz27_3 : w10.cell? ⟨gb202,3,none⟩ = some (.int .i64 0):=(qh BK202.out 3).trans rfl
                          have hcz27_4 : w10.cell? ⟨gb202,4,none⟩ = some (.int .i64 0):=(qh BK202.out 4).trans rfl
                          have hfz27_0:=qi BK202.out 0
                          have hfz27_1:=qi BK202.out 1
                          have hfz27_2:=qi BK202.out 2
                          have hfz27_3:=qi BK202.out 3
                          have hfz27_4:=qi BK202.out 4
                          have hcz28_0 : w10.cell? ⟨gb199,0,none⟩ = some (.int .i64 a0_0):=(qh BK199.out 0).trans rfl
                          have hcz28_1 : w10.cell? ⟨gb199,1,none⟩ = some (.slice (some ad201) l0_1.length c0_1):=(qh BK199.out 1).trans rfl
                          have hfz28_0:=qi BK199.out 0
                          have hfz28_1:=qi BK199.out 1
                          go_wp2_with (first|(go_at_call 28;(with_reducible refine (impl_in.calls ((rd_T101 l0_1 x13_1).f0) 0 (wrap64 (a0_0 - 1)) true _ A13.out).mono ?_);rintro e w' ⟨rfl,⟨nd,rfl⟩⟩;(try first|exact ⟨rfl,_,World.drewN_drewN _ _ _⟩|exact ⟨rfl,_,Eq.trans (World.drewN_drewN _ _ _) (congrArg (World.drewN _) (Nat.add_assoc _ _ _))⟩))|(go_at_call 28;(with_reducible refine (impl_in.calls ((rd_T101 l0_1 x13_1).f1) 0 (wrap64 (a0_0 - 1)) true _ A15.out).mono ?_);rintro e w' ⟨rfl,⟨nd,rfl⟩⟩;(try first|exact ⟨rfl,_,World.drewN_drewN _ _ _⟩|exact ⟨rfl,_,Eq.trans (World.drewN_drewN _ _ _) (congrArg (World.drewN _) (Nat.add_assoc _ _ _))⟩))|(go_at_call 28;(with_reducible refine (impl_in.calls ((rd_T101 l0_1 x13_1).f2) 0 50 true _ A21.out).mono ?_);rintro e w' ⟨rfl,⟨nd,rfl⟩⟩;(try first|exact ⟨rfl,_,World.drewN_drewN _ _ _⟩|exact ⟨rfl,_,Eq.trans (World.drewN_drewN _ _ _) (congrArg (World.drewN _) (Nat.add_assoc _ _ _))⟩))|(go_at_call 28;(with_reducible refine (impl_in.calls ((rd_T101 l0_1 x13_1).f3) 0 50 true _ A23.out).mono ?_);rintro e w' ⟨rfl,⟨nd,rfl⟩⟩;(try first|exact ⟨rfl,_,World.drewN_drewN _ _ _⟩|exact ⟨rfl,_,Eq.trans (World.drewN_drewN _ _ _) (congrArg (World.drewN _) (Nat.add_assoc _ _ _))⟩))|(go_at_call 28;(with_reducible refine (impl_in.calls ((rd_T101 l0_1 x13_1).f4) 0 50 t207 _ A25.out).mono ?_);rintro e w' ⟨rfl,⟨nd,rfl⟩⟩;(try first|exact ⟨rfl,_,World.drewN_drewN _ _ _⟩|exact ⟨rfl,_,Eq.trans (World.drewN_drewN _ _ _) (congrArg (World.drewN _) (Nat.add_assoc _ _ _))⟩)))
                          repeat (go_quiet (first|(go_at_call 28;(with_reducible refine (impl_in.calls ((rd_T101 l0_1 x13_1).f0) 0 (wrap64 (a0_0 - 1)) true _ A13.out).mono ?_);rintro e w' ⟨rfl,⟨nd,rfl⟩⟩;(try first|exact ⟨rfl,_,World.drewN_drewN _ _ _⟩|exact ⟨rfl,_,Eq.trans (World.drewN_drewN _ _ _) (congrArg (World.drewN _) (Nat.add_assoc _ _ _))⟩))|(go_at_call 28;(with_reducible refine (impl_in.calls ((rd_T101 l0_1 x13_1).f1) 0 (wrap64 (a0_0 - 1)) true _ A15.out).mono ?_);rintro e w' ⟨rfl,⟨nd,rfl⟩⟩;(try first|exact ⟨rfl,_,World.drewN_drewN _ _ _⟩|exact ⟨rfl,_,Eq.trans (World.drewN_drewN _ _ _) (congrArg (World.drewN _) (Nat.add_assoc _ _ _))⟩))|(go_at_call 28;(with_reducible refine (impl_in.calls ((rd_T101 l0_1 x13_1).f2) 0 50 true _ A21.out).mono ?_);rintro e w' ⟨rfl,⟨nd,rfl⟩⟩;(try first|exact ⟨rfl,_,World.drewN_drewN _ _ _⟩|exact ⟨rfl,_,Eq.trans (World.drewN_drewN _ _ _) (congrArg (World.drewN _) (Nat.add_assoc _ _ _))⟩))|(go_at_call 28;(with_reducible refine (impl_in.calls ((rd_T101 l0_1 x13_1).f3) 0 50 true _ A23.out).mono ?_);rintro e w' ⟨rfl,⟨nd,rfl⟩⟩;(try first|exact ⟨rfl,_,World.drewN_drewN _ _ _⟩|exact ⟨rfl,_,Eq.trans (World.drewN_drewN _ _ _) (congrArg (World.drewN _) (Nat.add_assoc _ _ _))⟩))|(go_at_call 28;(with_reducible refine (impl_in.calls ((rd_T101 l0_1 x13_1).f4) 0 50 t207 _ A25.out).mono ?_);rintro e w' ⟨rfl,⟨nd,rfl⟩⟩;(try first|exact ⟨rfl,_,World.drewN_drewN _ _ _⟩|exact ⟨rfl,_,Eq.trans (World.drewN_drewN _ _ _) (congrArg (World.drewN _) (Nat.add_assoc _ _ _))⟩)));try go_wp2_with (first|(go_at_call 28;(with_reducible refine (impl_in.calls ((rd_T101 l0_1 x13_1).f0) 0 (wrap64 (a0_0 - 1)) true _ A13.out).mono ?_);rintro e w' ⟨rfl,⟨nd,rfl⟩⟩;(try first|exact ⟨rfl,_,World.drewN_drewN _ _ _⟩|exact ⟨rfl,_,Eq.trans (World.drewN_drewN _ _ _) (congrArg (World.drewN _) (Nat.add_assoc _ _ _))⟩))|(go_at_call 28;(with_reducible refine (impl_in.calls ((rd_T101 l0_1 x13_1).f1) 0 (wrap64 (a0_0 - 1)) true _ A15.out).mono ?_);rintro e w' ⟨rfl,⟨nd,rfl⟩⟩;(try first|exact ⟨rfl,_,World.drewN_drewN _ _ _⟩|exact ⟨rfl,_,Eq.trans (World.drewN_drewN _ _ _) (congrArg (World.drewN _) (Nat.add_assoc _ _ _))⟩))|(go_at_call 28;(with_reducible refine (impl_in.calls ((rd_T101 l0_1 x13_1).f2) 0 50 true _ A21.out).mono ?_);rintro e w' ⟨rfl,⟨nd,rfl⟩⟩;(try first|exact ⟨rfl,_,World.drewN_drewN _ _ _⟩|exact ⟨rfl,_,Eq.trans (World.drewN_drewN _ _ _) (congrArg (World.drewN _) (Nat.add_assoc _ _ _))⟩))|(go_at_call 28;(with_reducible refine (impl_in.calls ((rd_T101 l0_1 x13_1).f3) 0 50 true _ A23.out).mono ?_);rintro e w' ⟨rfl,⟨nd,rfl⟩⟩;(try first|exact ⟨rfl,_,World.drewN_drewN _ _ _⟩|exact ⟨rfl,_,Eq.trans (World.drewN_drewN _ _ _) (congrArg (World.drewN _) (Nat.add_assoc _ _ _))⟩))|(go_at_call 28;(with_reducible refine (impl_in.calls ((rd_T101 l0_1 x13_1).f4) 0 50 t207 _ A25.out).mono ?_);rintro e w' ⟨rfl,⟨nd,rfl⟩⟩;(try first|exact ⟨rfl,_,World.drewN_drewN _ _ _⟩|exact ⟨rfl,_,Eq.trans (World.drewN_drewN _ _ _) (congrArg (World.drewN _) (Nat.add_assoc _ _ _))⟩))))
                          go_meet
                          case rel=>exact ⟨_,(!t207),(by first|rfl|(simp;done)|(simp [*];done)),H',⟨by have:=HK1.out;first|omega|exact Nat.le_refl _⟩,⟨by (with_reducible repeat (first|refine qb ?_ _|refine qe ?_|refine qc ?_ _));refine blk_far ?_ NB199_202.out _;(with_reducible repeat (first|refine qb ?_ _|refine qe ?_|refine qc ?_ _));refine blk_far ?_ NB199_202.out _;(with_reducible repeat (first|refine qb ?_ _|refine qe ?_|refine qc ?_ _));refine blk_far ?_ NB199_202.out _;(with_reducible repeat (first|refine qb ?_ _|refine qe ?_|refine qc ?_ _));refine blk_far ?_ NB199_202.out _;(with_reducible repeat (first|refine qb ?_ _|refine qe ?_|refine qc ?_ _));refine blk_far ?_ NB199_202.out _;(with_reducible repeat (first|refine qb ?_ _|refine qe ?_|refine qc ?_ _));exact BK199.out⟩,⟨by (with_reducible repeat (first|refine qb ?_ _|refine qe ?_|refine qc ?_ _));refine blk_put (cs:=#[.int .i64 ((rd_T101 l0_1 x13_1).f0),.int .i64 ((rd_T101 l0_1 x13_1).f1),.int .i64 ((rd_T101 l0_1 x13_1).f2),.int .i64 ((rd_T101 l0_1 x13_1).f3),.int .i64 0]) ?_ 4 _ rfl;(with_reducible repeat (first|refine qb ?_ _|refine qe ?_|refine qc ?_ _));refine blk_put (cs:=#[.int .i64 ((rd_T101 l0_1 x13_1).f0),.int .i64 ((rd_T101 l0_1 x13_1).f1),.int .i64 ((rd_T101 l0_1 x13_1).f2),.int .i64 0,.int .i64 0]) ?_ 3 _ rfl;(with_reducible repeat (first|refine qb ?_ _|refine qe ?_|refine qc ?_ _));refine blk_put (cs:=#[.int .i64 ((rd_T101 l0_1 x13_1).f0),.int .i64 ((rd_T101 l0_1 x13_1).f1),.int .i64 0,.int .i64 0,.int .i64 0]) ?_ 2 _ rfl;(with_reducible repeat (first|refine qb ?_ _|refine qe ?_|refine qc ?_ _));refine blk_put (cs:=#[.int .i64 ((rd_T101 l0_1 x13_1).f0),.int .i64 0,.int .i64 0,.int .i64 0,.int .i64 0]) ?_ 1 _ rfl;(with_reducible repeat (first|refine qb ?_ _|refine qe ?_|refine qc ?_ _));refine blk_put (cs:=#[.int .i64 0,.int .i64 0,.int .i64 0,.int .i64 0,.int .i64 0]) ?_ 0 _ rfl;(with_reducible repeat (first|refine qb ?_ _|refine qe ?_|refine qc ?_ _));exact BK202.out⟩,⟨by repeat (first|(with_reducible first|exact HB.out|apply qf|apply qa|apply qd|refine qg ?_ GE199.out|refine qg ?_ GE202.out)|exact HB.out)⟩⟩
                        · replace c24:=Bool.eq_false_iff.mpr c24
                          subst c24
                          have H1 : (impl_GraphOk.j1 k1 x13_1 l0_1 (l0_1.length : Int) x13_1 true a0_0 l0_1 ((rd_T101 l0_1 x13_1).f0) ((rd_T101 l0_1 x13_1).f1) ((rd_T101 l0_1 x13_1).f2) ((rd_T101 l0_1 x13_1).f3) ((rd_T101 l0_1 x13_1).f4)) = some r:=by rw [if_neg (show ¬ (false = true) by decide)] at H;exact H
                          clear H
                          have H:=H1
                          clear H1
                          have H':=qn.mk H
                          clear H
                          have hnb29:=NB202_199.out
                          have hnc29:=NB199_202.out
                          have hcz30_0 : w10.cell? ⟨gb202,0,none⟩ = some (.int .i64 0):=(qh BK202.out 0).trans rfl
                          have hcz30_1 : w10.cell? ⟨gb202,1,none⟩ = some (.int .i64 0):=(qh BK202.out 1).trans rfl
                          have hcz30_2 : w10.cell? ⟨gb202,2,none⟩ = some (.int .i64 0):=(qh BK202.out 2).trans rfl
                          have hcz30_3 : w10.cell? ⟨gb202,3,none⟩ = some (.int .i64 0):=(qh BK202.out 3).trans rfl
                          have hcz30_4 : w10.cell? ⟨gb202,4,none⟩ = some (.int .i64 0):=(qh BK202.out 4).trans rfl
                          have hfz30_0:=qi BK202.out 0
                          have hfz30_1:=qi BK202.out 1
                          have hfz30_2:=qi BK202.out 2
                          have hfz30_3:=qi BK202.out 3
                          have hfz30_4:=qi BK202.out 4
                          have hcz31_0 : w10.cell? ⟨gb199,0,none⟩ = some (.int .i64 a0_0):=(qh BK199.out 0).trans rfl
                          have hcz31_1 : w10.cell? ⟨gb199,1,none⟩ = some (.slice (some ad201) l0_1.length c0_1):=(qh BK199.out 1).trans rfl
                          have hfz31_0:=qi BK199.out 0
                          have hfz31_1:=qi BK199.out 1
                          go_wp2_with (first|(go_at_call 28;(with_reducible refine (impl_in.calls ((rd_T101 l0_1 x13_1).f0) 0 (wrap64 (a0_0 - 1)) true _ A13.out).mono ?_);rintro e w' ⟨rfl,⟨nd,rfl⟩⟩;(try first|exact ⟨rfl,_,World.drewN_drewN _ _ _⟩|exact ⟨rfl,_,Eq.trans (World.drewN_drewN _ _ _) (congrArg (World.drewN _) (Nat.add_assoc _ _ _))⟩))|(go_at_call 28;(with_reducible refine (impl_in.calls ((rd_T101 l0_1 x13_1).f1) 0 (wrap64 (a0_0 - 1)) true _ A15.out).mono ?_);rintro e w' ⟨rfl,⟨nd,rfl⟩⟩;(try first|exact ⟨rfl,_,World.drewN_drewN _ _ _⟩|exact ⟨rfl,_,Eq.trans (World.drewN_drewN _ _ _) (congrArg (World.drewN _) (Nat.add_assoc _ _ _))⟩))|(go_at_call 28;(with_reducible refine (impl_in.calls ((rd_T101 l0_1 x13_1).f2) 0 50 true _ A21.out).mono ?_);rintro e w' ⟨rfl,⟨nd,rfl⟩⟩;(try first|exact ⟨rfl,_,World.drewN_drewN _ _ _⟩|exact ⟨rfl,_,Eq.trans (World.drewN_drewN _ _ _) (congrArg (World.drewN _) (Nat.add_assoc _ _ _))⟩))|(go_at_call 28;(with_reducible refine (impl_in.calls ((rd_T101 l0_1 x13_1).f3) 0 50 false _ A23.out).mono ?_);rintro e w' ⟨rfl,⟨nd,rfl⟩⟩;(try first|exact ⟨rfl,_,World.drewN_drewN _ _ _⟩|exact ⟨rfl,_,Eq.trans (World.drewN_drewN _ _ _) (congrArg (World.drewN _) (Nat.add_assoc _ _ _))⟩)))
                          repeat (go_quiet (first|(go_at_call 28;(with_reducible refine (impl_in.calls ((rd_T101 l0_1 x13_1).f0) 0 (wrap64 (a0_0 - 1)) true _ A13.out).mono ?_);rintro e w' ⟨rfl,⟨nd,rfl⟩⟩;(try first|exact ⟨rfl,_,World.drewN_drewN _ _ _⟩|exact ⟨rfl,_,Eq.trans (World.drewN_drewN _ _ _) (congrArg (World.drewN _) (Nat.add_assoc _ _ _))⟩))|(go_at_call 28;(with_reducible refine (impl_in.calls ((rd_T101 l0_1 x13_1).f1) 0 (wrap64 (a0_0 - 1)) true _ A15.out).mono ?_);rintro e w' ⟨rfl,⟨nd,rfl⟩⟩;(try first|exact ⟨rfl,_,World.drewN_drewN _ _ _⟩|exact ⟨rfl,_,Eq.trans (World.drewN_drewN _ _ _) (congrArg (World.drewN _) (Nat.add_assoc _ _ _))⟩))|(go_at_call 28;(with_reducible refine (impl_in.calls ((rd_T101 l0_1 x13_1).f2) 0 50 true _ A21.out).mono ?_);rintro e w' ⟨rfl,⟨nd,rfl⟩⟩;(try first|exact ⟨rfl,_,World.drewN_drewN _ _ _⟩|exact ⟨rfl,_,Eq.trans (World.drewN_drewN _ _ _) (congrArg (World.drewN _) (Nat.add_assoc _ _ _))⟩))|(go_at_call 28;(with_reducible refine (impl_in.calls ((rd_T101 l0_1 x13_1).f3) 0 50 false _ A23.out).mono ?_);rintro e w' ⟨rfl,⟨nd,rfl⟩⟩;(try first|exact ⟨rfl,_,World.drewN_drewN _ _ _⟩|exact ⟨rfl,_,Eq.trans (World.drewN_drewN _ _ _) (congrArg (World.drewN _) (Nat.add_assoc _ _ _))⟩)));try go_wp2_with (first|(go_at_call 28;(with_reducible refine (impl_in.calls ((rd_T101 l0_1 x13_1).f0) 0 (wrap64 (a0_0 - 1)) true _ A13.out).mono ?_);rintro e w' ⟨rfl,⟨nd,rfl⟩⟩;(try first|exact ⟨rfl,_,World.drewN_drewN _ _ _⟩|exact ⟨rfl,_,Eq.trans (World.drewN_drewN _ _ _) (congrArg (World.drewN _) (Nat.add_assoc _ _ _))⟩))|(go_at_call 28;(with_reducible refine (impl_in.calls ((rd_T101 l0_1 x13_1).f1) 0 (wrap64 (a0_0 - 1)) true _ A15.out).mono ?_);rintro e w' ⟨rfl,⟨nd,rfl⟩⟩;(try first|exact ⟨rfl,_,World.drewN_drewN _ _ _⟩|exact ⟨rfl,_,Eq.trans (World.drewN_drewN _ _ _) (congrArg (World.drewN _) (Nat.add_assoc _ _ _))⟩))|(go_at_call 28;(with_reducible refine (impl_in.calls ((rd_T101 l0_1 x13_1).f2) 0 50 true _ A21.out).mono ?_);rintro e w' ⟨rfl,⟨nd,rfl⟩⟩;(try first|exact ⟨rfl,_,World.drewN_drewN _ _ _⟩|exact ⟨rfl,_,Eq.trans (World.drewN_drewN _ _ _) (congrArg (World.drewN _) (Nat.add_assoc _ _ _))⟩))|(go_at_call 28;(with_reducible refine (impl_in.calls ((rd_T101 l0_1 x13_1).f3) 0 50 false _ A23.out).mono ?_);rintro e w' ⟨rfl,⟨nd,rfl⟩⟩;(try first|exact ⟨rfl,_,World.drewN_drewN _ _ _⟩|exact ⟨rfl,_,Eq.trans (World.drewN_drewN _ _ _) (congrArg (World.drewN _) (Nat.add_assoc _ _ _))⟩))))
                          go_meet
                          case rel=>exact ⟨_,(true),(by first|rfl|(simp;done)|(simp [*];done)),H',⟨by have:=HK1.out;first|omega|exact Nat.le_refl _⟩,⟨by (with_reducible repeat (first|refine qb ?_ _|refine qe ?_|refine qc ?_ _));refine blk_far ?_ NB199_202.out _;(with_reducible repeat (first|refine qb ?_ _|refine qe ?_|refine qc ?_ _));refine blk_far ?_ NB199_202.out _;(with_reducible repeat (first|refine qb ?_ _|refine qe ?_|refine qc ?_ _));refine blk_far ?_ NB199_202.out _;(with_reducible repeat (first|refine qb ?_ _|refine qe ?_|refine qc ?_ _));refine blk_far ?_ NB199_202.out _;(with_reducible repeat (first|refine qb ?_ _|refine qe ?_|refine qc ?_ _));refine blk_far ?_ NB199_202.out _;(with_reducible repeat (first|refine qb ?_ _|refine qe ?_|refine qc ?_ _));exact BK199.out⟩,⟨by (with_reducible repeat (first|refine qb ?_ _|refine qe ?_|refine qc ?_ _));refine blk_put (cs:=#[.int .i64 ((rd_T101 l0_1 x13_1).f0),.int .i64 ((rd_T101 l0_1 x13_1).f1),.int .i64 ((rd_T101 l0_1 x13_1).f2),.int .i64 ((rd_T101 l0_1 x13_1).f3),.int .i64 0]) ?_ 4 _ rfl;(with_reducible repeat (first|refine qb ?_ _|refine qe ?_|refine qc ?_ _));refine blk_put (cs:=#[.int .i64 ((rd_T101 l0_1 x13_1).f0),.int .i64 ((rd_T101 l0_1 x13_1).f1),.int .i64 ((rd_T101 l0_1 x13_1).f2),.int .i64 0,.int .i64 0]) ?_ 3 _ rfl;(with_reducible repeat (first|refine qb ?_ _|refine qe ?_|refine qc ?_ _));refine blk_put (cs:=#[.int .i64 ((rd_T101 l0_1 x13_1).f0),.int .i64 ((rd_T101 l0_1 x13_1).f1),.int .i64 0,.int .i64 0,.int .i64 0]) ?_ 2 _ rfl;(with_reducible repeat (first|refine qb ?_ _|refine qe ?_|refine qc ?_ _));refine blk_put (cs:=#[.int .i64 ((rd_T101 l0_1 x13_1).f0),.int .i64 0,.int .i64 0,.int .i64 0,.int .i64 0]) ?_ 1 _ rfl;(with_reducible repeat (first|refine qb ?_ _|refine qe ?_|refine qc ?_ _));refine blk_put (cs:=#[.int .i64 0,.int .i64 0,.int .i64 0,.int .i64 0,.int .i64 0]) ?_ 0 _ rfl;(with_reducible repeat (first|refine qb ?_ _|refine qe ?_|refine qc ?_ _));exact BK202.out⟩,⟨by repeat (first|(with_reducible first|exact HB.out|apply qf|apply qa|apply qd|refine qg ?_ GE199.out|refine qg ?_ GE202.out)|exact HB.out)⟩⟩
                      · replace c22:=Bool.eq_false_iff.mpr c22
                        subst c22
                        have H1 : (impl_GraphOk.j1 k1 x13_1 l0_1 (l0_1.length : Int) x13_1 true a0_0 l0_1 ((rd_T101 l0_1 x13_1).f0) ((rd_T101 l0_1 x13_1).f1) ((rd_T101 l0_1 x13_1).f2) ((rd_T101 l0_1 x13_1).f3) ((rd_T101 l0_1 x13_1).f4)) = some r:=by rw [if_neg (show ¬ (false = true) by decide)] at H;exact H
                        clear H
                        have H:=H1
                        clear H1
                        have H':=qn.mk H
                        clear H
                        have hnb32:=NB202_199.out
                        have hnc32:=NB199_202.out
                        have hcz33_0 : w10.cell? ⟨gb202,0,none⟩ = some (.int .i64 0):=(qh BK202.out 0).trans rfl
                        have hcz33_1 : w10.cell? ⟨gb202,1,none⟩ = some (.int .i64 0):=(qh BK202.out 1).trans rfl
                        have hcz33_2 : w10.cell? ⟨gb202,2,none⟩ = some (.int .i64 0):=(qh BK202.out 2).trans rfl
                        have hcz33_3 : w10.cell? ⟨gb202,3,none⟩ = some (.int .i64 0):=(qh BK202.out 3).trans rfl
                        have hcz33_4 : w10.cell? ⟨gb202,4,none⟩ = some (.int .i64 0):=(qh BK202.out 4).trans rfl
                        have hfz33_0:=qi BK202.out 0
                        have hfz33_1:=qi BK202.out 1
                        have hfz33_2:=qi BK202.out 2
                        have hfz33_3:=qi BK202.out 3
                        have hfz33_4:=qi BK202.out 4
                        have hcz34_0 : w10.cell? ⟨gb199,0,none⟩ = some (.int .i64 a0_0):=(qh BK199.out 0).trans rfl
                        have hcz34_1 : w10.cell? ⟨gb199,1,none⟩ = some (.slice (some ad201) l0_1.length c0_1):=(qh BK199.out 1).trans rfl
                        have hfz34_0:=qi BK199.out 0
                        have hfz34_1:=qi BK199.out 1
                        go_wp2_with (first|(go_at_call 28;(with_reducible refine (impl_in.calls ((rd_T101 l0_1 x13_1).f0) 0 (wrap64 (a0_0 - 1)) true _ A13.out).mono ?_);rintro e w' ⟨rfl,⟨nd,rfl⟩⟩;(try first|exact ⟨rfl,_,World.drewN_drewN _ _ _⟩|exact ⟨rfl,_,Eq.trans (World.drewN_drewN _ _ _) (congrArg (World.drewN _) (Nat.add_assoc _ _ _))⟩))|(go_at_call 28;(with_reducible refine (impl_in.calls ((rd_T101 l0_1 x13_1).f1) 0 (wrap64 (a0_0 - 1)) true _ A15.out).mono ?_);rintro e w' ⟨rfl,⟨nd,rfl⟩⟩;(try first|exact ⟨rfl,_,World.drewN_drewN _ _ _⟩|exact ⟨rfl,_,Eq.trans (World.drewN_drewN _ _ _) (congrArg (World.drewN _) (Nat.add_assoc _ _ _))⟩))|(go_at_call 28;(with_reducible refine (impl_in.calls ((rd_T101 l0_1 x13_1).f2) 0 50 false _ A21.out).mono ?_);rintro e w' ⟨rfl,⟨nd,rfl⟩⟩;(try first|exact ⟨rfl,_,World.drewN_drewN _ _ _⟩|exact ⟨rfl,_,Eq.trans (World.drewN_drewN _ _ _) (congrArg (World.drewN _) (Nat.add_assoc _ _ _))⟩)))
                        repeat (go_quiet (first|(go_at_call 28;(with_reducible refine (impl_in.calls ((rd_T101 l0_1 x13_1).f0) 0 (wrap64 (a0_0 - 1)) true _ A13.out).mono ?_);rintro e w' ⟨rfl,⟨nd,rfl⟩⟩;(try first|exact ⟨rfl,_,World.drewN_drewN _ _ _⟩|exact ⟨rfl,_,Eq.trans (World.drewN_drewN _ _ _) (congrArg (World.drewN _) (Nat.add_assoc _ _ _))⟩))|(go_at_call 28;(with_reducible refine (impl_in.calls ((rd_T101 l0_1 x13_1).f1) 0 (wrap64 (a0_0 - 1)) true _ A15.out).mono ?_);rintro e w' ⟨rfl,⟨nd,rfl⟩⟩;(try first|exact ⟨rfl,_,World.drewN_drewN _ _ _⟩|exact ⟨rfl,_,Eq.trans (World.drewN_drewN _ _ _) (congrArg (World.drewN _) (Nat.add_assoc _ _ _))⟩))|(go_at_call 28;(with_reducible refine (impl_in.calls ((rd_T101 l0_1 x13_1).f2) 0 50 false _ A21.out).mono ?_);rintro e w' ⟨rfl,⟨nd,rfl⟩⟩;(try first|exact ⟨rfl,_,World.drewN_drewN _ _ _⟩|exact ⟨rfl,_,Eq.trans (World.drewN_drewN _ _ _) (congrArg (World.drewN _) (Nat.add_assoc _ _ _))⟩)));try go_wp2_with (first|(go_at_call 28;(with_reducible refine (impl_in.calls ((rd_T101 l0_1 x13_1).f0) 0 (wrap64 (a0_0 - 1)) true _ A13.out).mono ?_);rintro e w' ⟨rfl,⟨nd,rfl⟩⟩;(try first|exact ⟨rfl,_,World.drewN_drewN _ _ _⟩|exact ⟨rfl,_,Eq.trans (World.drewN_drewN _ _ _) (congrArg (World.drewN _) (Nat.add_assoc _ _ _))⟩))|(go_at_call 28;(with_reducible refine (impl_in.calls ((rd_T101 l0_1 x13_1).f1) 0 (wrap64 (a0_0 - 1)) true _ A15.out).mono ?_);rintro e w' ⟨rfl,⟨nd,rfl⟩⟩;(try first|exact ⟨rfl,_,World.drewN_drewN _ _ _⟩|exact ⟨rfl,_,Eq.trans (World.drewN_drewN _ _ _) (congrArg (World.drewN _) (Nat.add_assoc _ _ _))⟩))|(go_at_call 28;(with_reducible refine (impl_in.calls ((rd_T101 l0_1 x13_1).f2) 0 50 false _ A21.out).mono ?_);rintro e w' ⟨rfl,⟨nd,rfl⟩⟩;(try first|exact ⟨rfl,_,World.drewN_drewN _ _ _⟩|exact ⟨rfl,_,Eq.trans (World.drewN_drewN _ _ _) (congrArg (World.drewN _) (Nat.add_assoc _ _ _))⟩))))
                        go_meet
                        case rel=>exact ⟨_,(true),(by first|rfl|(simp;done)|(simp [*];done)),H',⟨by have:=HK1.out;first|omega|exact Nat.le_refl _⟩,⟨by (with_reducible repeat (first|refine qb ?_ _|refine qe ?_|refine qc ?_ _));refine blk_far ?_ NB199_202.out _;(with_reducible repeat (first|refine qb ?_ _|refine qe ?_|refine qc ?_ _));refine blk_far ?_ NB199_202.out _;(with_reducible repeat (first|refine qb ?_ _|refine qe ?_|refine qc ?_ _));refine blk_far ?_ NB199_202.out _;(with_reducible repeat (first|refine qb ?_ _|refine qe ?_|refine qc ?_ _));refine blk_far ?_ NB199_202.out _;(with_reducible repeat (first|refine qb ?_ _|refine qe ?_|refine qc ?_ _));refine blk_far ?_ NB199_202.out _;(with_reducible repeat (first|refine qb ?_ _|refine qe ?_|refine qc ?_ _));exact BK199.out⟩,⟨by (with_reducible repeat (first|refine qb ?_ _|refine qe ?_|refine qc ?_ _));refine blk_put (cs:=#[.int .i64 ((rd_T101 l0_1 x13_1).f0),.int .i64 ((rd_T101 l0_1 x13_1).f1),.int .i64 ((rd_T101 l0_1 x13_1).f2),.int .i64 ((rd_T101 l0_1 x13_1).f3),.int .i64 0]) ?_ 4 _ rfl;(with_reducible repeat (first|refine qb ?_ _|refine qe ?_|refine qc ?_ _));refine blk_put (cs:=#[.int .i64 ((rd_T101 l0_1 x13_1).f0),.int .i64 ((rd_T101 l0_1 x13_1).f1),.int .i64 ((rd_T101 l0_1 x13_1).f2),.int .i64 0,.int .i64 0]) ?_ 3 _ rfl;(with_reducible repeat (first|refine qb ?_ _|refine qe ?_|refine qc ?_ _));refine blk_put (cs:=#[.int .i64 ((rd_T101 l0_1 x13_1).f0),.int .i64 ((rd_T101 l0_1 x13_1).f1),.int .i64 0,.int .i64 0,.int .i64 0]) ?_ 2 _ rfl;(with_reducible repeat (first|refine qb ?_ _|refine qe ?_|refine qc ?_ _));refine blk_put (cs:=#[.int .i64 ((rd_T101 l0_1 x13_1).f0),.int .i64 0,.int .i64 0,.int .i64 0,.int .i64 0]) ?_ 1 _ rfl;(with_reducible repeat (first|refine qb ?_ _|refine qe ?_|refine qc ?_ _));refine blk_put (cs:=#[.int .i64 0,.int .i64 0,.int .i64 0,.int .i64 0,.int .i64 0]) ?_ 0 _ rfl;(with_reducible repeat (first|refine qb ?_ _|refine qe ?_|refine qc ?_ _));exact BK202.out⟩,⟨by repeat (first|(with_reducible first|exact HB.out|apply qf|apply qa|apply qd|refine qg ?_ GE199.out|refine qg ?_ GE202.out)|exact HB.out)⟩⟩
                  · replace c16:=Bool.eq_false_iff.mpr c16
                    subst c16
                    have H1 : (impl_GraphOk.j1 k1 x13_1 l0_1 (l0_1.length : Int) x13_1 true a0_0 l0_1 ((rd_T101 l0_1 x13_1).f0) ((rd_T101 l0_1 x13_1).f1) ((rd_T101 l0_1 x13_1).f2) ((rd_T101 l0_1 x13_1).f3) ((rd_T101 l0_1 x13_1).f4)) = some r:=by rw [if_neg (show ¬ (false = true) by decide)] at H;exact H
                    clear H
                    have H:=H1
                    clear H1
                    have H':=qn.mk H
                    clear H
                    have hnb35:=NB202_199.out
                    have hnc35:=NB199_202.out
                    have hcz36_0 : w10.cell? ⟨gb202,0,none⟩ = some (.int .i64 0):=(qh BK202.out 0).trans rfl
                    have hcz36_1 : w10.cell? ⟨gb202,1,none⟩ = some (.int .i64 0):=(qh BK202.out 1).trans rfl
                    have hcz36_2 : w10.cell? ⟨gb202,2,none⟩ = some (.int .i64 0):=(qh BK202.out 2).trans rfl
                    have hcz36_3 : w10.cell? ⟨gb202,3,none⟩ = some (.int .i64 0):=(qh BK202.out 3).trans rfl
                    have hcz36_4 : w10.cell? ⟨gb202,4,none⟩ = some (.int .i64 0):=(qh BK202.out 4).trans rfl
                    have hfz36_0:=qi BK202.out 0
                    have hfz36_1:=qi BK202.out 1
                    have hfz36_2:=qi BK202.out 2
                    have hfz36_3:=qi BK202.out 3
                    have hfz36_4:=qi BK202.out 4
                    have hcz37_0 : w10.cell? ⟨gb199,0,none⟩ = some (.int .i64 a0_0):=(qh BK199.out 0).trans rfl
                    have hcz37_1 : w10.cell? ⟨gb199,1,none⟩ = some (.slice (some ad201) l0_1.length c0_1):=(qh BK199.out 1).trans rfl
                    have hfz37_0:=qi BK199.out 0
                    have hfz37_1:=qi BK199.out 1
                    go_wp2_with (first|(go_at_call 28;(with_reducible refine (impl_in.calls ((rd_T101 l0_1 x13_1).f0) 0 (wrap64 (a0_0 - 1)) true _ A13.out).mono ?_);rintro e w' ⟨rfl,⟨nd,rfl⟩⟩;(try first|exact ⟨rfl,_,World.drewN_drewN _ _ _⟩|exact ⟨rfl,_,Eq.trans (World.drewN_drewN _ _ _) (congrArg (World.drewN _) (Nat.add_assoc _ _ _))⟩))|(go_at_call 28;(with_reducible refine (impl_in.calls ((rd_T101 l0_1 x13_1).f1) 0 (wrap64 (a0_0 - 1)) false _ A15.out).mono ?_);rintro e w' ⟨rfl,⟨nd,rfl⟩⟩;(try first|exact ⟨rfl,_,World.drewN_drewN _ _ _⟩|exact ⟨rfl,_,Eq.trans (World.drewN_drewN _ _ _) (congrArg (World.drewN _) (Nat.add_assoc _ _ _))⟩)))
                    repeat (go_quiet (first|(go_at_call 28;(with_reducible refine (impl_in.calls ((rd_T101 l0_1 x13_1).f0) 0 (wrap64 (a0_0 - 1)) true _ A13.out).mono ?_);rintro e w' ⟨rfl,⟨nd,rfl⟩⟩;(try first|exact ⟨rfl,_,World.drewN_drewN _ _ _⟩|exact ⟨rfl,_,Eq.trans (World.drewN_drewN _ _ _) (congrArg (World.drewN _) (Nat.add_assoc _ _ _))⟩))|(go_at_call 28;(with_reducible refine (impl_in.calls ((rd_T101 l0_1 x13_1).f1) 0 (wrap64 (a0_0 - 1)) false _ A15.out).mono ?_);rintro e w' ⟨rfl,⟨nd,rfl⟩⟩;(try first|exact ⟨rfl,_,World.drewN_drewN _ _ _⟩|exact ⟨rfl,_,Eq.trans (World.drewN_drewN _ _ _) (congrArg (World.drewN _) (Nat.add_assoc _ _ _))⟩)));try go_wp2_with (first|(go_at_call 28;(with_reducible refine (impl_in.calls ((rd_T101 l0_1 x13_1).f0) 0 (wrap64 (a0_0 - 1)) true _ A13.out).mono ?_);rintro e w' ⟨rfl,⟨nd,rfl⟩⟩;(try first|exact ⟨rfl,_,World.drewN_drewN _ _ _⟩|exact ⟨rfl,_,Eq.trans (World.drewN_drewN _ _ _) (congrArg (World.drewN _) (Nat.add_assoc _ _ _))⟩))|(go_at_call 28;(with_reducible refine (impl_in.calls ((rd_T101 l0_1 x13_1).f1) 0 (wrap64 (a0_0 - 1)) false _ A15.out).mono ?_);rintro e w' ⟨rfl,⟨nd,rfl⟩⟩;(try first|exact ⟨rfl,_,World.drewN_drewN _ _ _⟩|exact ⟨rfl,_,Eq.trans (World.drewN_drewN _ _ _) (congrArg (World.drewN _) (Nat.add_assoc _ _ _))⟩))))
                    go_meet
                    case rel=>exact ⟨_,(true),(by first|rfl|(simp;done)|(simp [*];done)),H',⟨by have:=HK1.out;first|omega|exact Nat.le_refl _⟩,⟨by (with_reducible repeat (first|refine qb ?_ _|refine qe ?_|refine qc ?_ _));refine blk_far ?_ NB199_202.out _;(with_reducible repeat (first|refine qb ?_ _|refine qe ?_|refine qc ?_ _));refine blk_far ?_ NB199_202.out _;(with_reducible repeat (first|refine qb ?_ _|refine qe ?_|refine qc ?_ _));refine blk_far ?_ NB199_202.out _;(with_reducible repeat (first|refine qb ?_ _|refine qe ?_|refine qc ?_ _));refine blk_far ?_ NB199_202.out _;(with_reducible repeat (first|refine qb ?_ _|refine qe ?_|refine qc ?_ _));refine blk_far ?_ NB199_202.out _;(with_reducible repeat (first|refine qb ?_ _|refine qe ?_|refine qc ?_ _));exact BK199.out⟩,⟨by (with_reducible repeat (first|refine qb ?_ _|refine qe ?_|refine qc ?_ _));refine blk_put (cs:=#[.int .i64 ((rd_T101 l0_1 x13_1).f0),.int .i64 ((rd_T101 l0_1 x13_1).f1),.int .i64 ((rd_T101 l0_1 x13_1).f2),.int .i64 ((rd_T101 l0_1 x13_1).f3),.int .i64 0]) ?_ 4 _ rfl;(with_reducible repeat (first|refine qb ?_ _|refine qe ?_|refine qc ?_ _));refine blk_put (cs:=#[.int .i64 ((rd_T101 l0_1 x13_1).f0),.int .i64 ((rd_T101 l0_1 x13_1).f1),.int .i64 ((rd_T101 l0_1 x13_1).f2),.int .i64 0,.int .i64 0]) ?_ 3 _ rfl;(with_reducible repeat (first|refine qb ?_ _|refine qe ?_|refine qc ?_ _));refine blk_put (cs:=#[.int .i64 ((rd_T101 l0_1 x13_1).f0),.int .i64 ((rd_T101 l0_1 x13_1).f1),.int .i64 0,.int .i64 0,.int .i64 0]) ?_ 2 _ rfl;(with_reducible repeat (first|refine qb ?_ _|refine qe ?_|refine qc ?_ _));refine blk_put (cs:=#[.int .i64 ((rd_T101 l0_1 x13_1).f0),.int .i64 0,.int .i64 0,.int .i64 0,.int .i64 0]) ?_ 1 _ rfl;(with_reducible repeat (first|refine qb ?_ _|refine qe ?_|refine qc ?_ _));refine blk_put (cs:=#[.int .i64 0,.int .i64 0,.int .i64 0,.int .i64 0,.int .i64 0]) ?_ 0 _ rfl;(with_reducible repeat (first|refine qb ?_ _|refine qe ?_|refine qc ?_ _));exact BK202.out⟩,⟨by repeat (first|(with_reducible first|exact HB.out|apply qf|apply qa|apply qd|refine qg ?_ GE199.out|refine qg ?_ GE202.out)|exact HB.out)⟩⟩
                · replace c14:=Bool.eq_false_iff.mpr c14
                  subst c14
                  have H1 : (impl_GraphOk.j1 k1 x13_1 l0_1 (l0_1.length : Int) x13_1 true a0_0 l0_1 ((rd_T101 l0_1 x13_1).f0) ((rd_T101 l0_1 x13_1).f1) ((rd_T101 l0_1 x13_1).f2) ((rd_T101 l0_1 x13_1).f3) ((rd_T101 l0_1 x13_1).f4)) = some r:=by rw [if_neg (show ¬ (false = true) by decide)] at H;exact H
                  clear H
                  have H:=H1
                  clear H1
                  have H':=qn.mk H
                  clear H
                  have hnb38:=NB202_199.out
                  have hnc38:=NB199_202.out
                  have hcz39_0 : w10.cell? ⟨gb202,0,none⟩ = some (.int .i64 0):=(qh BK202.out 0).trans rfl
                  have hcz39_1 : w10.cell? ⟨gb202,1,none⟩ = some (.int .i64 0):=(qh BK202.out 1).trans rfl
                  have hcz39_2 : w10.cell? ⟨gb202,2,none⟩ = some (.int .i64 0):=(qh BK202.out 2).trans rfl
                  have hcz39_3 : w10.cell? ⟨gb202,3,none⟩ = some (.int .i64 0):=(qh BK202.out 3).trans rfl
                  have hcz39_4 : w10.cell? ⟨gb202,4,none⟩ = some (.int .i64 0):=(qh BK202.out 4).trans rfl
                  have hfz39_0:=qi BK202.out 0
                  have hfz39_1:=qi BK202.out 1
                  have hfz39_2:=qi BK202.out 2
                  have hfz39_3:=qi BK202.out 3
                  have hfz39_4:=qi BK202.out 4
                  have hcz40_0 : w10.cell? ⟨gb199,0,none⟩ = some (.int .i64 a0_0):=(qh BK199.out 0).trans rfl
                  have hcz40_1 : w10.cell? ⟨gb199,1,none⟩ = some (.slice (some ad201) l0_1.length c0_1):=(qh BK199.out 1).trans rfl
                  have hfz40_0:=qi BK199.out 0
                  have hfz40_1:=qi BK199.out 1
                  go_wp2_with (first|(go_at_call 28;(with_reducible refine (impl_in.calls ((rd_T101 l0_1 x13_1).f0) 0 (wrap64 (a0_0 - 1)) false _ A13.out).mono ?_);rintro e w' ⟨rfl,⟨nd,rfl⟩⟩;(try first|exact ⟨rfl,_,World.drewN_drewN _ _ _⟩|exact ⟨rfl,_,Eq.trans (World.drewN_drewN _ _ _) (congrArg (World.drewN _) (Nat.add_assoc _ _ _))⟩)))
                  repeat (go_quiet (first|(go_at_call 28;(with_reducible refine (impl_in.calls ((rd_T101 l0_1 x13_1).f0) 0 (wrap64 (a0_0 - 1)) false _ A13.out).mono ?_);rintro e w' ⟨rfl,⟨nd,rfl⟩⟩;(try first|exact ⟨rfl,_,World.drewN_drewN _ _ _⟩|exact ⟨rfl,_,Eq.trans (World.drewN_drewN _ _ _) (congrArg (World.drewN _) (Nat.add_assoc _ _ _))⟩)));try go_wp2_with (first|(go_at_call 28;(with_reducible refine (impl_in.calls ((rd_T101 l0_1 x13_1).f0) 0 (wrap64 (a0_0 - 1)) false _ A13.out).mono ?_);rintro e w' ⟨rfl,⟨nd,rfl⟩⟩;(try first|exact ⟨rfl,_,World.drewN_drewN _ _ _⟩|exact ⟨rfl,_,Eq.trans (World.drewN_drewN _ _ _) (congrArg (World.drewN _) (Nat.add_assoc _ _ _))⟩))))
                  go_meet
                  case rel=>exact ⟨_,(true),(by first|rfl|(simp;done)|(simp [*];done)),H',⟨by have:=HK1.out;first|omega|exact Nat.le_refl _⟩,⟨by (with_reducible repeat (first|refine qb ?_ _|refine qe ?_|refine qc ?_ _));refine blk_far ?_ NB199_202.out _;(with_reducible repeat (first|refine qb ?_ _|refine qe ?_|refine qc ?_ _));refine blk_far ?_ NB199_202.out _;(with_reducible repeat (first|refine qb ?_ _|refine qe ?_|refine qc ?_ _));refine blk_far ?_ NB199_202.out _;(with_reducible repeat (first|refine qb ?_ _|refine qe ?_|refine qc ?_ _));refine blk_far ?_ NB199_202.out _;(with_reducible repeat (first|refine qb ?_ _|refine qe ?_|refine qc ?_ _));refine blk_far ?_ NB199_202.out _;(with_reducible repeat (first|refine qb ?_ _|refine qe ?_|refine qc ?_ _));exact BK199.out⟩,⟨by (with_reducible repeat (first|refine qb ?_ _|refine qe ?_|refine qc ?_ _));refine blk_put (cs:=#[.int .i64 ((rd_T101 l0_1 x13_1).f0),.int .i64 ((rd_T101 l0_1 x13_1).f1),.int .i64 ((rd_T101 l0_1 x13_1).f2),.int .i64 ((rd_T101 l0_1 x13_1).f3),.int .i64 0]) ?_ 4 _ rfl;(with_reducible repeat (first|refine qb ?_ _|refine qe ?_|refine qc ?_ _));refine blk_put (cs:=#[.int .i64 ((rd_T101 l0_1 x13_1).f0),.int .i64 ((rd_T101 l0_1 x13_1).f1),.int .i64 ((rd_T101 l0_1 x13_1).f2),.int .i64 0,.int .i64 0]) ?_ 3 _ rfl;(with_reducible repeat (first|refine qb ?_ _|refine qe ?_|refine qc ?_ _));refine blk_put (cs:=#[.int .i64 ((rd_T101 l0_1 x13_1).f0),.int .i64 ((rd_T101 l0_1 x13_1).f1),.int .i64 0,.int .i64 0,.int .i64 0]) ?_ 2 _ rfl;(with_reducible repeat (first|refine qb ?_ _|refine qe ?_|refine qc ?_ _));refine blk_put (cs:=#[.int .i64 ((rd_T101 l0_1 x13_1).f0),.int .i64 0,.int .i64 0,.int .i64 0,.int .i64 0]) ?_ 1 _ rfl;(with_reducible repeat (first|refine qb ?_ _|refine qe ?_|refine qc ?_ _));refine blk_put (cs:=#[.int .i64 0,.int .i64 0,.int .i64 0,.int .i64 0,.int .i64 0]) ?_ 0 _ rfl;(with_reducible repeat (first|refine qb ?_ _|refine qe ?_|refine qc ?_ _));exact BK202.out⟩,⟨by repeat (first|(with_reducible first|exact HB.out|apply qf|apply qa|apply qd|refine qg ?_ GE199.out|refine qg ?_ GE202.out)|exact HB.out)⟩⟩
              case rest =>
                clear HC9
                try clear c1
                try clear c2
                try clear p2
                try clear q2
                try clear hx2
                try clear c3
                try clear c5
                try clear c6
                try clear c6b0
                try clear p6
                try clear c7
                try clear c7b0
                try clear c8
                try clear c8b0
                try clear c11
                try clear c14
                try clear c16
                try clear c17
                try clear c17b0
                try clear c18
                try clear p20
                try clear q20
                try clear hx20
                try clear c22
                try clear c24
                try clear c26
                try clear c29
                try clear c32
                try clear c35
                try clear c38
                try clear hcz12_0
                try clear hcz12_1
                try clear hcz12_2
                try clear hcz12_3
                try clear hcz12_4
                try clear hcz19_0
                try clear hcz19_1
                try clear hcz19_2
                try clear hcz19_3
                try clear hcz19_4
                try clear hcz20_0
                try clear hcz20_1
                try clear hcz27_0
                try clear hcz27_1
                try clear hcz27_2
                try clear hcz27_3
                try clear hcz27_4
                try clear hcz28_0
                try clear hcz28_1
                try clear hcz30_0
                try clear hcz30_1
                try clear hcz30_2
                try clear hcz30_3
                try clear hcz30_4
                try clear hcz31_0
                try clear hcz31_1
                try clear hcz33_0
                try clear hcz33_1
                try clear hcz33_2
                try clear hcz33_3
                try clear hcz33_4
                try clear hcz34_0
                try clear hcz34_1
                try clear hcz36_0
                try clear hcz36_1
                try clear hcz36_2
                try clear hcz36_3
                try clear hcz36_4
                try clear hcz37_0
                try clear hcz37_1
                try clear hcz39_0
                try clear hcz39_1
                try clear hcz39_2
                try clear hcz39_3
                try clear hcz39_4
                try clear hcz40_0
                try clear hcz40_1
                try clear hcz5_0
                try clear hcz5_1
                try clear hfz12_0
                try clear hfz12_1
                try clear hfz12_2
                try clear hfz12_3
                try clear hfz12_4
                try clear hfz19_0
                try clear hfz19_1
                try clear hfz19_2
                try clear hfz19_3
                try clear hfz19_4
                try clear hfz20_0
                try clear hfz20_1
                try clear hfz27_0
                try clear hfz27_1
                try clear hfz27_2
                try clear hfz27_3
                try clear hfz27_4
                try clear hfz28_0
                try clear hfz28_1
                try clear hfz30_0
                try clear hfz30_1
                try clear hfz30_2
                try clear hfz30_3
                try clear hfz30_4
                try clear hfz31_0
                try clear hfz31_1
                try clear hfz33_0
                try clear hfz33_1
                try clear hfz33_2
                try clear hfz33_3
                try clear hfz33_4
                try clear hfz34_0
                try clear hfz34_1
                try clear hfz36_0
                try clear hfz36_1
                try clear hfz36_2
                try clear hfz36_3
                try clear hfz36_4
                try clear hfz37_0
                try clear hfz37_1
                try clear hfz39_0
                try clear hfz39_1
                try clear hfz39_2
                try clear hfz39_3
                try clear hfz39_4
                try clear hfz40_0
                try clear hfz40_1
                try clear hfz5_0
                try clear hfz5_1
                try clear hx201_0
                try clear hx201_1
                try clear hx201_2
                try clear hx201_3
                try clear hx201_4
                try clear p2
                try clear p201
                try clear q201
                obtain ⟨kq,x58_8,rfl,HA,HJ8,BK199,BK202,HB⟩:=hcut
                cases kq with
                | zero=>exact absurd HA.out (by simp [impl_GraphOk.j1])
                | succ kj8 =>
                  have H:=HA.out
                  clear HA
                  simp only [impl_GraphOk.j1] at H
                  by_cases c41 : x58_8 = true
                  · subst c41
                    have H1 : (some false) = some r:=by rw [if_pos rfl] at H;exact H
                    clear H
                    have H:=H1
                    clear H1
                    obtain rfl:=Option.some.inj H
                    go_wp2
                    repeat (go_quiet (fail);try go_wp2)
                    go_ret
                    exact ⟨by first|rfl|(simp [errW_none,errW_some] <;> rfl)|(simp [*,errW_none,errW_some] <;> rfl),by repeat (first|(with_reducible first|exact HB.out|apply qf|apply qa|apply qd|refine qg ?_ GE199.out|refine qg ?_ GE202.out)|exact HB.out)⟩
                  · replace c41:=Bool.eq_false_iff.mpr c41
                    subst c41
                    have H1 : (if x13_1 > 0 then (if 0 ≤ (wrap64 (x13_1 - 1)) then (if (wrap64 (x13_1 - 1)) < (l0_1.length : Int) then (if ((rd_T101 l0_1 (wrap64 (x13_1 - 1))).f0) > ((rd_T101 l0_1 x13_1).f0) then (some false) else (if ((rd_T101 l0_1 (wrap64 (x13_1 - 1))).f0) = ((rd_T101 l0_1 x13_1).f0) then (if ((rd_T101 l0_1 (wrap64 (x13_1 - 1))).f1) ≥ ((rd_T101 l0_1 x13_1).f1) then (some false) else (impl_GraphOk.l0 kj8 l0_1 (l0_1.length : Int) (wrap64 (x13_1 + 1)) a0_0 l0_1)) else (impl_GraphOk.l0 kj8 l0_1 (l0_1.length : Int) (wrap64 (x13_1 + 1)) a0_0 l0_1))) else (none)) else (none)) else (impl_GraphOk.l0 kj8 l0_1 (l0_1.length : Int) (wrap64 (x13_1 + 1)) a0_0 l0_1)) = some r:=by rw [if_neg (show ¬ (false = true) by decide)] at H;exact H
                    clear H
                    have H:=H1
                    clear H1
                    by_cases c42 : x13_1 > 0
                    · rw [if_pos c42] at H
                      have c42b0 : decide (0 < x13_1) = true:=decide_eq_true c42
                      clear c42
                      obtain ⟨ji43,hji43⟩ : ∃ j_ : Int,(wrap64 (x13_1 - 1)) = j_:=⟨_,rfl⟩
                      replace H : (if 0 ≤ (ji43) then (if (ji43) < (l0_1.length : Int) then (if ((rd_T101 l0_1 (ji43)).f0) > ((rd_T101 l0_1 x13_1).f0) then (some false) else (if ((rd_T101 l0_1 (ji43)).f0) = ((rd_T101 l0_1 x13_1).f0) then (if ((rd_T101 l0_1 (ji43)).f1) ≥ ((rd_T101 l0_1 x13_1).f1) then (some false) else (impl_GraphOk.l0 kj8 l0_1 (l0_1.length : Int) (wrap64 (x13_1 + 1)) a0_0 l0_1)) else (impl_GraphOk.l0 kj8 l0_1 (l0_1.length : Int) (wrap64 (x13_1 + 1)) a0_0 l0_1))) else (none)) else (none)) = some r:=by first|(rw [hji43] at H;exact H)|(simp only [hji43] at H ⊢;exact H)
                      have hji43w : (IntKind.i64.wrap (x13_1 - 1)) = ji43:=(i64_w _).trans hji43
                      by_cases c44 : 0 ≤ (ji43)
                      · rw [if_pos c44] at H
                        have c44b0 : decide (0 ≤ (ji43)) = true:=decide_eq_true c44
                        clear c44
                        by_cases c45 : (ji43) < (l0_1.length : Int)
                        · rw [if_pos c45] at H
                          have c45b0 : decide ((ji43) < (l0_1.length : Int)) = true:=decide_eq_true c45
                          clear c45
                          by_cases c46 : ((rd_T101 l0_1 (ji43)).f0) > ((rd_T101 l0_1 x13_1).f0)
                          · rw [if_pos c46] at H
                            have c46b0 : decide (((rd_T101 l0_1 x13_1).f0) < ((rd_T101 l0_1 (ji43)).f0)) = true:=decide_eq_true c46
                            clear c46
                            obtain rfl:=Option.some.inj H
                            have hnb47:=NB199_202.out
                            have hnc47:=NB202_199.out
                            have hcz48_0 : wc.cell? ⟨gb199,0,none⟩ = some (.int .i64 a0_0):=(qh BK199.out 0).trans rfl
                            have hcz48_1 : wc.cell? ⟨gb199,1,none⟩ = some (.slice (some ad201) l0_1.length c0_1):=(qh BK199.out 1).trans rfl
                            have hfz48_0:=qi BK199.out 0
                            have hfz48_1:=qi BK199.out 1
                            have p208 : 0 ≤ ((ji43) : Int):=of_decide_eq_true (by first|(with_reducible assumption)|assumption)
                            have q208 : (ji43) < (l0_1.length : Int):=of_decide_eq_true (by first|(with_reducible assumption)|assumption)
                            obtain ⟨ad208,e208,hx208_0,hx208_1,hx208_2,hx208_3,hx208_4⟩:=at_T101 HR0_1.out (ji43) p208 q208
                            obtain rfl : ad201 = ad208:=(by injection e208)
                            replace hx208_0:=cb_ HB hx208_0
                            replace hx208_1:=cb_ HB hx208_1
                            replace hx208_2:=cb_ HB hx208_2
                            replace hx208_3:=cb_ HB hx208_3
                            replace hx208_4:=cb_ HB hx208_4
                            replace p208:=eq_true p208
                            replace q208:=eq_true q208
                            have hcz49_0 : wc.cell? ⟨gb202,0,none⟩ = some (.int .i64 ((rd_T101 l0_1 x13_1).f0)):=(qh BK202.out 0).trans rfl
                            have hcz49_1 : wc.cell? ⟨gb202,1,none⟩ = some (.int .i64 ((rd_T101 l0_1 x13_1).f1)):=(qh BK202.out 1).trans rfl
                            have hcz49_2 : wc.cell? ⟨gb202,2,none⟩ = some (.int .i64 ((rd_T101 l0_1 x13_1).f2)):=(qh BK202.out 2).trans rfl
                            have hcz49_3 : wc.cell? ⟨gb202,3,none⟩ = some (.int .i64 ((rd_T101 l0_1 x13_1).f3)):=(qh BK202.out 3).trans rfl
                            have hcz49_4 : wc.cell? ⟨gb202,4,none⟩ = some (.int .i64 ((rd_T101 l0_1 x13_1).f4)):=(qh BK202.out 4).trans rfl
                            have hfz49_0:=qi BK202.out 0
                            have hfz49_1:=qi BK202.out 1
                            have hfz49_2:=qi BK202.out 2
                            have hfz49_3:=qi BK202.out 3
                            have hfz49_4:=qi BK202.out 4
                            go_wp2
                            repeat (go_quiet (fail);try go_wp2)
                            go_ret
                            exact ⟨by first|rfl|(simp [errW_none,errW_some] <;> rfl)|(simp only [← hji43];first|rfl|(simp [errW_none,errW_some] <;> rfl))|(simp [*,errW_none,errW_some] <;> rfl),by repeat (first|(with_reducible first|exact HB.out|apply qf|apply qa|apply qd|refine qg ?_ GE199.out|refine qg ?_ GE202.out)|exact HB.out)⟩
                          · rw [if_neg c46] at H
                            have c46b0 : decide (((rd_T101 l0_1 x13_1).f0) < ((rd_T101 l0_1 (ji43)).f0)) = false:=decide_eq_false c46
                            clear c46
                            by_cases c50 : ((rd_T101 l0_1 (ji43)).f0) = ((rd_T101 l0_1 x13_1).f0)
                            · rw [if_pos c50] at H
                              have c50b0 : (((rd_T101 l0_1 (ji43)).f0) == ((rd_T101 l0_1 x13_1).f0)) = true:=beq_iff_eq.mpr c50
                              have c50b1 : (((rd_T101 l0_1 (ji43)).f0) != ((rd_T101 l0_1 x13_1).f0)) = false:=bne_eq_false_iff_eq.mpr c50
                              clear c50
                              by_cases c51 : ((rd_T101 l0_1 (ji43)).f1) ≥ ((rd_T101 l0_1 x13_1).f1)
                              · rw [if_pos c51] at H
                                have c51b0 : decide (((rd_T101 l0_1 x13_1).f1) ≤ ((rd_T101 l0_1 (ji43)).f1)) = true:=decide_eq_true c51
                                clear c51
                                obtain rfl:=Option.some.inj H
                                have hnb52:=NB199_202.out
                                have hnc52:=NB202_199.out
                                have hcz53_0 : wc.cell? ⟨gb199,0,none⟩ = some (.int .i64 a0_0):=(qh BK199.out 0).trans rfl
                                have hcz53_1 : wc.cell? ⟨gb199,1,none⟩ = some (.slice (some ad201) l0_1.length c0_1):=(qh BK199.out 1).trans rfl
                                have hfz53_0:=qi BK199.out 0
                                have hfz53_1:=qi BK199.out 1
                                have p208 : 0 ≤ ((ji43) : Int):=of_decide_eq_true (by first|(with_reducible assumption)|assumption)
                                have q208 : (ji43) < (l0_1.length : Int):=of_decide_eq_true (by first|(with_reducible assumption)|assumption)
                                obtain ⟨ad208,e208,hx208_0,hx208_1,hx208_2,hx208_3,hx208_4⟩:=at_T101 HR0_1.out (ji43) p208 q208
                                obtain rfl : ad201 = ad208:=(by injection e208)
                                replace hx208_0:=cb_ HB hx208_0
                                replace hx208_1:=cb_ HB hx208_1
                                replace hx208_2:=cb_ HB hx208_2
                                replace hx208_3:=cb_ HB hx208_3
                                replace hx208_4:=cb_ HB hx208_4
                                replace p208:=eq_true p208
                                replace q208:=eq_true q208
                                have hcz54_0 : wc.cell? ⟨gb202,0,none⟩ = some (.int .i64 ((rd_T101 l0_1 x13_1).f0)):=(qh BK202.out 0).trans rfl
                                have hcz54_1 : wc.cell? ⟨gb202,1,none⟩ = some (.int .i64 ((rd_T101 l0_1 x13_1).f1)):=(qh BK202.out 1).trans rfl
                                have hcz54_2 : wc.cell? ⟨gb202,2,none⟩ = some (.int .i64 ((rd_T101 l0_1 x13_1).f2)):=(qh BK202.out 2).trans rfl
                                have hcz54_3 : wc.cell? ⟨gb202,3,none⟩ = some (.int .i64 ((rd_T101 l0_1 x13_1).f3)):=(qh BK202.out 3).trans rfl
                                have hcz54_4 : wc.cell? ⟨gb202,4,none⟩ = some (.int .i64 ((rd_T101 l0_1 x13_1).f4)):=(qh BK202.out 4).trans rfl
                                have hfz54_0:=qi BK202.out 0
                                have hfz54_1:=qi BK202.out 1
                                have hfz54_2:=qi BK202.out 2
                                have hfz54_3:=qi BK202.out 3
                                have hfz54_4:=qi BK202.out 4
                                have p209 : 0 ≤ ((ji43) : Int):=of_decide_eq_true (by first|(with_reducible assumption)|assumption)
                                have q209 : (ji43) < (l0_1.length : Int):=of_decide_eq_true (by first|(with_reducible assumption)|assumption)
                                obtain ⟨ad209,e209,hx209_0,hx209_1,hx209_2,hx209_3,hx209_4⟩:=at_T101 HR0_1.out (ji43) p209 q209
                                obtain rfl : ad201 = ad209:=(by injection e209)
                                replace hx209_0:=cb_ HB hx209_0
                                replace hx209_1:=cb_ HB hx209_1
                                replace hx209_2:=cb_ HB hx209_2
                                replace hx209_3:=cb_ HB hx209_3
                                replace hx209_4:=cb_ HB hx209_4
                                replace p209:=eq_true p209
                                replace q209:=eq_true q209
                                have p210 : 0 ≤ ((ji43) : Int):=of_decide_eq_true (by first|(with_reducible assumption)|assumption)
                                have q210 : (ji43) < (l0_1.length : Int):=of_decide_eq_true (by first|(with_reducible assumption)|assumption)
                                obtain ⟨ad210,e210,hx210_0,hx210_1,hx210_2,hx210_3,hx210_4⟩:=at_T101 HR0_1.out (ji43) p210 q210
                                obtain rfl : ad201 = ad210:=(by injection e210)
                                replace hx210_0:=cb_ HB hx210_0
                                replace hx210_1:=cb_ HB hx210_1
                                replace hx210_2:=cb_ HB hx210_2
                                replace hx210_3:=cb_ HB hx210_3
                                replace hx210_4:=cb_ HB hx210_4
                                replace p210:=eq_true p210
                                replace q210:=eq_true q210
                                go_wp2
                                repeat (go_quiet (fail);try go_wp2)
                                go_ret
                                exact ⟨by first|rfl|(simp [errW_none,errW_some] <;> rfl)|(simp only [← hji43];first|rfl|(simp [errW_none,errW_some] <;> rfl))|(simp [*,errW_none,errW_some] <;> rfl),by repeat (first|(with_reducible first|exact HB.out|apply qf|apply qa|apply qd|refine qg ?_ GE199.out|refine qg ?_ GE202.out)|exact HB.out)⟩
                              · rw [if_neg c51] at H
                                have c51b0 : decide (((rd_T101 l0_1 x13_1).f1) ≤ ((rd_T101 l0_1 (ji43)).f1)) = false:=decide_eq_false c51
                                clear c51
                                have H':=qn.mk H
                                clear H
                                have hnb55:=NB199_202.out
                                have hnc55:=NB202_199.out
                                have hcz56_0 : wc.cell? ⟨gb199,0,none⟩ = some (.int .i64 a0_0):=(qh BK199.out 0).trans rfl
                                have hcz56_1 : wc.cell? ⟨gb199,1,none⟩ = some (.slice (some ad201) l0_1.length c0_1):=(qh BK199.out 1).trans rfl
                                have hfz56_0:=qi BK199.out 0
                                have hfz56_1:=qi BK199.out 1
                                have p208 : 0 ≤ ((ji43) : Int):=of_decide_eq_true (by first|(with_reducible assumption)|assumption)
                                have q208 : (ji43) < (l0_1.length : Int):=of_decide_eq_true (by first|(with_reducible assumption)|assumption)
                                obtain ⟨ad208,e208,hx208_0,hx208_1,hx208_2,hx208_3,hx208_4⟩:=at_T101 HR0_1.out (ji43) p208 q208
                                obtain rfl : ad201 = ad208:=(by injection e208)
                                replace hx208_0:=cb_ HB hx208_0
                                replace hx208_1:=cb_ HB hx208_1
                                replace hx208_2:=cb_ HB hx208_2
                                replace hx208_3:=cb_ HB hx208_3
                                replace hx208_4:=cb_ HB hx208_4
                                replace p208:=eq_true p208
                                replace q208:=eq_true q208
                                have hcz57_0 : wc.cell? ⟨gb202,0,none⟩ = some (.int .i64 ((rd_T101 l0_1 x13_1).f0)):=(qh BK202.out 0).trans rfl
                                have hcz57_1 : wc.cell? ⟨gb202,1,none⟩ = some (.int .i64 ((rd_T101 l0_1 x13_1).f1)):=(qh BK202.out 1).trans rfl
                                have hcz57_2 : wc.cell? ⟨gb202,2,none⟩ = some (.int .i64 ((rd_T101 l0_1 x13_1).f2)):=(qh BK202.out 2).trans rfl
                                have hcz57_3 : wc.cell? ⟨gb202,3,none⟩ = some (.int .i64 ((rd_T101 l0_1 x13_1).f3)):=(qh BK202.out 3).trans rfl
                                have hcz57_4 : wc.cell? ⟨gb202,4,none⟩ = some (.int .i64 ((rd_T101 l0_1 x13_1).f4)):=(qh BK202.out 4).trans rfl
                                have hfz57_0:=qi BK202.out 0
                                have hfz57_1:=qi BK202.out 1
                                have hfz57_2:=qi BK202.out 2
                                have hfz57_3:=qi BK202.out 3
                                have hfz57_4:=qi BK202.out 4
                                have p209 : 0 ≤ ((ji43) : Int):=of_decide_eq_true (by first|(with_reducible assumption)|assumption)
                                have q209 : (ji43) < (l0_1.length : Int):=of_decide_eq_true (by first|(with_reducible assumption)|assumption)
                                obtain ⟨ad209,e209,hx209_0,hx209_1,hx209_2,hx209_3,hx209_4⟩:=at_T101 HR0_1.out (ji43) p209 q209
                                obtain rfl : ad201 = ad209:=(by injection e209)
                                replace hx209_0:=cb_ HB hx209_0
                                replace hx209_1:=cb_ HB hx209_1
                                replace hx209_2:=cb_ HB hx209_2
                                replace hx209_3:=cb_ HB hx209_3
                                replace hx209_4:=cb_ HB hx209_4
                                replace p209:=eq_true p209
                                replace q209:=eq_true q209
                                have p210 : 0 ≤ ((ji43) : Int):=of_decide_eq_true (by first|(with_reducible assumption)|assumption)
                                have q210 : (ji43) < (l0_1.length : Int):=of_decide_eq_true (by first|(with_reducible assumption)|assumption)
                                obtain ⟨ad210,e210,hx210_0,hx210_1,hx210_2,hx210_3,hx210_4⟩:=at_T101 HR0_1.out (ji43) p210 q210
                                obtain rfl : ad201 = ad210:=(by injection e210)
                                replace hx210_0:=cb_ HB hx210_0
                                replace hx210_1:=cb_ HB hx210_1
                                replace hx210_2:=cb_ HB hx210_2
                                replace hx210_3:=cb_ HB hx210_3
                                replace hx210_4:=cb_ HB hx210_4
                                replace p210:=eq_true p210
                                replace q210:=eq_true q210
                                go_wp2
                                repeat (go_quiet (fail);try go_wp2)
                                go_roundg kj8
                                case measure=>have:=HK1.out;have:=HJ8.out;omega
                                case rel=>exact ⟨(wrap64 (x13_1 + 1)),(by first|rfl|(simp;done)|(simp [*];done)),H',⟨by have:=HK1.out;have:=HJ8.out;omega⟩,⟨by (with_reducible repeat (first|refine qb ?_ _|refine qe ?_|refine qc ?_ _));exact BK199.out⟩,⟨by repeat (first|(with_reducible first|exact HB.out|apply qf|apply qa|apply qd|refine qg ?_ GE199.out|refine qg ?_ GE202.out)|exact HB.out)⟩⟩
                            · rw [if_neg c50] at H
                              have c50b0 : (((rd_T101 l0_1 (ji43)).f0) == ((rd_T101 l0_1 x13_1).f0)) = false:=beq_eq_false_iff_ne.mpr c50
                              have c50b1 : (((rd_T101 l0_1 (ji43)).f0) != ((rd_T101 l0_1 x13_1).f0)) = true:=bne_iff_ne.mpr c50
                              have H':=qn.mk H
                              clear H
                              have hnb58:=NB199_202.out
                              have hnc58:=NB202_199.out
                              have hcz59_0 : wc.cell? ⟨gb199,0,none⟩ = some (.int .i64 a0_0):=(qh BK199.out 0).trans rfl
                              have hcz59_1 : wc.cell? ⟨gb199,1,none⟩ = some (.slice (some ad201) l0_1.length c0_1):=(qh BK199.out 1).trans rfl
                              have hfz59_0:=qi BK199.out 0
                              have hfz59_1:=qi BK199.out 1
                              have p208 : 0 ≤ ((ji43) : Int):=of_decide_eq_true (by first|(with_reducible assumption)|assumption)
                              have q208 : (ji43) < (l0_1.length : Int):=of_decide_eq_true (by first|(with_reducible assumption)|assumption)
                              obtain ⟨ad208,e208,hx208_0,hx208_1,hx208_2,hx208_3,hx208_4⟩:=at_T101 HR0_1.out (ji43) p208 q208
                              obtain rfl : ad201 = ad208:=(by injection e208)
                              replace hx208_0:=cb_ HB hx208_0
                              replace hx208_1:=cb_ HB hx208_1
                              replace hx208_2:=cb_ HB hx208_2
                              replace hx208_3:=cb_ HB hx208_3
                              replace hx208_4:=cb_ HB hx208_4
                              replace p208:=eq_true p208
                              replace q208:=eq_true q208
                              have hcz60_0 : wc.cell? ⟨gb202,0,none⟩ = some (.int .i64 ((rd_T101 l0_1 x13_1).f0)):=(qh BK202.out 0).trans rfl
                              have hcz60_1 : wc.cell? ⟨gb202,1,none⟩ = some (.int .i64 ((rd_T101 l0_1 x13_1).f1)):=(qh BK202.out 1).trans rfl
                              have hcz60_2 : wc.cell? ⟨gb202,2,none⟩ = some (.int .i64 ((rd_T101 l0_1 x13_1).f2)):=(qh BK202.out 2).trans rfl
                              have hcz60_3 : wc.cell? ⟨gb202,3,none⟩ = some (.int .i64 ((rd_T101 l0_1 x13_1).f3)):=(qh BK202.out 3).trans rfl
                              have hcz60_4 : wc.cell? ⟨gb202,4,none⟩ = some (.int .i64 ((rd_T101 l0_1 x13_1).f4)):=(qh BK202.out 4).trans rfl
                              have hfz60_0:=qi BK202.out 0
                              have hfz60_1:=qi BK202.out 1
                              have hfz60_2:=qi BK202.out 2
                              have hfz60_3:=qi BK202.out 3
                              have hfz60_4:=qi BK202.out 4
                              have p209 : 0 ≤ ((ji43) : Int):=of_decide_eq_true (by first|(with_reducible assumption)|assumption)
                              have q209 : (ji43) < (l0_1.length : Int):=of_decide_eq_true (by first|(with_reducible assumption)|assumption)
                              obtain ⟨ad209,e209,hx209_0,hx209_1,hx209_2,hx209_3,hx209_4⟩:=at_T101 HR0_1.out (ji43) p209 q209
                              obtain rfl : ad201 = ad209:=(by injection e209)
                              replace hx209_0:=cb_ HB hx209_0
                              replace hx209_1:=cb_ HB hx209_1
                              replace hx209_2:=cb_ HB hx209_2
                              replace hx209_3:=cb_ HB hx209_3
                              replace hx209_4:=cb_ HB hx209_4
                              replace p209:=eq_true p209
                              replace q209:=eq_true q209
                              go_wp2
                              repeat (go_quiet (fail);try go_wp2)
                              go_roundg kj8
                              case measure=>have:=HK1.out;have:=HJ8.out;omega
                              case rel=>exact ⟨(wrap64 (x13_1 + 1)),(by first|rfl|(simp;done)|(simp [*];done)),H',⟨by have:=HK1.out;have:=HJ8.out;omega⟩,⟨by (with_reducible repeat (first|refine qb ?_ _|refine qe ?_|refine qc ?_ _));exact BK199.out⟩,⟨by repeat (first|(with_reducible first|exact HB.out|apply qf|apply qa|apply qd|refine qg ?_ GE199.out|refine qg ?_ GE202.out)|exact HB.out)⟩⟩
                        · rw [if_neg c45] at H
                          exact absurd H (by simp)
                      · rw [if_neg c44] at H
                        exact absurd H (by simp)
                    · rw [if_neg c42] at H
                      have c42b0 : decide (0 < x13_1) = false:=decide_eq_false c42
                      clear c42
                      have H':=qn.mk H
                      clear H
                      go_wp2
                      repeat (go_quiet (fail);try go_wp2)
                      go_roundg kj8
                      case measure=>have:=HK1.out;have:=HJ8.out;omega
                      case rel=>exact ⟨(wrap64 (x13_1 + 1)),(by first|rfl|(simp;done)|(simp [*];done)),H',⟨by have:=HK1.out;have:=HJ8.out;omega⟩,⟨by (with_reducible repeat (first|refine qb ?_ _|refine qe ?_|refine qc ?_ _));exact BK199.out⟩,⟨by repeat (first|(with_reducible first|exact HB.out|apply qf|apply qa|apply qd|refine qg ?_ GE199.out|refine qg ?_ GE202.out)|exact HB.out)⟩⟩
            · rw [if_neg c8] at H
              exact absurd H (by simp)
          · rw [if_neg c7] at H
            exact absurd H (by simp)
        · rw [if_neg c6] at H
          have c6b0 : decide (x13_1 < (l0_1.length : Int)) = false:=decide_eq_false c6
          clear c6
          obtain rfl:=Option.some.inj H
          go_wp2
          repeat (go_quiet (fail);try go_wp2)
          go_ret
          exact ⟨by first|rfl|(simp [errW_none,errW_some] <;> rfl)|(simp [*,errW_none,errW_some] <;> rfl),by repeat (first|(with_reducible first|exact HB.out|apply qf|apply qa|apply qd|refine qg ?_ GE199.out)|exact HB.out)⟩
  · replace c3:=Bool.eq_false_iff.mpr c3
    subst c3
    have H1 : (some false) = some r:=by rw [if_neg (show ¬ (false = true) by decide)] at H;exact H
    clear H
    have H:=H1
    clear H1
    obtain rfl:=Option.some.inj H
    go_enter Try.func57,Try.ntmps57
    go_wp2_with (first|((with_reducible refine gate_dst (N:=1) rfl ?_);refine box_event ?hg (N:=1) ?hd (cs:=#[.int .i64 a0_0,.slice A0_1 l0_1.length c0_1]) (t:=61) ?hr ?_;(case hd=>rfl);(case hg=>rfl);(case hr=>first|(go_simp;done)|(go_simp;rfl));intro gb199 hg w61 hbox hb;have n0_:=hs_ HB hb;have n1_:=qn.mk (hbox);have n2_:=qn.mk ((by rw [hg];exact (qj (by repeat (first|(with_reducible first|exact HB.out|apply qf|apply qa|apply qd)|exact HB.out))) : w.heap.size ≤ gb199));have n3_:=qn.mk ((by rw [hg];exact (qj (by repeat (first|(with_reducible first|exact HB.out|apply qf|apply qa|apply qd)|exact HB.out))) : w.heap.size ≤ gb199));clear HB;have HB:=n0_;have BK199:=n1_;have GW199:=n2_;have GE199:=n3_;clear n0_ n1_ n2_ n3_;clear hb hbox hg;have hcz62_0 : w61.cell? ⟨gb199,0,none⟩ = some (.int .i64 a0_0):=(qh BK199.out 0).trans rfl;have hcz62_1 : w61.cell? ⟨gb199,1,none⟩ = some (.slice A0_1 l0_1.length c0_1):=(qh BK199.out 1).trans rfl;have hfz62_0:=qi BK199.out 0;have hfz62_1:=qi BK199.out 1)|(go_at_call 28;(with_reducible refine (impl_in.calls a0_0 0 9 false _ A2.out).mono ?_);rintro e w' ⟨rfl,⟨nd,rfl⟩⟩;(try first|exact ⟨rfl,_,World.drewN_drewN _ _ _⟩|exact ⟨rfl,_,Eq.trans (World.drewN_drewN _ _ _) (congrArg (World.drewN _) (Nat.add_assoc _ _ _))⟩)))
    repeat (go_quiet (first|((with_reducible refine gate_dst (N:=1) rfl ?_);refine box_event ?hg (N:=1) ?hd (cs:=#[.int .i64 a0_0,.slice A0_1 l0_1.length c0_1]) (t:=61) ?hr ?_;(case hd=>rfl);(case hg=>rfl);(case hr=>first|(go_simp;done)|(go_simp;rfl));intro gb199 hg w61 hbox hb;have n0_:=hs_ HB hb;have n1_:=qn.mk (hbox);have n2_:=qn.mk ((by rw [hg];exact (qj (by repeat (first|(with_reducible first|exact HB.out|apply qf|apply qa|apply qd)|exact HB.out))) : w.heap.size ≤ gb199));have n3_:=qn.mk ((by rw [hg];exact (qj (by repeat (first|(with_reducible first|exact HB.out|apply qf|apply qa|apply qd)|exact HB.out))) : w.heap.size ≤ gb199));clear HB;have HB:=n0_;have BK199:=n1_;have GW199:=n2_;have GE199:=n3_;clear n0_ n1_ n2_ n3_;clear hb hbox hg;have hcz62_0 : w61.cell? ⟨gb199,0,none⟩ = some (.int .i64 a0_0):=(qh BK199.out 0).trans rfl;have hcz62_1 : w61.cell? ⟨gb199,1,none⟩ = some (.slice A0_1 l0_1.length c0_1):=(qh BK199.out 1).trans rfl;have hfz62_0:=qi BK199.out 0;have hfz62_1:=qi BK199.out 1)|(go_at_call 28;(with_reducible refine (impl_in.calls a0_0 0 9 false _ A2.out).mono ?_);rintro e w' ⟨rfl,⟨nd,rfl⟩⟩;(try first|exact ⟨rfl,_,World.drewN_drewN _ _ _⟩|exact ⟨rfl,_,Eq.trans (World.drewN_drewN _ _ _) (congrArg (World.drewN _) (Nat.add_assoc _ _ _))⟩)));try go_wp2_with (first|((with_reducible refine gate_dst (N:=1) rfl ?_);refine box_event ?hg (N:=1) ?hd (cs:=#[.int .i64 a0_0,.slice A0_1 l0_1.length c0_1]) (t:=61) ?hr ?_;(case hd=>rfl);(case hg=>rfl);(case hr=>first|(go_simp;done)|(go_simp;rfl));intro gb199 hg w61 hbox hb;have n0_:=hs_ HB hb;have n1_:=qn.mk (hbox);have n2_:=qn.mk ((by rw [hg];exact (qj (by repeat (first|(with_reducible first|exact HB.out|apply qf|apply qa|apply qd)|exact HB.out))) : w.heap.size ≤ gb199));have n3_:=qn.mk ((by rw [hg];exact (qj (by repeat (first|(with_reducible first|exact HB.out|apply qf|apply qa|apply qd)|exact HB.out))) : w.heap.size ≤ gb199));clear HB;have HB:=n0_;have BK199:=n1_;have GW199:=n2_;have GE199:=n3_;clear n0_ n1_ n2_ n3_;clear hb hbox hg;have hcz62_0 : w61.cell? ⟨gb199,0,none⟩ = some (.int .i64 a0_0):=(qh BK199.out 0).trans rfl;have hcz62_1 : w61.cell? ⟨gb199,1,none⟩ = some (.slice A0_1 l0_1.length c0_1):=(qh BK199.out 1).trans rfl;have hfz62_0:=qi BK199.out 0;have hfz62_1:=qi BK199.out 1)|(go_at_call 28;(with_reducible refine (impl_in.calls a0_0 0 9 false _ A2.out).mono ?_);rintro e w' ⟨rfl,⟨nd,rfl⟩⟩;(try first|exact ⟨rfl,_,World.drewN_drewN _ _ _⟩|exact ⟨rfl,_,Eq.trans (World.drewN_drewN _ _ _) (congrArg (World.drewN _) (Nat.add_assoc _ _ _))⟩))))
    go_ret
    exact ⟨by first|rfl|(simp [errW_none,errW_some] <;> rfl)|(simp [*,errW_none,errW_some] <;> rfl),by repeat (first|(with_reducible first|exact HB.out|apply qf|apply qa|apply qd|refine qg ?_ GE199.out)|exact HB.out)⟩

end Go.Proofs.Ytcdofljgeiohgaa.QFnExactProofOk
