/- Lean functions for the Go functions that the law FnExactProofOk reaches, and that each Go function comes to just its Lean function's answer; by a program of this session. -/
import Derived.Test.YtcdofljgeiohgaaZFnExactProofOkx0
namespace Go.Proofs.Ytcdofljgeiohgaa.QFnExactProofOk
open Go.RowKit Go.Proofs.YtcdofljgeiohgaaW.PrintWords Go.Proofs.YtcdofljgeiohgaaW.PrintLast Go.Proofs.YtcdofljgeiohgaaW.PrintMore
attribute [local go_sem] max2_int min2_int max_two min_two max_three min_three max_four min_four   -- for this text's walks alone
set_option linter.unusedVariables false
set_option linter.unusedSimpArgs false

/-! ### laws_toEdge: function 76 -/
def laws_toEdge.f (a0_0 : Int) (a0_1 : Int) (a0_2 : Int) (a0_3 : Int) (a0_4 : Int) : Option (Int × Int × Int × Int × Int):=some (a0_0,a0_1,a0_2,a0_3,a0_4)
set_option maxHeartbeats 8000000 in
set_option maxRecDepth 100000 in
theorem laws_toEdge.calls (a0_0 : Int) (a0_1 : Int) (a0_2 : Int) (a0_3 : Int) (a0_4 : Int) (r1 : Int) (r2 : Int) (r3 : Int) (r4 : Int) (r5 : Int) (w : World) (h : laws_toEdge.f a0_0 a0_1 a0_2 a0_3 a0_4 = some (r1,r2,r3,r4,r5)) :
    Calls Try.prog 76 #[.agg #[.int .i64 a0_0,.int .i64 a0_1,.int .i64 a0_2,.int .i64 a0_3,.int .i64 a0_4]] w fun e w'=>e = .returned (.agg #[.int .i64 r1,.int .i64 r2,.int .i64 r3,.int .i64 r4,.int .i64 r5]) ∧ Below w.heap.size w w':=by
  have hu129:=Try.underlying129
  have hu101:=Try.underlying101
  have HB:=qn.mk (Below.refl w.heap.size w)
  have H : (some (a0_0,a0_1,a0_2,a0_3,a0_4)) = some (r1,r2,r3,r4,r5):=h
  clear h
  simp only [Option.some.injEq,Prod.mk.injEq] at H
  obtain ⟨rfl,rfl,rfl,rfl,rfl⟩:=H
  go_enter Try.func76,Try.ntmps76
  go_wp2_with (first|((with_reducible refine gate_dst (N:=1) rfl ?_);refine box_event ?hg (N:=1) ?hd (cs:=#[.int .i64 a0_0,.int .i64 a0_1,.int .i64 a0_2,.int .i64 a0_3,.int .i64 a0_4]) (t:=129) ?hr ?_;(case hd=>rfl);(case hg=>rfl);(case hr=>first|(go_simp;done)|(go_simp;rfl));intro gb151 hg w2 hbox hb;have n0_:=hs_ HB hb;have n1_:=qn.mk (hbox);have n2_:=qn.mk ((by rw [hg];exact (qj (by repeat (first|(with_reducible first|exact HB.out|apply qf|apply qa|apply qd)|exact HB.out))) : w.heap.size ≤ gb151));have n3_:=qn.mk ((by rw [hg];exact (qj (by repeat (first|(with_reducible first|exact HB.out|apply qf|apply qa|apply qd)|exact HB.out))) : w.heap.size ≤ gb151));clear HB;have HB:=n0_;have BK151:=n1_;have GW151:=n2_;have GE151:=n3_;clear n0_ n1_ n2_ n3_;clear hb hbox hg)|((with_reducible refine gate_dst (N:=2) rfl ?_);refine box_event ?hg (N:=2) ?hd (cs:=#[.int .i64 0,.int .i64 0,.int .i64 0,.int .i64 0,.int .i64 0]) (t:=101) ?hr ?_;(case hd=>rfl);(case hg=>rfl);(case hr=>first|(go_simp;done)|(go_simp;rfl));intro gb152 hg w3 hbox hb;have n0_:=bb_ BK151 hb;have n1_:=hs_ HB hb;have n2_:=qn.mk (hbox);have n3_:=qn.mk ((by rw [hg];exact (qj (by repeat (first|(with_reducible first|exact HB.out|apply qf|apply qa|apply qd|refine qg ?_ GE151.out)|exact HB.out))) : w.heap.size ≤ gb152));have n4_:=qn.mk ((by rw [hg];exact (qj (by repeat (first|(with_reducible first|exact HB.out|apply qf|apply qa|apply qd|refine qg ?_ GE151.out)|exact HB.out))) : w.heap.size ≤ gb152));have n5_:=qn.mk ((by rw [hg];exact nl_ BK151 : gb151 ≠ gb152));have n6_:=qn.mk ((by rw [hg];exact ng_ BK151 : gb152 ≠ gb151));clear BK151;clear HB;have BK151:=n0_;have HB:=n1_;have BK152:=n2_;have GW152:=n3_;have GE152:=n4_;have NB151_152:=n5_;have NB152_151:=n6_;clear n0_ n1_ n2_ n3_ n4_ n5_ n6_;clear hb hbox hg)|((with_reducible refine gate_dst (N:=3) rfl ?_);refine box_event ?hg (N:=3) ?hd (cs:=#[.int .i64 0,.int .i64 0,.int .i64 0,.int .i64 0,.int .i64 0]) (t:=101) ?hr ?_;(case hd=>rfl);(case hg=>rfl);(case hr=>first|(go_simp;done)|(go_simp;rfl));intro gb153 hg w4 hbox hb;have n0_:=bb_ BK151 hb;have n1_:=bb_ BK152 hb;have n2_:=hs_ HB hb;have n3_:=qn.mk (hbox);have n4_:=qn.mk ((by rw [hg];exact (qj (by repeat (first|(with_reducible first|exact HB.out|apply qf|apply qa|apply qd|refine qg ?_ GE151.out|refine qg ?_ GE152.out)|exact HB.out))) : w.heap.size ≤ gb153));have n5_:=qn.mk ((by rw [hg];exact (qj (by repeat (first|(with_reducible first|exact HB.out|apply qf|apply qa|apply qd|refine qg ?_ GE151.out|refine qg ?_ GE152.out)|exact HB.out))) : w.heap.size ≤ gb153));have n6_:=qn.mk ((by rw [hg];exact nl_ BK151 : gb151 ≠ gb153));have n7_:=qn.mk ((by rw [hg];exact ng_ BK151 : gb153 ≠ gb151));have n8_:=qn.mk ((by rw [hg];exact nl_ BK152 : gb152 ≠ gb153));have n9_:=qn.mk ((by rw [hg];exact ng_ BK152 : gb153 ≠ gb152));clear BK151;clear BK152;clear HB;have BK151:=n0_;have BK152:=n1_;have HB:=n2_;have BK153:=n3_;have GW153:=n4_;have GE153:=n5_;have NB151_153:=n6_;have NB153_151:=n7_;have NB152_153:=n8_;have NB153_152:=n9_;clear n0_ n1_ n2_ n3_ n4_ n5_ n6_ n7_ n8_ n9_;clear hb hbox hg;have hnb5:=NB151_152.out;have hnc5:=NB152_151.out;have hnb6:=NB151_153.out;have hnc6:=NB153_151.out;have hcz7_0 : w4.cell? ⟨gb151,0,none⟩ = some (.int .i64 a0_0):=(qh BK151.out 0).trans rfl;have hcz7_1 : w4.cell? ⟨gb151,1,none⟩ = some (.int .i64 a0_1):=(qh BK151.out 1).trans rfl;have hcz7_2 : w4.cell? ⟨gb151,2,none⟩ = some (.int .i64 a0_2):=(qh BK151.out 2).trans rfl;have hcz7_3 : w4.cell? ⟨gb151,3,none⟩ = some (.int .i64 a0_3):=(qh BK151.out 3).trans rfl;have hcz7_4 : w4.cell? ⟨gb151,4,none⟩ = some (.int .i64 a0_4):=(qh BK151.out 4).trans rfl;have hfz7_0:=qi BK151.out 0;have hfz7_1:=qi BK151.out 1;have hfz7_2:=qi BK151.out 2;have hfz7_3:=qi BK151.out 3;have hfz7_4:=qi BK151.out 4;have hnb8:=NB153_152.out;have hnc8:=NB152_153.out;have hcz9_0 : w4.cell? ⟨gb153,0,none⟩ = some (.int .i64 0):=(qh BK153.out 0).trans rfl;have hcz9_1 : w4.cell? ⟨gb153,1,none⟩ = some (.int .i64 0):=(qh BK153.out 1).trans rfl;have hcz9_2 : w4.cell? ⟨gb153,2,none⟩ = some (.int .i64 0):=(qh BK153.out 2).trans rfl;have hcz9_3 : w4.cell? ⟨gb153,3,none⟩ = some (.int .i64 0):=(qh BK153.out 3).trans rfl;have hcz9_4 : w4.cell? ⟨gb153,4,none⟩ = some (.int .i64 0):=(qh BK153.out 4).trans rfl;have hfz9_0:=qi BK153.out 0;have hfz9_1:=qi BK153.out 1;have hfz9_2:=qi BK153.out 2;have hfz9_3:=qi BK153.out 3;have hfz9_4:=qi BK153.out 4;have hcz10_0 : w4.cell? ⟨gb152,0,none⟩ = some (.int .i64 0):=(qh BK152.out 0).trans rfl;have hcz10_1 : w4.cell? ⟨gb152,1,none⟩ = some (.int .i64 0):=(qh BK152.out 1).trans rfl;have hcz10_2 : w4.cell? ⟨gb152,2,none⟩ = some (.int .i64 0):=(qh BK152.out 2).trans rfl;have hcz10_3 : w4.cell? ⟨gb152,3,none⟩ = some (.int .i64 0):=(qh BK152.out 3).trans rfl;have hcz10_4 : w4.cell? ⟨gb152,4,none⟩ = some (.int .i64 0):=(qh BK152.out 4).trans rfl;have hfz10_0:=qi BK152.out 0;have hfz10_1:=qi BK152.out 1;have hfz10_2:=qi BK152.out 2;have hfz10_3:=qi BK152.out 3;have hfz10_4:=qi BK152.out 4))
  refine bodyPost_ret (results_cell_row rfl _ _ gb152 101 #[.int .i64 a0_0,.int .i64 a0_1,.int .i64 a0_2,.int .i64 a0_3,.int .i64 a0_4] (0,0) _ rfl (by (with_reducible repeat (first|refine qb ?_ _|refine qe ?_|refine qc ?_ _));refine blk_put (cs:=#[.int .i64 a0_0,.int .i64 a0_1,.int .i64 a0_2,.int .i64 a0_3,.int .i64 0]) ?_ 4 _ rfl;(with_reducible repeat (first|refine qb ?_ _|refine qe ?_|refine qc ?_ _));refine blk_put (cs:=#[.int .i64 a0_0,.int .i64 a0_1,.int .i64 a0_2,.int .i64 0,.int .i64 0]) ?_ 3 _ rfl;(with_reducible repeat (first|refine qb ?_ _|refine qe ?_|refine qc ?_ _));refine blk_put (cs:=#[.int .i64 a0_0,.int .i64 a0_1,.int .i64 0,.int .i64 0,.int .i64 0]) ?_ 2 _ rfl;(with_reducible repeat (first|refine qb ?_ _|refine qe ?_|refine qc ?_ _));refine blk_put (cs:=#[.int .i64 a0_0,.int .i64 0,.int .i64 0,.int .i64 0,.int .i64 0]) ?_ 1 _ rfl;(with_reducible repeat (first|refine qb ?_ _|refine qe ?_|refine qc ?_ _));refine blk_put (cs:=#[.int .i64 0,.int .i64 0,.int .i64 0,.int .i64 0,.int .i64 0]) ?_ 0 _ rfl;(with_reducible repeat (first|refine qb ?_ _|refine qe ?_|refine qc ?_ _));refine blk_far ?_ NB152_153.out _;(with_reducible repeat (first|refine qb ?_ _|refine qe ?_|refine qc ?_ _));refine blk_far ?_ NB152_153.out _;(with_reducible repeat (first|refine qb ?_ _|refine qe ?_|refine qc ?_ _));refine blk_far ?_ NB152_153.out _;(with_reducible repeat (first|refine qb ?_ _|refine qe ?_|refine qc ?_ _));refine blk_far ?_ NB152_153.out _;(with_reducible repeat (first|refine qb ?_ _|refine qe ?_|refine qc ?_ _));refine blk_far ?_ NB152_153.out _;(with_reducible repeat (first|refine qb ?_ _|refine qe ?_|refine qc ?_ _));exact BK152.out) Try.underlying101 rfl (by kernel_rfl)) rfl ?_
  exact ⟨by first|rfl|(simp [errW_none,errW_some] <;> rfl)|(simp [*,errW_none,errW_some] <;> rfl),by repeat (first|(with_reducible first|exact HB.out|apply qf|apply qa|apply qd|refine qg ?_ GE151.out|refine qg ?_ GE152.out|refine qg ?_ GE153.out)|exact HB.out)⟩

/-! ### laws_toEdgeS: function 54 -/
def laws_toEdgeS.l0 : Nat → List (S129) → List (S101) → Int → Option ((List (S101)))
  | 0,_,_,_=>none
  | k + 1,x0,x3,x4=>if x4 < (x0.length : Int) then (if 0 ≤ x4 then ((laws_toEdge.f ((rd_T129 x0 x4).f0) ((rd_T129 x0 x4).f1) ((rd_T129 x0 x4).f2) ((rd_T129 x0 x4).f3) ((rd_T129 x0 x4).f4)).bind fun bt158=>(if x4 < (x3.length : Int) then (laws_toEdgeS.l0 k x0 (x3.set (x4 : Int).toNat (⟨bt158.1,bt158.2.1,bt158.2.2.1,bt158.2.2.2.1,bt158.2.2.2.2⟩ : S101)) (wrap64 (x4 + 1))) else (none))) else (none)) else (some x3)
def laws_toEdgeS.f (k : Nat) (l0 : List (S129)) : Option ((List (S101))):=if 0 ≤ (l0.length : Int) then (if ((l0.length : Int) : Int).toNat ≤ 7036874417766 then (laws_toEdgeS.l0 k l0 (List.replicate ((l0.length : Int) : Int).toNat z101) 0) else (none)) else (none)
theorem laws_toEdgeS.mono_l : ∀ k,(∀ y0 y1 y2,LeO (laws_toEdgeS.l0 k y0 y1 y2) (laws_toEdgeS.l0 (k + 1) y0 y1 y2))
  | 0=>fun _ _ _ r h=>by simp [laws_toEdgeS.l0] at h
  | k + 1=>by
    have ih0:=laws_toEdgeS.mono_l k
    · intro y0 y1 y2
      unfold laws_toEdgeS.l0
      repeat' first
      | (with_reducible exact ih0 _ _ _)
      | (with_reducible exact LeO.refl _)
      | (with_reducible exact LeO.none _)
      | (with_reducible refine LeO.ite ?_ ?_)
      | (with_reducible refine LeO.bind ?_ (fun _=>?_))
      | exact ih0 _ _ _
      | exact LeO.none _
      | refine LeO.ite ?_ ?_
      | refine LeO.bind ?_ (fun _=>?_)
theorem laws_toEdgeS.mono : ∀ a0 k,LeO (laws_toEdgeS.f k a0) (laws_toEdgeS.f (k + 1) a0):=by
  intro a0 k
  have ih0:=laws_toEdgeS.mono_l k
  unfold laws_toEdgeS.f
  repeat' first
      | (with_reducible exact ih0 _ _ _)
      | (with_reducible exact LeO.refl _)
      | (with_reducible exact LeO.none _)
      | (with_reducible refine LeO.ite ?_ ?_)
      | (with_reducible refine LeO.bind ?_ (fun _=>?_))
      | exact ih0 _ _ _
      | exact LeO.none _
      | refine LeO.ite ?_ ?_
      | refine LeO.bind ?_ (fun _=>?_)
set_option maxHeartbeats 8000000 in
set_option maxRecDepth 100000 in
theorem laws_toEdgeS.calls (k : Nat) (A0 : Option Addr) (c0 : Nat) (l0 : List (S129)) (r : List (S101)) (w : World) (hr0 : Kd.C k129 w A0 l0.length l0) (hc0 : l0.length ≤ c0) (h : laws_toEdgeS.f k l0 = some r) :
    Calls Try.prog 54 #[.slice A0 l0.length c0] w fun e w'=>∃ v0_ : Value,e = .returned (v0_) ∧ Kd.R k101 101 w' w.heap.size (fun _=>True) v0_ r ∧ Below w.heap.size w w':=by
  have hu129:=Try.underlying129
  have hu101:=Try.underlying101
  have HR0:=qn.mk hr0
  have HC0:=qn.mk hc0
  clear hr0 hc0
  have HB:=qn.mk (Below.refl w.heap.size w)
  have H : (if 0 ≤ (l0.length : Int) then (if ((l0.length : Int) : Int).toNat ≤ 7036874417766 then (laws_toEdgeS.l0 k l0 (List.replicate ((l0.length : Int) : Int).toNat z101) 0) else (none)) else (none)) = some r:=h
  clear h
  by_cases c2 : 0 ≤ (l0.length : Int)
  · rw [if_pos c2] at H
    have c2b0:=eq_true c2
    have c2b1 : decide (0 ≤ (l0.length : Int)) = true:=decide_eq_true c2
    clear c2
    by_cases c3 : ((l0.length : Int) : Int).toNat ≤ 7036874417766
    · rw [if_pos c3] at H
      have c3b0:=eq_true c3
      have c3b1 : decide (((l0.length : Int) : Int).toNat ≤ 7036874417766) = true:=decide_eq_true c3
      clear c3
      obtain ⟨y154,hy154⟩ : ∃ y_ : List (S101),y_ = (List.replicate ((l0.length : Int) : Int).toNat z101):=⟨_,rfl⟩
      replace H : (laws_toEdgeS.l0 k l0 y154 0) = some r:=by first|(rw [hy154];with_reducible exact H)|(have H2_:=(Option.bind_some _ _).symm.trans H;rw [hy154];with_reducible exact H2_)|(have H2_:=(Option.bind_some _ _).symm.trans H;with_reducible exact H2_)|with_reducible exact H|(rw [hy154];exact H)|exact H
      have Ny154:=qn.mk hy154
      clear hy154
      have H':=qn.mk H
      clear H
      go_enter Try.func54,Try.ntmps54
      go_wp2_with (first|((with_reducible refine gate_dst (N:=7) rfl ?_);refine Kd.R_make k101 _ 101 rfl (N:=7) rfl 59 _ _ rfl (l0.length : Int) rfl rfl Try.underlying59 (.agg #[(.int .i64 0),(.int .i64 0),(.int .i64 0),(.int .i64 0),(.int .i64 0)]) 40 info101 rfl (by decide) (by omega) z101 (ok:=fun _=>True) (okp:=fun _=>True) (k101_mkM _ _ _ z101 ) (fun _ hk=>hk) trivial (of_decide_eq_true (by first|(with_reducible assumption)|assumption)) (Nat.le_trans (Nat.mul_le_mul_right _ (of_decide_eq_true (by first|(with_reducible assumption)|assumption) : (l0.length : Int).toNat ≤ 7036874417766)) (by omega)) (Below.refl _ _) (Nat.le_refl _) ?_;intro v155 w4 ho5 hb hg_ hnew_;clear hg_ hnew_;(first|rw [← Ny154.out] at ho5|(simp only [Int.reduceToNat] at ho5;rw [← Ny154.out] at ho5));have n0_:=qn.mk (Kd.R_lower ho5 (qj (by repeat (first|(with_reducible first|exact HB.out|apply qf|apply qa|apply qd)|exact HB.out))));have n1_:=hs_ HB hb;clear HB;have HO156:=n0_;have HB:=n1_;clear n0_ n1_;clear hb ho5))
      go_loopg [4] k (fun kq v4 w'=>∃ (x3_1 : List (S101)) (x4_1 : Int),v4 = .int .i64 x4_1 ∧ qn (laws_toEdgeS.l0 kq l0 x3_1 x4_1 = some r) ∧ qn (kq ≤ k) ∧ qn (Kd.R k101 101 w' w.heap.size (fun _=>True) v155 x3_1) ∧ qn (Below w.heap.size w w'))
      case atStart=>exact ⟨(y154),(0),(by first|rfl|(simp;done)|(simp [*];done)),H',⟨Nat.le_refl _⟩,⟨by (with_reducible repeat (first|apply Kd.R_alloc|apply Kd.R_drewN|apply Kd.R_drew));exact HO156.out⟩,⟨by repeat (first|(with_reducible first|exact HB.out|apply qf|apply qa|apply qd)|exact HB.out)⟩⟩
      case round =>
        clear H'
        try clear c2
        try clear c2b0
        try clear c2b1
        try clear p2
        try clear c3
        try clear c3b0
        try clear c3b1
        try clear c5
        obtain ⟨x3_1,x4_1,rfl,HA,HK1,HO_3,HB⟩:=hrel
        cases gk with
        | zero=>exact absurd HA.out (by simp [laws_toEdgeS.l0])
        | succ k1 =>
          have H:=HA.out
          clear HA
          simp only [laws_toEdgeS.l0] at H
          by_cases c6 : x4_1 < (l0.length : Int)
          · rw [if_pos c6] at H
            have c6b0 : decide (x4_1 < (l0.length : Int)) = true:=decide_eq_true c6
            clear c6
            by_cases c7 : 0 ≤ x4_1
            · rw [if_pos c7] at H
              have c7b0 : decide (0 ≤ x4_1) = true:=decide_eq_true c7
              clear c7
              replace H:=Option.bind_eq_some_iff.mp H
              obtain ⟨⟨t158,t159,t160,t161,t162⟩,A80,H⟩:=H
              replace H : (if x4_1 < (x3_1.length : Int) then (laws_toEdgeS.l0 k1 l0 (x3_1.set (x4_1 : Int).toNat (⟨t158,t159,t160,t161,t162⟩ : S101)) (wrap64 (x4_1 + 1))) else (none)) = some r:=H
              have A8:=qn.mk A80
              clear A80
              by_cases c9 : x4_1 < (x3_1.length : Int)
              · rw [if_pos c9] at H
                have c9b0 : decide (x4_1 < (x3_1.length : Int)) = true:=decide_eq_true c9
                clear c9
                obtain ⟨y163,hy163⟩ : ∃ y_ : List (S101),y_ = (x3_1.set (x4_1 : Int).toNat (⟨t158,t159,t160,t161,t162⟩ : S101)):=⟨_,rfl⟩
                replace H : (laws_toEdgeS.l0 k1 l0 y163 (wrap64 (x4_1 + 1))) = some r:=by first|(rw [hy163];with_reducible exact H)|(have H2_:=(Option.bind_some _ _).symm.trans H;rw [hy163];with_reducible exact H2_)|(have H2_:=(Option.bind_some _ _).symm.trans H;with_reducible exact H2_)|with_reducible exact H|(rw [hy163];exact H)|exact H
                have Ny163:=qn.mk hy163
                clear hy163
                have H':=qn.mk H
                clear H
                have p157 : 0 ≤ (x4_1 : Int):=of_decide_eq_true (by first|(with_reducible assumption)|assumption)
                have q157 : x4_1 < (l0.length : Int):=of_decide_eq_true (by first|(with_reducible assumption)|assumption)
                obtain ⟨ad157,e157,hx157_0,hx157_1,hx157_2,hx157_3,hx157_4⟩:=at_T129 HR0.out x4_1 p157 q157
                cases e157
                replace hx157_0:=cb_ HB hx157_0
                replace hx157_1:=cb_ HB hx157_1
                replace hx157_2:=cb_ HB hx157_2
                replace hx157_3:=cb_ HB hx157_3
                replace hx157_4:=cb_ HB hx157_4
                replace p157:=eq_true p157
                replace q157:=eq_true q157
                go_wp2_with (first|((with_reducible refine gate_callee (f:=76) rfl ?_);refine goesL_ (some 20) rfl rfl Try.func76 (by kernel_rfl) rfl #[.agg #[.int .i64 ((rd_T129 l0 x4_1).f0),.int .i64 ((rd_T129 l0 x4_1).f1),.int .i64 ((rd_T129 l0 x4_1).f2),.int .i64 ((rd_T129 l0 x4_1).f3),.int .i64 ((rd_T129 l0 x4_1).f4)]] rfl (by (try simp only [List.map_toArray,List.map_cons,List.map_nil]);first|done|rfl|(simp only [List.length_drop,List.length_take];rfl)) ?_;(with_reducible refine (laws_toEdge.calls ((rd_T129 l0 x4_1).f0) ((rd_T129 l0 x4_1).f1) ((rd_T129 l0 x4_1).f2) ((rd_T129 l0 x4_1).f3) ((rd_T129 l0 x4_1).f4) t158 t159 t160 t161 t162 _ A8.out).mono ?_);rintro e w11 ⟨rfl,hb⟩;refine ⟨_,rfl,?_⟩;have n0_:=rb_ HO_3 hb;have n1_:=hs_ HB hb;clear HO_3;clear HB;have HO_3:=n0_;have HB:=n1_;clear n0_ n1_;(try clear hb);(try clear hb2);(try clear hk);(try clear hi);have p10 : 0 ≤ (x4_1 : Int):=of_decide_eq_true (by first|(with_reducible assumption)|assumption);have q10 : (x4_1 : Int) < ((x3_1.length : Int) : Int):=of_decide_eq_true (by first|(with_reducible assumption)|assumption);obtain ⟨go10,co10,eo10,gb10,gl10,cl10,HG10⟩:=Kd.R_form HO_3.out (by omega);(first|cases eo10|(injection eo10 with ea_ en_ ec_;(first|subst ea_|(injection ea_ with ea_;subst ea_));subst ec_;clear en_));have GB10:=qn.mk gb10;have GG10:=qn.mk HG10;clear gb10 gl10 HG10;obtain ⟨ce10,hcl10,hM10,hcc10,hfr10⟩:=Kd.R_elem HO_3.out z101 (x4_1 : Int) p10 q10;obtain rfl:=k101_openM hM10;have hx10_0 : w11.cell? ⟨go10,(x4_1 : Int).toNat * 5,none⟩ = some (.int .i64 ((rd_T101 x3_1 x4_1).f0)):=hcc10 0 _ rfl;have hx10_1 : w11.cell? ⟨go10,(x4_1 : Int).toNat * 5 + 1,none⟩ = some (.int .i64 ((rd_T101 x3_1 x4_1).f1)):=hcc10 1 _ rfl;have hx10_2 : w11.cell? ⟨go10,(x4_1 : Int).toNat * 5 + 2,none⟩ = some (.int .i64 ((rd_T101 x3_1 x4_1).f2)):=hcc10 2 _ rfl;have hx10_3 : w11.cell? ⟨go10,(x4_1 : Int).toNat * 5 + 3,none⟩ = some (.int .i64 ((rd_T101 x3_1 x4_1).f3)):=hcc10 3 _ rfl;have hx10_4 : w11.cell? ⟨go10,(x4_1 : Int).toNat * 5 + 4,none⟩ = some (.int .i64 ((rd_T101 x3_1 x4_1).f4)):=hcc10 4 _ rfl;have hf10_0 : w11.frozen? ⟨go10,(x4_1 : Int).toNat * 5,none⟩ = false:=hfr10 0;have hf10_1 : w11.frozen? ⟨go10,(x4_1 : Int).toNat * 5 + 1,none⟩ = false:=hfr10 1;have hf10_2 : w11.frozen? ⟨go10,(x4_1 : Int).toNat * 5 + 2,none⟩ = false:=hfr10 2;have hf10_3 : w11.frozen? ⟨go10,(x4_1 : Int).toNat * 5 + 3,none⟩ = false:=hfr10 3;have hf10_4 : w11.frozen? ⟨go10,(x4_1 : Int).toNat * 5 + 4,none⟩ = false:=hfr10 4;clear hcl10 hcc10 hfr10 hM10;replace p10:=eq_true p10;replace q10:=eq_true q10;have HX12:=qn.mk (show Kd.R k101 101 w11 w.heap.size (fun _=>True) (.slice (some ⟨go10,0,none⟩) x3_1.length co10) x3_1 from (by (with_reducible repeat (first|apply Kd.R_alloc|apply Kd.R_drewN|apply Kd.R_drew));exact HO_3.out));obtain ⟨ce12,hcl12,hM12,hcc12,hfr12⟩:=Kd.R_elem HX12.out z101 (x4_1 : Int) (of_decide_eq_true (by first|(with_reducible assumption)|assumption)) (by have h_ : (x4_1 : Int) < ((x3_1.length : Int) : Int):=of_decide_eq_true (by first|(with_reducible assumption)|assumption);first|exact h_|(have e_:=(Kd.R_reads' HO_3.out).1;omega)|simpa using h_);obtain rfl:=k101_openM hM12;have HP12:=Kd.R_seg HX12.out (x4_1 : Int) (of_decide_eq_true (by first|(with_reducible assumption)|assumption)) (by have h_ : (x4_1 : Int) < ((x3_1.length : Int) : Int):=of_decide_eq_true (by first|(with_reducible assumption)|assumption);first|exact h_|(have e_:=(Kd.R_reads' HO_3.out).1;omega)|simpa using h_) (seg:=[.int .i64 t158,.int .i64 t159,.int .i64 t160,.int .i64 t161,.int .i64 t162]) (j:=0) hcl12 hcc12 (show 5 ≤ 5 from by decide) (x':=(⟨t158,t159,t160,t161,t162⟩ : S101)) (k101_mkM _ _ _ (⟨t158,t159,t160,t161,t162⟩ : S101) ) (fun _ hk=>hk);have hx12_0:=hcc12 0 _ rfl;(try simp only [show (k101).sz = 5 from rfl,Nat.mul_one,Nat.add_zero] at hx12_0);have hf12_0:=hfr12 0;(try simp only [show (k101).sz = 5 from rfl,Nat.mul_one,Nat.add_zero] at hf12_0);have hx12_1:=hcc12 1 _ rfl;(try simp only [show (k101).sz = 5 from rfl,Nat.mul_one,Nat.add_zero] at hx12_1);have hf12_1:=hfr12 1;(try simp only [show (k101).sz = 5 from rfl,Nat.mul_one,Nat.add_zero] at hf12_1);have hx12_2:=hcc12 2 _ rfl;(try simp only [show (k101).sz = 5 from rfl,Nat.mul_one,Nat.add_zero] at hx12_2);have hf12_2:=hfr12 2;(try simp only [show (k101).sz = 5 from rfl,Nat.mul_one,Nat.add_zero] at hf12_2);have hx12_3:=hcc12 3 _ rfl;(try simp only [show (k101).sz = 5 from rfl,Nat.mul_one,Nat.add_zero] at hx12_3);have hf12_3:=hfr12 3;(try simp only [show (k101).sz = 5 from rfl,Nat.mul_one,Nat.add_zero] at hf12_3);have hx12_4:=hcc12 4 _ rfl;(try simp only [show (k101).sz = 5 from rfl,Nat.mul_one,Nat.add_zero] at hx12_4);have hf12_4:=hfr12 4;(try simp only [show (k101).sz = 5 from rfl,Nat.mul_one,Nat.add_zero] at hf12_4);clear hcl12 hcc12 hfr12 hM12)|((with_reducible refine gate_store (t:=101) (p:=21) rfl ?_);refine store_event (t:=101) (p:=21) (v:=?vo_w13) (w1:=(((((w11.setCell ⟨go10,(x4_1 : Int).toNat * 5,none⟩ (.int .i64 t158)).setCell ⟨go10,(x4_1 : Int).toNat * 5 + 1,none⟩ (.int .i64 t159)).setCell ⟨go10,(x4_1 : Int).toNat * 5 + 2,none⟩ (.int .i64 t160)).setCell ⟨go10,(x4_1 : Int).toNat * 5 + 3,none⟩ (.int .i64 t161)).setCell ⟨go10,(x4_1 : Int).toNat * 5 + 4,none⟩ (.int .i64 t162))) ?hg ?ho ?hn ?hr ?_;(case ho=>rfl);(case hg=>rfl);(case hn=>rfl);(case hr=>first|(go_simp;done)|(go_simp;rfl));intro w13 hw;have hg : w11.grownBy w13 (some go10):=(by rw [hw];exact HP12.2);have hp_ : Kd.R k101 101 w13 w.heap.size (fun _=>True) (.slice (some ⟨go10,0,none⟩) x3_1.length co10) y163:=(by rw [hw,Ny163.out];exact HP12.1);clear HP12;have n0_:=qn.mk (hp_);have n1_:=qn.mk ((by rw [hw];exact qg (qg (qg (qg (qg (HB.out) GB10.out) GB10.out) GB10.out) GB10.out) GB10.out : Below w.heap.size w w13));clear HO_3;clear HB;have HO_3:=n0_;have HB:=n1_;clear n0_ n1_;clear hg hw hp_))
                go_roundg k1
                case measure=>have:=HK1.out;omega
                case rel=>exact ⟨(y163),(wrap64 (x4_1 + 1)),(by first|rfl|(simp;done)|(simp [*];done)),H',⟨by have:=HK1.out;omega⟩,⟨by (with_reducible repeat (first|apply Kd.R_alloc|apply Kd.R_drewN|apply Kd.R_drew));exact HO_3.out⟩,⟨by repeat (first|(with_reducible first|exact HB.out|apply qf|apply qa|apply qd)|exact HB.out)⟩⟩
              · rw [if_neg c9] at H
                exact absurd H (by simp)
            · rw [if_neg c7] at H
              exact absurd H (by simp)
          · rw [if_neg c6] at H
            have c6b0 : decide (x4_1 < (l0.length : Int)) = false:=decide_eq_false c6
            clear c6
            obtain rfl:=Option.some.inj H
            go_wp2
            go_ret
            exact ⟨_,by first|rfl|(simp [errW_none,errW_some] <;> rfl)|(simp [*,errW_none,errW_some] <;> rfl),by (with_reducible repeat (first|apply Kd.R_alloc|apply Kd.R_drewN|apply Kd.R_drew));exact HO_3.out,by repeat (first|(with_reducible first|exact HB.out|apply qf|apply qa|apply qd)|exact HB.out)⟩
    · rw [if_neg c3] at H
      exact absurd H (by simp)
  · rw [if_neg c2] at H
    exact absurd H (by simp)

/-! ### laws_toGraph: function 21 -/
def laws_toGraph.f (k : Nat) (a0_0 : Int) (l0_1 : List (S129)) : Option (Int × (List (S101))):=(laws_toEdgeS.f k l0_1).bind fun t167=>(some (a0_0,t167))
theorem laws_toGraph.mono : ∀ a0 a1 k,LeO (laws_toGraph.f k a0 a1) (laws_toGraph.f (k + 1) a0 a1):=by
  intro a0 a1 k
  unfold laws_toGraph.f
  repeat' first
      | (with_reducible exact laws_toEdgeS.mono _ _)
      | (with_reducible exact LeO.refl _)
      | (with_reducible exact LeO.none _)
      | (with_reducible refine LeO.ite ?_ ?_)
      | (with_reducible refine LeO.bind ?_ (fun _=>?_))
      | exact laws_toEdgeS.mono _ _
      | exact LeO.none _
      | refine LeO.ite ?_ ?_
      | refine LeO.bind ?_ (fun _=>?_)
set_option maxHeartbeats 8000000 in
set_option maxRecDepth 100000 in
theorem laws_toGraph.calls (k : Nat) (a0_0 : Int) (A0_1 : Option Addr) (c0_1 : Nat) (l0_1 : List (S129)) (r1 : Int) (r2 : List (S101)) (w : World) (hr0_1 : Kd.C k129 w A0_1 l0_1.length l0_1) (hc0_1 : l0_1.length ≤ c0_1) (h : laws_toGraph.f k a0_0 l0_1 = some (r1,r2)) :
    Calls Try.prog 21 #[.agg #[.int .i64 a0_0,.slice A0_1 l0_1.length c0_1]] w fun e w'=>∃ v1_ : Value,e = .returned (.agg #[.int .i64 r1,v1_]) ∧ Kd.R k101 101 w' w.heap.size (fun _=>True) v1_ r2 ∧ Below w.heap.size w w':=by
  have hu52:=Try.underlying52
  have hu61:=Try.underlying61
  have HR0_1:=qn.mk hr0_1
  have HC0_1:=qn.mk hc0_1
  clear hr0_1 hc0_1
  have HB:=qn.mk (Below.refl w.heap.size w)
  have H : ((laws_toEdgeS.f k l0_1).bind fun t167=>(some (a0_0,t167))) = some (r1,r2):=h
  clear h
  replace H:=Option.bind_eq_some_iff.mp H
  obtain ⟨t167,A20,H⟩:=H
  replace H : (some (a0_0,t167)) = some (r1,r2):=H
  have A2:=qn.mk A20
  clear A20
  simp only [Option.some.injEq,Prod.mk.injEq] at H
  obtain ⟨rfl,rfl⟩:=H
  go_enter Try.func21,Try.ntmps21
  go_wp2_with (first|((with_reducible refine gate_dst (N:=1) rfl ?_);refine box_event ?hg (N:=1) ?hd (cs:=#[.int .i64 a0_0,.slice A0_1 l0_1.length c0_1]) (t:=52) ?hr ?_;(case hd=>rfl);(case hg=>rfl);(case hr=>first|(go_simp;done)|(go_simp;rfl));intro gb164 hg w3 hbox hb;have n0_:=hs_ HB hb;have n1_:=qn.mk (hbox);have n2_:=qn.mk ((by rw [hg];exact (qj (by repeat (first|(with_reducible first|exact HB.out|apply qf|apply qa|apply qd)|exact HB.out))) : w.heap.size ≤ gb164));have n3_:=qn.mk ((by rw [hg];exact (qj (by repeat (first|(with_reducible first|exact HB.out|apply qf|apply qa|apply qd)|exact HB.out))) : w.heap.size ≤ gb164));clear HB;have HB:=n0_;have BK164:=n1_;have GW164:=n2_;have GE164:=n3_;clear n0_ n1_ n2_ n3_;clear hb hbox hg)|((with_reducible refine gate_dst (N:=2) rfl ?_);refine box_event ?hg (N:=2) ?hd (cs:=#[.int .i64 0,.slice none 0 0]) (t:=61) ?hr ?_;(case hd=>rfl);(case hg=>rfl);(case hr=>first|(go_simp;done)|(go_simp;rfl));intro gb165 hg w4 hbox hb;have n0_:=bb_ BK164 hb;have n1_:=hs_ HB hb;have n2_:=qn.mk (hbox);have n3_:=qn.mk ((by rw [hg];exact (qj (by repeat (first|(with_reducible first|exact HB.out|apply qf|apply qa|apply qd|refine qg ?_ GE164.out)|exact HB.out))) : w.heap.size ≤ gb165));have n4_:=qn.mk ((by rw [hg];exact (qj (by repeat (first|(with_reducible first|exact HB.out|apply qf|apply qa|apply qd|refine qg ?_ GE164.out)|exact HB.out))) : w.heap.size ≤ gb165));have n5_:=qn.mk ((by rw [hg];exact nl_ BK164 : gb164 ≠ gb165));have n6_:=qn.mk ((by rw [hg];exact ng_ BK164 : gb165 ≠ gb164));clear BK164;clear HB;have BK164:=n0_;have HB:=n1_;have BK165:=n2_;have GW165:=n3_;have GE165:=n4_;have NB164_165:=n5_;have NB165_164:=n6_;clear n0_ n1_ n2_ n3_ n4_ n5_ n6_;clear hb hbox hg)|((with_reducible refine gate_dst (N:=3) rfl ?_);refine box_event ?hg (N:=3) ?hd (cs:=#[.int .i64 0,.slice none 0 0]) (t:=61) ?hr ?_;(case hd=>rfl);(case hg=>rfl);(case hr=>first|(go_simp;done)|(go_simp;rfl));intro gb166 hg w5 hbox hb;have n0_:=bb_ BK164 hb;have n1_:=bb_ BK165 hb;have n2_:=hs_ HB hb;have n3_:=qn.mk (hbox);have n4_:=qn.mk ((by rw [hg];exact (qj (by repeat (first|(with_reducible first|exact HB.out|apply qf|apply qa|apply qd|refine qg ?_ GE164.out|refine qg ?_ GE165.out)|exact HB.out))) : w.heap.size ≤ gb166));have n5_:=qn.mk ((by rw [hg];exact (qj (by repeat (first|(with_reducible first|exact HB.out|apply qf|apply qa|apply qd|refine qg ?_ GE164.out|refine qg ?_ GE165.out)|exact HB.out))) : w.heap.size ≤ gb166));have n6_:=qn.mk ((by rw [hg];exact nl_ BK164 : gb164 ≠ gb166));have n7_:=qn.mk ((by rw [hg];exact ng_ BK164 : gb166 ≠ gb164));have n8_:=qn.mk ((by rw [hg];exact nl_ BK165 : gb165 ≠ gb166));have n9_:=qn.mk ((by rw [hg];exact ng_ BK165 : gb166 ≠ gb165));clear BK164;clear BK165;clear HB;have BK164:=n0_;have BK165:=n1_;have HB:=n2_;have BK166:=n3_;have GW166:=n4_;have GE166:=n5_;have NB164_166:=n6_;have NB166_164:=n7_;have NB165_166:=n8_;have NB166_165:=n9_;clear n0_ n1_ n2_ n3_ n4_ n5_ n6_ n7_ n8_ n9_;clear hb hbox hg;have hnb6:=NB164_165.out;have hnc6:=NB165_164.out;have hnb7:=NB164_166.out;have hnc7:=NB166_164.out;have hcz8_0 : w5.cell? ⟨gb164,0,none⟩ = some (.int .i64 a0_0):=(qh BK164.out 0).trans rfl;have hcz8_1 : w5.cell? ⟨gb164,1,none⟩ = some (.slice A0_1 l0_1.length c0_1):=(qh BK164.out 1).trans rfl;have hfz8_0:=qi BK164.out 0;have hfz8_1:=qi BK164.out 1;have hnb9:=NB166_165.out;have hnc9:=NB165_166.out;have hcz10_0 : w5.cell? ⟨gb166,0,none⟩ = some (.int .i64 0):=(qh BK166.out 0).trans rfl;have hcz10_1 : w5.cell? ⟨gb166,1,none⟩ = some (.slice none 0 0):=(qh BK166.out 1).trans rfl;have hfz10_0:=qi BK166.out 0;have hfz10_1:=qi BK166.out 1)|((with_reducible refine gate_callee (f:=54) rfl ?_);refine goesL_ (some 9) rfl rfl Try.func54 (by kernel_rfl) rfl #[.slice A0_1 l0_1.length c0_1] rfl (by (try simp only [List.map_toArray,List.map_cons,List.map_nil]);first|done|rfl|(simp only [List.length_drop,List.length_take];rfl)) ?_;(with_reducible refine (laws_toEdgeS.calls k _ _ l0_1 t167 _ ?side1 ?side2 A2.out).mono ?_);(case side1=>exact Kd.C_below HR0_1.out (by repeat (first|(with_reducible first|exact HB.out|apply qf|apply qa|apply qd|refine qg ?_ GE164.out|refine qg ?_ GE165.out|refine qg ?_ GE166.out)|exact HB.out)));(case side2=>exact HC0_1.out);rintro e w11 ⟨v168,rfl,ho0,hb⟩;refine ⟨_,rfl,?_⟩;have n0_:=qn.mk (Kd.R_lower ho0 (qj (by repeat (first|(with_reducible first|exact HB.out|apply qf|apply qa|apply qd|refine qg ?_ GE164.out|refine qg ?_ GE165.out|refine qg ?_ GE166.out)|exact HB.out))));have n1_:=qn.mk (ql (g:=gb164) (o:=.cells #[.int .i64 a0_0,.slice A0_1 l0_1.length c0_1] 52 (0,0)) (by (with_reducible repeat (first|refine qb ?_ _|refine qe ?_|refine qc ?_ _));refine blk_far ?_ NB164_166.out _;(with_reducible repeat (first|refine qb ?_ _|refine qe ?_|refine qc ?_ _));exact BK164.out) hb);have n2_:=qn.mk (ql (g:=gb165) (o:=.cells #[.int .i64 0,.slice none 0 0] 61 (0,0)) (by (with_reducible repeat (first|refine qb ?_ _|refine qe ?_|refine qc ?_ _));refine blk_far ?_ NB165_166.out _;(with_reducible repeat (first|refine qb ?_ _|refine qe ?_|refine qc ?_ _));exact BK165.out) hb);have n3_:=qn.mk (ql (g:=gb166) (o:=.cells #[.int .i64 a0_0,.slice none 0 0] 61 (0,0)) (by (with_reducible repeat (first|refine qb ?_ _|refine qe ?_|refine qc ?_ _));refine blk_put (cs:=#[.int .i64 0,.slice none 0 0]) ?_ 0 _ rfl;(with_reducible repeat (first|refine qb ?_ _|refine qe ?_|refine qc ?_ _));exact BK166.out) hb);have n4_:=hs_ HB hb;clear BK164;clear BK165;clear BK166;clear HB;have HO169:=n0_;have BK164:=n1_;have BK165:=n2_;have BK166:=n3_;have HB:=n4_;clear n0_ n1_ n2_ n3_ n4_;(try clear hb);(try clear hb2);(try clear hk);(try clear hi);(try clear ho0);obtain ⟨Ao12,co12,eo12⟩:=Kd.R_slice HO169.out;subst eo12;have hcz13_0 : w11.cell? ⟨gb166,0,none⟩ = some (.int .i64 a0_0):=(qh BK166.out 0).trans rfl;have hcz13_1 : w11.cell? ⟨gb166,1,none⟩ = some (.slice none 0 0):=(qh BK166.out 1).trans rfl;have hfz13_0:=qi BK166.out 0;have hfz13_1:=qi BK166.out 1;have hcz14_0 : w11.cell? ⟨gb165,0,none⟩ = some (.int .i64 0):=(qh BK165.out 0).trans rfl;have hcz14_1 : w11.cell? ⟨gb165,1,none⟩ = some (.slice none 0 0):=(qh BK165.out 1).trans rfl;have hfz14_0:=qi BK165.out 0;have hfz14_1:=qi BK165.out 1))
  refine bodyPost_ret (results_cell_row rfl _ _ gb165 61 #[.int .i64 a0_0,.slice Ao12 t167.length co12] (0,0) _ rfl (by (with_reducible repeat (first|refine qb ?_ _|refine qe ?_|refine qc ?_ _));refine blk_put (cs:=#[.int .i64 a0_0,.slice none 0 0]) ?_ 1 _ rfl;(with_reducible repeat (first|refine qb ?_ _|refine qe ?_|refine qc ?_ _));refine blk_put (cs:=#[.int .i64 0,.slice none 0 0]) ?_ 0 _ rfl;(with_reducible repeat (first|refine qb ?_ _|refine qe ?_|refine qc ?_ _));refine blk_far ?_ NB165_166.out _;(with_reducible repeat (first|refine qb ?_ _|refine qe ?_|refine qc ?_ _));exact BK165.out) Try.underlying61 rfl (by kernel_rfl)) rfl ?_
  exact ⟨_,by first|rfl|(simp [errW_none,errW_some] <;> rfl)|(simp [*,errW_none,errW_some] <;> rfl),by (with_reducible repeat (first|apply Kd.R_alloc|apply Kd.R_drewN|apply Kd.R_drew));exact Kd.R_mono (Kd.R_far (p:=⟨gb165,1,none⟩) (Kd.R_far (p:=⟨gb165,0,none⟩) (Kd.R_far (p:=⟨gb166,1,none⟩) (Kd.R_types (Kd.R_types HO169.out BK166.out (by decide)) BK165.out (by decide)) (fun _ hk=>hk.1.2) (.slice Ao12 t167.length co12)) (fun _ hk=>hk.2) (.int .i64 a0_0)) (fun _ hk=>hk.2) (.slice Ao12 t167.length co12)) (fun _ hk=>trivial),by repeat (first|(with_reducible first|exact HB.out|apply qf|apply qa|apply qd|refine qg ?_ GE164.out|refine qg ?_ GE165.out|refine qg ?_ GE166.out)|exact HB.out)⟩

/-! ### laws_toIntS: function 55 -/
def laws_toIntS.l0 : Nat → List Int → List Int → Int → Option (List Int)
  | 0,_,_,_=>none
  | k + 1,x0,x3,x4=>if x4 < (x0.length : Int) then (if 0 ≤ x4 then (if x4 < (x3.length : Int) then (laws_toIntS.l0 k x0 (x3.set (x4 : Int).toNat (rd x0 x4)) (wrap64 (x4 + 1))) else (none)) else (none)) else (some x3)
def laws_toIntS.f (k : Nat) (l0 : List Int) : Option (List Int):=if 0 ≤ (l0.length : Int) then (if ((l0.length : Int) : Int).toNat ≤ 35184372088832 then (laws_toIntS.l0 k l0 (List.replicate ((l0.length : Int) : Int).toNat 0) 0) else (none)) else (none)
theorem laws_toIntS.mono_l : ∀ k,(∀ y0 y1 y2,LeO (laws_toIntS.l0 k y0 y1 y2) (laws_toIntS.l0 (k + 1) y0 y1 y2))
  | 0=>fun _ _ _ r h=>by simp [laws_toIntS.l0] at h
  | k + 1=>by
    have ih0:=laws_toIntS.mono_l k
    · intro y0 y1 y2
      unfold laws_toIntS.l0
      repeat' first
      | (with_reducible exact ih0 _ _ _)
      | (with_reducible exact LeO.refl _)
      | (with_reducible exact LeO.none _)
      | (with_reducible refine LeO.ite ?_ ?_)
      | (with_reducible refine LeO.bind ?_ (fun _=>?_))
      | exact ih0 _ _ _
      | exact LeO.none _
      | refine LeO.ite ?_ ?_
      | refine LeO.bind ?_ (fun _=>?_)
theorem laws_toIntS.mono : ∀ a0 k,LeO (laws_toIntS.f k a0) (laws_toIntS.f (k + 1) a0):=by
  intro a0 k
  have ih0:=laws_toIntS.mono_l k
  unfold laws_toIntS.f
  repeat' first
      | (with_reducible exact ih0 _ _ _)
      | (with_reducible exact LeO.refl _)
      | (with_reducible exact LeO.none _)
      | (with_reducible refine LeO.ite ?_ ?_)
      | (with_reducible refine LeO.bind ?_ (fun _=>?_))
      | exact ih0 _ _ _
      | exact LeO.none _
      | refine LeO.ite ?_ ?_
      | refine LeO.bind ?_ (fun _=>?_)
set_option maxHeartbeats 8000000 in
set_option maxRecDepth 100000 in
theorem laws_toIntS.calls (k : Nat) (A0 : Option Addr) (c0 : Nat) (l0 : List Int) (r : List Int) (w : World) (hr0 : Kd.C (Kd.int .i64) w A0 l0.length l0) (hc0 : l0.length ≤ c0) (h : laws_toIntS.f k l0 = some r) :
    Calls Try.prog 55 #[.slice A0 l0.length c0] w fun e w'=>∃ v0_ : Value,e = .returned (v0_) ∧ Kd.R (Kd.int .i64) 3 w' w.heap.size (fun _=>True) v0_ r ∧ Below w.heap.size w w':=by
  have HR0:=qn.mk hr0
  have HC0:=qn.mk hc0
  clear hr0 hc0
  have HB:=qn.mk (Below.refl w.heap.size w)
  have H : (if 0 ≤ (l0.length : Int) then (if ((l0.length : Int) : Int).toNat ≤ 35184372088832 then (laws_toIntS.l0 k l0 (List.replicate ((l0.length : Int) : Int).toNat 0) 0) else (none)) else (none)) = some r:=h
  clear h
  by_cases c2 : 0 ≤ (l0.length : Int)
  · rw [if_pos c2] at H
    have c2b0:=eq_true c2
    have c2b1 : decide (0 ≤ (l0.length : Int)) = true:=decide_eq_true c2
    clear c2
    by_cases c3 : ((l0.length : Int) : Int).toNat ≤ 35184372088832
    · rw [if_pos c3] at H
      have c3b0:=eq_true c3
      have c3b1 : decide (((l0.length : Int) : Int).toNat ≤ 35184372088832) = true:=decide_eq_true c3
      clear c3
      obtain ⟨y170,hy170⟩ : ∃ y_ : List Int,y_ = (List.replicate ((l0.length : Int) : Int).toNat 0):=⟨_,rfl⟩
      replace H : (laws_toIntS.l0 k l0 y170 0) = some r:=by first|(rw [hy170];with_reducible exact H)|(have H2_:=(Option.bind_some _ _).symm.trans H;rw [hy170];with_reducible exact H2_)|(have H2_:=(Option.bind_some _ _).symm.trans H;with_reducible exact H2_)|with_reducible exact H|(rw [hy170];exact H)|exact H
      have Ny170:=qn.mk hy170
      clear hy170
      have H':=qn.mk H
      clear H
      go_enter Try.func55,Try.ntmps55
      go_wp2_with (first|((with_reducible refine gate_dst (N:=7) rfl ?_);refine Kd.R_make (Kd.int .i64) _ 3 rfl (N:=7) rfl 31 _ _ rfl (l0.length : Int) rfl rfl Try.underlying31 (.int .i64 0) 8 info3 rfl (by decide) (by omega) 0 (ok:=fun _=>True) (okp:=fun _=>True) rfl (fun _ hk=>hk) trivial (of_decide_eq_true (by first|(with_reducible assumption)|assumption)) (Nat.le_trans (Nat.mul_le_mul_right _ (of_decide_eq_true (by first|(with_reducible assumption)|assumption) : (l0.length : Int).toNat ≤ 35184372088832)) (by omega)) (Below.refl _ _) (Nat.le_refl _) ?_;intro v171 w4 ho5 hb hg_ hnew_;clear hg_ hnew_;(first|rw [← Ny170.out] at ho5|(simp only [Int.reduceToNat] at ho5;rw [← Ny170.out] at ho5));have n0_:=qn.mk (Kd.R_lower ho5 (qj (by repeat (first|(with_reducible first|exact HB.out|apply qf|apply qa|apply qd)|exact HB.out))));have n1_:=hs_ HB hb;clear HB;have HO172:=n0_;have HB:=n1_;clear n0_ n1_;clear hb ho5))
      go_loopg [4] k (fun kq v4 w'=>∃ (x3_1 : List Int) (x4_1 : Int),v4 = .int .i64 x4_1 ∧ qn (laws_toIntS.l0 kq l0 x3_1 x4_1 = some r) ∧ qn (kq ≤ k) ∧ qn (Kd.R (Kd.int .i64) 3 w' w.heap.size (fun _=>True) v171 x3_1) ∧ qn (Below w.heap.size w w'))
      case atStart=>exact ⟨(y170),(0),(by first|rfl|(simp;done)|(simp [*];done)),H',⟨Nat.le_refl _⟩,⟨by (with_reducible repeat (first|apply Kd.R_alloc|apply Kd.R_drewN|apply Kd.R_drew));exact HO172.out⟩,⟨by repeat (first|(with_reducible first|exact HB.out|apply qf|apply qa|apply qd)|exact HB.out)⟩⟩
      case round =>
        clear H'
        try clear c2
        try clear c2b0
        try clear c2b1
        try clear p2
        try clear c3
        try clear c3b0
        try clear c3b1
        try clear c5
        obtain ⟨x3_1,x4_1,rfl,HA,HK1,HO_3,HB⟩:=hrel
        cases gk with
        | zero=>exact absurd HA.out (by simp [laws_toIntS.l0])
        | succ k1 =>
          have H:=HA.out
          clear HA
          simp only [laws_toIntS.l0] at H
          by_cases c6 : x4_1 < (l0.length : Int)
          · rw [if_pos c6] at H
            have c6b0 : decide (x4_1 < (l0.length : Int)) = true:=decide_eq_true c6
            clear c6
            by_cases c7 : 0 ≤ x4_1
            · rw [if_pos c7] at H
              have c7b0 : decide (0 ≤ x4_1) = true:=decide_eq_true c7
              clear c7
              by_cases c8 : x4_1 < (x3_1.length : Int)
              · rw [if_pos c8] at H
                have c8b0 : decide (x4_1 < (x3_1.length : Int)) = true:=decide_eq_true c8
                clear c8
                obtain ⟨y174,hy174⟩ : ∃ y_ : List Int,y_ = (x3_1.set (x4_1 : Int).toNat (rd l0 x4_1)):=⟨_,rfl⟩
                replace H : (laws_toIntS.l0 k1 l0 y174 (wrap64 (x4_1 + 1))) = some r:=by first|(rw [hy174];with_reducible exact H)|(have H2_:=(Option.bind_some _ _).symm.trans H;rw [hy174];with_reducible exact H2_)|(have H2_:=(Option.bind_some _ _).symm.trans H;with_reducible exact H2_)|with_reducible exact H|(rw [hy174];exact H)|exact H
                have Ny174:=qn.mk hy174
                clear hy174
                have H':=qn.mk H
                clear H
                have p173 : 0 ≤ (x4_1 : Int):=of_decide_eq_true (by first|(with_reducible assumption)|assumption)
                have q173 : x4_1 < (l0.length : Int):=of_decide_eq_true (by first|(with_reducible assumption)|assumption)
                obtain ⟨ad173,e173,hx173_0⟩:=Kd.at_int HR0.out x4_1 p173 q173
                cases e173
                replace hx173_0:=cb_ HB hx173_0
                replace p173:=eq_true p173
                replace q173:=eq_true q173
                have p9 : 0 ≤ (x4_1 : Int):=of_decide_eq_true (by first|(with_reducible assumption)|assumption)
                have q9 : (x4_1 : Int) < ((x3_1.length : Int) : Int):=of_decide_eq_true (by first|(with_reducible assumption)|assumption)
                obtain ⟨go9,co9,eo9,gb9,gl9,cl9,HG9⟩:=Kd.R_form HO_3.out (by omega)
                (first|cases eo9|(injection eo9 with ea_ en_ ec_;(first|subst ea_|(injection ea_ with ea_;subst ea_));subst ec_;clear en_))
                have GB9:=qn.mk gb9
                have GG9:=qn.mk HG9
                clear gb9 gl9 HG9
                obtain ⟨hx9_0,hf9_0⟩:=Kd.R_celln 0 HO_3.out (x4_1 : Int) p9 q9
                replace p9:=eq_true p9
                replace q9:=eq_true q9
                have HP10:=Kd.R_putg HO_3.out (x4_1 : Int) (rd l0 x4_1)
                go_wp2_with (first|((with_reducible refine gate_store (t:=3) (p:=20) rfl ?_);refine store_event (t:=3) (p:=20) (v:=?vo_w11) (w1:=(wr.setCell ⟨go9,(x4_1 : Int).toNat,none⟩ (.int .i64 (rd l0 x4_1)))) ?hg ?ho ?hn ?hr ?_;(case ho=>rfl);(case hg=>rfl);(case hn=>rfl);(case hr=>first|(go_simp;done)|(go_simp;rfl));intro w11 hw;have hg : wr.grownBy w11 (some go9):=(by rw [hw];exact HP10.2);have hp_ : Kd.R (Kd.int .i64) 3 w11 w.heap.size (fun _=>True) (.slice (some ⟨go9,0,none⟩) x3_1.length co9) y174:=(by rw [hw,Ny174.out];exact HP10.1);clear HP10;have n0_:=qn.mk (hp_);have n1_:=qn.mk ((by rw [hw];exact qg (HB.out) GB9.out : Below w.heap.size w w11));clear HO_3;clear HB;have HO_3:=n0_;have HB:=n1_;clear n0_ n1_;clear hg hw hp_))
                go_roundg k1
                case measure=>have:=HK1.out;omega
                case rel=>exact ⟨(y174),(wrap64 (x4_1 + 1)),(by first|rfl|(simp;done)|(simp [*];done)),H',⟨by have:=HK1.out;omega⟩,⟨by (with_reducible repeat (first|apply Kd.R_alloc|apply Kd.R_drewN|apply Kd.R_drew));exact HO_3.out⟩,⟨by repeat (first|(with_reducible first|exact HB.out|apply qf|apply qa|apply qd)|exact HB.out)⟩⟩
              · rw [if_neg c8] at H
                exact absurd H (by simp)
            · rw [if_neg c7] at H
              exact absurd H (by simp)
          · rw [if_neg c6] at H
            have c6b0 : decide (x4_1 < (l0.length : Int)) = false:=decide_eq_false c6
            clear c6
            obtain rfl:=Option.some.inj H
            go_wp2
            go_ret
            exact ⟨_,by first|rfl|(simp [errW_none,errW_some] <;> rfl)|(simp [*,errW_none,errW_some] <;> rfl),by (with_reducible repeat (first|apply Kd.R_alloc|apply Kd.R_drewN|apply Kd.R_drew));exact HO_3.out,by repeat (first|(with_reducible first|exact HB.out|apply qf|apply qa|apply qd)|exact HB.out)⟩
    · rw [if_neg c3] at H
      exact absurd H (by simp)
  · rw [if_neg c2] at H
    exact absurd H (by simp)

/-! ### laws_toGroup: function 77 -/
def laws_toGroup.f (k : Nat) (l0_0 : List Int) (a0_1 : Int) : Option (List Int × Int):=(laws_toIntS.f k l0_0).bind fun t178=>(some (t178,a0_1))
theorem laws_toGroup.mono : ∀ a0 a1 k,LeO (laws_toGroup.f k a0 a1) (laws_toGroup.f (k + 1) a0 a1):=by
  intro a0 a1 k
  unfold laws_toGroup.f
  repeat' first
      | (with_reducible exact laws_toIntS.mono _ _)
      | (with_reducible exact LeO.refl _)
      | (with_reducible exact LeO.none _)
      | (with_reducible refine LeO.ite ?_ ?_)
      | (with_reducible refine LeO.bind ?_ (fun _=>?_))
      | exact laws_toIntS.mono _ _
      | exact LeO.none _
      | refine LeO.ite ?_ ?_
      | refine LeO.bind ?_ (fun _=>?_)
set_option maxHeartbeats 8000000 in
set_option maxRecDepth 100000 in
theorem laws_toGroup.calls (k : Nat) (A0_0 : Option Addr) (c0_0 : Nat) (l0_0 : List Int) (a0_1 : Int) (r1 : List Int) (r2 : Int) (w : World) (hr0_0 : Kd.C (Kd.int .i64) w A0_0 l0_0.length l0_0) (hc0_0 : l0_0.length ≤ c0_0) (h : laws_toGroup.f k l0_0 a0_1 = some (r1,r2)) :
    Calls Try.prog 77 #[.agg #[.slice A0_0 l0_0.length c0_0,.int .i64 a0_1]] w fun e w'=>∃ v0_ : Value,e = .returned (.agg #[v0_,.int .i64 r2]) ∧ Kd.R (Kd.int .i64) 3 w' w.heap.size (fun _=>True) v0_ r1 ∧ Below w.heap.size w w':=by
  have hu124:=Try.underlying124
  have hu97:=Try.underlying97
  have HR0_0:=qn.mk hr0_0
  have HC0_0:=qn.mk hc0_0
  clear hr0_0 hc0_0
  have HB:=qn.mk (Below.refl w.heap.size w)
  have H : ((laws_toIntS.f k l0_0).bind fun t178=>(some (t178,a0_1))) = some (r1,r2):=h
  clear h
  replace H:=Option.bind_eq_some_iff.mp H
  obtain ⟨t178,A20,H⟩:=H
  replace H : (some (t178,a0_1)) = some (r1,r2):=H
  have A2:=qn.mk A20
  clear A20
  simp only [Option.some.injEq,Prod.mk.injEq] at H
  obtain ⟨rfl,rfl⟩:=H
  go_enter Try.func77,Try.ntmps77
  go_wp2_with (first|((with_reducible refine gate_dst (N:=1) rfl ?_);refine box_event ?hg (N:=1) ?hd (cs:=#[.slice A0_0 l0_0.length c0_0,.int .i64 a0_1]) (t:=124) ?hr ?_;(case hd=>rfl);(case hg=>rfl);(case hr=>first|(go_simp;done)|(go_simp;rfl));intro gb175 hg w3 hbox hb;have n0_:=hs_ HB hb;have n1_:=qn.mk (hbox);have n2_:=qn.mk ((by rw [hg];exact (qj (by repeat (first|(with_reducible first|exact HB.out|apply qf|apply qa|apply qd)|exact HB.out))) : w.heap.size ≤ gb175));have n3_:=qn.mk ((by rw [hg];exact (qj (by repeat (first|(with_reducible first|exact HB.out|apply qf|apply qa|apply qd)|exact HB.out))) : w.heap.size ≤ gb175));clear HB;have HB:=n0_;have BK175:=n1_;have GW175:=n2_;have GE175:=n3_;clear n0_ n1_ n2_ n3_;clear hb hbox hg)|((with_reducible refine gate_dst (N:=2) rfl ?_);refine box_event ?hg (N:=2) ?hd (cs:=#[.slice none 0 0,.int .i64 0]) (t:=97) ?hr ?_;(case hd=>rfl);(case hg=>rfl);(case hr=>first|(go_simp;done)|(go_simp;rfl));intro gb176 hg w4 hbox hb;have n0_:=bb_ BK175 hb;have n1_:=hs_ HB hb;have n2_:=qn.mk (hbox);have n3_:=qn.mk ((by rw [hg];exact (qj (by repeat (first|(with_reducible first|exact HB.out|apply qf|apply qa|apply qd|refine qg ?_ GE175.out)|exact HB.out))) : w.heap.size ≤ gb176));have n4_:=qn.mk ((by rw [hg];exact (qj (by repeat (first|(with_reducible first|exact HB.out|apply qf|apply qa|apply qd|refine qg ?_ GE175.out)|exact HB.out))) : w.heap.size ≤ gb176));have n5_:=qn.mk ((by rw [hg];exact nl_ BK175 : gb175 ≠ gb176));have n6_:=qn.mk ((by rw [hg];exact ng_ BK175 : gb176 ≠ gb175));clear BK175;clear HB;have BK175:=n0_;have HB:=n1_;have BK176:=n2_;have GW176:=n3_;have GE176:=n4_;have NB175_176:=n5_;have NB176_175:=n6_;clear n0_ n1_ n2_ n3_ n4_ n5_ n6_;clear hb hbox hg)|((with_reducible refine gate_dst (N:=3) rfl ?_);refine box_event ?hg (N:=3) ?hd (cs:=#[.slice none 0 0,.int .i64 0]) (t:=97) ?hr ?_;(case hd=>rfl);(case hg=>rfl);(case hr=>first|(go_simp;done)|(go_simp;rfl));intro gb177 hg w5 hbox hb;have n0_:=bb_ BK175 hb;have n1_:=bb_ BK176 hb;have n2_:=hs_ HB hb;have n3_:=qn.mk (hbox);have n4_:=qn.mk ((by rw [hg];exact (qj (by repeat (first|(with_reducible first|exact HB.out|apply qf|apply qa|apply qd|refine qg ?_ GE175.out|refine qg ?_ GE176.out)|exact HB.out))) : w.heap.size ≤ gb177));have n5_:=qn.mk ((by rw [hg];exact (qj (by repeat (first|(with_reducible first|exact HB.out|apply qf|apply qa|apply qd|refine qg ?_ GE175.out|refine qg ?_ GE176.out)|exact HB.out))) : w.heap.size ≤ gb177));have n6_:=qn.mk ((by rw [hg];exact nl_ BK175 : gb175 ≠ gb177));have n7_:=qn.mk ((by rw [hg];exact ng_ BK175 : gb177 ≠ gb175));have n8_:=qn.mk ((by rw [hg];exact nl_ BK176 : gb176 ≠ gb177));have n9_:=qn.mk ((by rw [hg];exact ng_ BK176 : gb177 ≠ gb176));clear BK175;clear BK176;clear HB;have BK175:=n0_;have BK176:=n1_;have HB:=n2_;have BK177:=n3_;have GW177:=n4_;have GE177:=n5_;have NB175_177:=n6_;have NB177_175:=n7_;have NB176_177:=n8_;have NB177_176:=n9_;clear n0_ n1_ n2_ n3_ n4_ n5_ n6_ n7_ n8_ n9_;clear hb hbox hg;have hnb6:=NB175_176.out;have hnc6:=NB176_175.out;have hnb7:=NB175_177.out;have hnc7:=NB177_175.out;have hcz8_0 : w5.cell? ⟨gb175,0,none⟩ = some (.slice A0_0 l0_0.length c0_0):=(qh BK175.out 0).trans rfl;have hcz8_1 : w5.cell? ⟨gb175,1,none⟩ = some (.int .i64 a0_1):=(qh BK175.out 1).trans rfl;have hfz8_0:=qi BK175.out 0;have hfz8_1:=qi BK175.out 1)|((with_reducible refine gate_callee (f:=55) rfl ?_);refine goesL_ (some 6) rfl rfl Try.func55 (by kernel_rfl) rfl #[.slice A0_0 l0_0.length c0_0] rfl (by (try simp only [List.map_toArray,List.map_cons,List.map_nil]);first|done|rfl|(simp only [List.length_drop,List.length_take];rfl)) ?_;(with_reducible refine (laws_toIntS.calls k _ _ l0_0 t178 _ ?side1 ?side2 A2.out).mono ?_);(case side1=>repeat (first|exact (Kd.C_below HR0_0.out HB.out)|(with_reducible refine Kd.C_alloc ?_ _)|(with_reducible refine Kd.C_drewN ?_ _)|(with_reducible refine Kd.C_drew ?_)));(case side2=>exact HC0_0.out);rintro e w9 ⟨v179,rfl,ho0,hb⟩;refine ⟨_,rfl,?_⟩;have n0_:=qn.mk (Kd.R_lower ho0 (qj (by repeat (first|(with_reducible first|exact HB.out|apply qf|apply qa|apply qd|refine qg ?_ GE175.out|refine qg ?_ GE176.out|refine qg ?_ GE177.out)|exact HB.out))));have n1_:=bb_ BK175 hb;have n2_:=bb_ BK176 hb;have n3_:=bb_ BK177 hb;have n4_:=hs_ HB hb;clear BK175;clear BK176;clear BK177;clear HB;have HO180:=n0_;have BK175:=n1_;have BK176:=n2_;have BK177:=n3_;have HB:=n4_;clear n0_ n1_ n2_ n3_ n4_;(try clear hb);(try clear hb2);(try clear hk);(try clear hi);(try clear ho0);obtain ⟨Ao10,co10,eo10⟩:=Kd.R_slice HO180.out;subst eo10;have hnb11:=NB177_176.out;have hnc11:=NB176_177.out;have hcz12_0 : w9.cell? ⟨gb177,0,none⟩ = some (.slice none 0 0):=(qh BK177.out 0).trans rfl;have hcz12_1 : w9.cell? ⟨gb177,1,none⟩ = some (.int .i64 0):=(qh BK177.out 1).trans rfl;have hfz12_0:=qi BK177.out 0;have hfz12_1:=qi BK177.out 1;have hcz13_0 : w9.cell? ⟨gb175,0,none⟩ = some (.slice A0_0 l0_0.length c0_0):=(qh BK175.out 0).trans rfl;have hcz13_1 : w9.cell? ⟨gb175,1,none⟩ = some (.int .i64 a0_1):=(qh BK175.out 1).trans rfl;have hfz13_0:=qi BK175.out 0;have hfz13_1:=qi BK175.out 1;have hcz14_0 : w9.cell? ⟨gb176,0,none⟩ = some (.slice none 0 0):=(qh BK176.out 0).trans rfl;have hcz14_1 : w9.cell? ⟨gb176,1,none⟩ = some (.int .i64 0):=(qh BK176.out 1).trans rfl;have hfz14_0:=qi BK176.out 0;have hfz14_1:=qi BK176.out 1))
  refine bodyPost_ret (results_cell_row rfl _ _ gb176 97 #[.slice Ao10 t178.length co10,.int .i64 a0_1] (0,0) _ rfl (by (with_reducible repeat (first|refine qb ?_ _|refine qe ?_|refine qc ?_ _));refine blk_put (cs:=#[.slice Ao10 t178.length co10,.int .i64 0]) ?_ 1 _ rfl;(with_reducible repeat (first|refine qb ?_ _|refine qe ?_|refine qc ?_ _));refine blk_put (cs:=#[.slice none 0 0,.int .i64 0]) ?_ 0 _ rfl;(with_reducible repeat (first|refine qb ?_ _|refine qe ?_|refine qc ?_ _));refine blk_far ?_ NB176_177.out _;(with_reducible repeat (first|refine qb ?_ _|refine qe ?_|refine qc ?_ _));refine blk_far ?_ NB176_177.out _;(with_reducible repeat (first|refine qb ?_ _|refine qe ?_|refine qc ?_ _));exact BK176.out) Try.underlying97 rfl (by kernel_rfl)) rfl ?_
  exact ⟨_,by first|rfl|(simp [errW_none,errW_some] <;> rfl)|(simp [*,errW_none,errW_some] <;> rfl),by (with_reducible repeat (first|apply Kd.R_alloc|apply Kd.R_drewN|apply Kd.R_drew));exact Kd.R_mono (Kd.R_far (p:=⟨gb176,1,none⟩) (Kd.R_far (p:=⟨gb176,0,none⟩) (Kd.R_far (p:=⟨gb177,1,none⟩) (Kd.R_far (p:=⟨gb177,0,none⟩) (Kd.R_types (Kd.R_types HO180.out BK177.out (by decide)) BK176.out (by decide)) (fun _ hk=>hk.1.2) (.slice Ao10 t178.length co10)) (fun _ hk=>hk.1.2) (.int .i64 a0_1)) (fun _ hk=>hk.2) (.slice Ao10 t178.length co10)) (fun _ hk=>hk.2) (.int .i64 a0_1)) (fun _ hk=>trivial),by repeat (first|(with_reducible first|exact HB.out|apply qf|apply qa|apply qd|refine qg ?_ GE175.out|refine qg ?_ GE176.out|refine qg ?_ GE177.out)|exact HB.out)⟩

/-! ### laws_toGroupS: function 56 -/
def laws_toGroupS.l0 : Nat → List (S124) → List (S97) → Int → Option ((List (S97)))
  | 0,_,_,_=>none
  | k + 1,x0,x3,x4=>if x4 < (x0.length : Int) then (if 0 ≤ x4 then ((laws_toGroup.f k ((rd_T124 x0 x4).f0) ((rd_T124 x0 x4).f1)).bind fun bt185=>(if x4 < (x3.length : Int) then (laws_toGroupS.l0 k x0 (x3.set (x4 : Int).toNat (⟨bt185.1,bt185.2⟩ : S97)) (wrap64 (x4 + 1))) else (none))) else (none)) else (some x3)
def laws_toGroupS.f (k : Nat) (l0 : List (S124)) : Option ((List (S97))):=if 0 ≤ (l0.length : Int) then (if ((l0.length : Int) : Int).toNat ≤ 8796093022208 then (laws_toGroupS.l0 k l0 (List.replicate ((l0.length : Int) : Int).toNat z97) 0) else (none)) else (none)
theorem laws_toGroupS.mono_l : ∀ k,(∀ y0 y1 y2,LeO (laws_toGroupS.l0 k y0 y1 y2) (laws_toGroupS.l0 (k + 1) y0 y1 y2))
  | 0=>fun _ _ _ r h=>by simp [laws_toGroupS.l0] at h
  | k + 1=>by
    have ih0:=laws_toGroupS.mono_l k
    · intro y0 y1 y2
      unfold laws_toGroupS.l0
      repeat' first
      | (with_reducible exact ih0 _ _ _)
      | (with_reducible exact laws_toGroup.mono _ _ _)
      | (with_reducible exact LeO.refl _)
      | (with_reducible exact LeO.none _)
      | (with_reducible refine LeO.ite ?_ ?_)
      | (with_reducible refine LeO.bind ?_ (fun _=>?_))
      | exact ih0 _ _ _
      | exact laws_toGroup.mono _ _ _
      | exact LeO.none _
      | refine LeO.ite ?_ ?_
      | refine LeO.bind ?_ (fun _=>?_)
theorem laws_toGroupS.mono : ∀ a0 k,LeO (laws_toGroupS.f k a0) (laws_toGroupS.f (k + 1) a0):=by
  intro a0 k
  have ih0:=laws_toGroupS.mono_l k
  unfold laws_toGroupS.f
  repeat' first
      | (with_reducible exact ih0 _ _ _)
      | (with_reducible exact laws_toGroup.mono _ _ _)
      | (with_reducible exact LeO.refl _)
      | (with_reducible exact LeO.none _)
      | (with_reducible refine LeO.ite ?_ ?_)
      | (with_reducible refine LeO.bind ?_ (fun _=>?_))
      | exact ih0 _ _ _
      | exact laws_toGroup.mono _ _ _
      | exact LeO.none _
      | refine LeO.ite ?_ ?_
      | refine LeO.bind ?_ (fun _=>?_)
set_option maxHeartbeats 8000000 in
set_option maxRecDepth 100000 in
theorem laws_toGroupS.calls (k : Nat) (A0 : Option Addr) (c0 : Nat) (l0 : List (S124)) (r : List (S97)) (w : World) (hr0 : Kd.C k124 w A0 l0.length l0) (hc0 : l0.length ≤ c0) (h : laws_toGroupS.f k l0 = some r) :
    Calls Try.prog 56 #[.slice A0 l0.length c0] w fun e w'=>∃ v0_ : Value,e = .returned (v0_) ∧ Kd.S k97 97 w' w.heap.size (fun _=>True) v0_ r ∧ Below w.heap.size w w':=by
  have hu124:=Try.underlying124
  have hu97:=Try.underlying97
  have HR0:=qn.mk hr0
  have HC0:=qn.mk hc0
  clear hr0 hc0
  have HB:=qn.mk (Below.refl w.heap.size w)
  have H : (if 0 ≤ (l0.length : Int) then (if ((l0.length : Int) : Int).toNat ≤ 8796093022208 then (laws_toGroupS.l0 k l0 (List.replicate ((l0.length : Int) : Int).toNat z97) 0) else (none)) else (none)) = some r:=h
  clear h
  by_cases c2 : 0 ≤ (l0.length : Int)
  · rw [if_pos c2] at H
    have c2b0:=eq_true c2
    have c2b1 : decide (0 ≤ (l0.length : Int)) = true:=decide_eq_true c2
    clear c2
    by_cases c3 : ((l0.length : Int) : Int).toNat ≤ 8796093022208
    · rw [if_pos c3] at H
      have c3b0:=eq_true c3
      have c3b1 : decide (((l0.length : Int) : Int).toNat ≤ 8796093022208) = true:=decide_eq_true c3
      clear c3
      obtain ⟨y181,hy181⟩ : ∃ y_ : List (S97),y_ = (List.replicate ((l0.length : Int) : Int).toNat z97):=⟨_,rfl⟩
      replace H : (laws_toGroupS.l0 k l0 y181 0) = some r:=by first|(rw [hy181];with_reducible exact H)|(have H2_:=(Option.bind_some _ _).symm.trans H;rw [hy181];with_reducible exact H2_)|(have H2_:=(Option.bind_some _ _).symm.trans H;with_reducible exact H2_)|with_reducible exact H|(rw [hy181];exact H)|exact H
      have Ny181:=qn.mk hy181
      clear hy181
      have H':=qn.mk H
      clear H
      go_enter Try.func56,Try.ntmps56
      go_wp2_with (first|((with_reducible refine gate_dst (N:=7) rfl ?_);refine Kd.S_make k97 _ 97 rfl (N:=7) rfl 63 _ _ rfl (l0.length : Int) rfl rfl Try.underlying63 (.agg #[(.slice none 0 0),(.int .i64 0)]) 32 info97 rfl (by decide) (by omega) z97 (ok:=fun _=>True) (okp:=fun _=>True) (k97_mkM _ _ _ z97 (Kd.R_nil _ _ _ _ _)) (fun _ hk=>hk) trivial (of_decide_eq_true (by first|(with_reducible assumption)|assumption)) (Nat.le_trans (Nat.mul_le_mul_right _ (of_decide_eq_true (by first|(with_reducible assumption)|assumption) : (l0.length : Int).toNat ≤ 8796093022208)) (by omega)) (Below.refl _ _) (Nat.le_refl _) ?_;intro v182 w4 ho5 hb hg_ hnew_;clear hg_ hnew_;(first|rw [← Ny181.out] at ho5|(simp only [Int.reduceToNat] at ho5;rw [← Ny181.out] at ho5));have n0_:=qn.mk (Kd.S_lower ho5 (qj (by repeat (first|(with_reducible first|exact HB.out|apply qf|apply qa|apply qd)|exact HB.out))));have n1_:=hs_ HB hb;clear HB;have HO183:=n0_;have HB:=n1_;clear n0_ n1_;clear hb ho5))
      go_loopg [4] k (fun kq v4 w'=>∃ (x3_1 : List (S97)) (x4_1 : Int),v4 = .int .i64 x4_1 ∧ qn (laws_toGroupS.l0 kq l0 x3_1 x4_1 = some r) ∧ qn (kq ≤ k) ∧ qn (Kd.S k97 97 w' w.heap.size (fun _=>True) v182 x3_1) ∧ qn (Below w.heap.size w w'))
      case atStart=>exact ⟨(y181),(0),(by first|rfl|(simp;done)|(simp [*];done)),H',⟨Nat.le_refl _⟩,⟨by (with_reducible repeat (first|apply Kd.S_alloc|apply Kd.S_drewN|apply Kd.S_drew));exact HO183.out⟩,⟨by repeat (first|(with_reducible first|exact HB.out|apply qf|apply qa|apply qd)|exact HB.out)⟩⟩
      case round =>
        clear H'
        try clear c2
        try clear c2b0
        try clear c2b1
        try clear p2
        try clear c3
        try clear c3b0
        try clear c3b1
        try clear c5
        obtain ⟨x3_1,x4_1,rfl,HA,HK1,HO_3,HB⟩:=hrel
        cases gk with
        | zero=>exact absurd HA.out (by simp [laws_toGroupS.l0])
        | succ k1 =>
          have H:=HA.out
          clear HA
          simp only [laws_toGroupS.l0] at H
          by_cases c6 : x4_1 < (l0.length : Int)
          · rw [if_pos c6] at H
            have c6b0 : decide (x4_1 < (l0.length : Int)) = true:=decide_eq_true c6
            clear c6
            by_cases c7 : 0 ≤ x4_1
            · rw [if_pos c7] at H
              have c7b0 : decide (0 ≤ x4_1) = true:=decide_eq_true c7
              clear c7
              replace H:=Option.bind_eq_some_iff.mp H
              obtain ⟨⟨t185,t188⟩,A80,H⟩:=H
              replace H : (if x4_1 < (x3_1.length : Int) then (laws_toGroupS.l0 k1 l0 (x3_1.set (x4_1 : Int).toNat (⟨t185,t188⟩ : S97)) (wrap64 (x4_1 + 1))) else (none)) = some r:=H
              have A8:=qn.mk A80
              clear A80
              by_cases c9 : x4_1 < (x3_1.length : Int)
              · rw [if_pos c9] at H
                have c9b0 : decide (x4_1 < (x3_1.length : Int)) = true:=decide_eq_true c9
                clear c9
                obtain ⟨y189,hy189⟩ : ∃ y_ : List (S97),y_ = (x3_1.set (x4_1 : Int).toNat (⟨t185,t188⟩ : S97)):=⟨_,rfl⟩
                replace H : (laws_toGroupS.l0 k1 l0 y189 (wrap64 (x4_1 + 1))) = some r:=by first|(rw [hy189];with_reducible exact H)|(have H2_:=(Option.bind_some _ _).symm.trans H;rw [hy189];with_reducible exact H2_)|(have H2_:=(Option.bind_some _ _).symm.trans H;with_reducible exact H2_)|with_reducible exact H|(rw [hy189];exact H)|exact H
                have Ny189:=qn.mk hy189
                clear hy189
                have H':=qn.mk H
                clear H
                have p184 : 0 ≤ (x4_1 : Int):=of_decide_eq_true (by first|(with_reducible assumption)|assumption)
                have q184 : x4_1 < (l0.length : Int):=of_decide_eq_true (by first|(with_reducible assumption)|assumption)
                obtain ⟨ad184,A184_0,c184_0,e184,hx184_0,hx184_1,hl184_0,hi184_0⟩:=at_T124 HR0.out x4_1 p184 q184
                cases e184
                replace hx184_0:=cb_ HB hx184_0
                replace hx184_1:=cb_ HB hx184_1
                have HR184_0:=qn.mk hi184_0
                have HC184_0:=qn.mk hl184_0
                clear hi184_0 hl184_0
                replace p184:=eq_true p184
                replace q184:=eq_true q184
                go_wp2_with (first|((with_reducible refine gate_callee (f:=77) rfl ?_);refine goesL_ (some 20) rfl rfl Try.func77 (by kernel_rfl) rfl #[.agg #[.slice A184_0 ((rd_T124 l0 x4_1).f0).length c184_0,.int .i64 ((rd_T124 l0 x4_1).f1)]] rfl (by (try simp only [List.map_toArray,List.map_cons,List.map_nil]);first|done|rfl|(simp only [List.length_drop,List.length_take];rfl)) ?_;(with_reducible refine (laws_toGroup.calls k1 _ _ ((rd_T124 l0 x4_1).f0) ((rd_T124 l0 x4_1).f1) t185 t188 _ ?side1 ?side2 A8.out).mono ?_);(case side1=>repeat (first|exact (Kd.C_below HR184_0.out HB.out)|(with_reducible refine Kd.C_alloc ?_ _)|(with_reducible refine Kd.C_drewN ?_ _)|(with_reducible refine Kd.C_drew ?_)));(case side2=>exact HC184_0.out);rintro e w11 ⟨v186,rfl,ho0,hb⟩;refine ⟨_,rfl,?_⟩;obtain ⟨Ao186,co186,eo186⟩:=Kd.R_slice ho0;subst eo186;have n0_:=qn.mk (Kd.S_elder' (by (with_reducible repeat (first|apply Kd.S_alloc|apply Kd.S_drewN|apply Kd.S_drew));exact HO_3.out) (Kd.R_base ho0) hb);have n1_:=qn.mk (Kd.R_lower ho0 (qj (by repeat (first|(with_reducible first|exact HB.out|apply qf|apply qa|apply qd)|exact HB.out))));have n2_:=hs_ HB hb;clear HO_3;clear HB;have HO_3:=n0_;have HO187:=n1_;have HB:=n2_;clear n0_ n1_ n2_;(try clear hb);(try clear hb2);(try clear hk);(try clear hi);(try clear ho0);have p10 : 0 ≤ (x4_1 : Int):=of_decide_eq_true (by first|(with_reducible assumption)|assumption);have q10 : (x4_1 : Int) < ((x3_1.length : Int) : Int):=of_decide_eq_true (by first|(with_reducible assumption)|assumption);obtain ⟨go10,co10,eo10,gb10,gl10,cl10,HG10⟩:=Kd.S_form HO_3.out (by omega);(first|cases eo10|(injection eo10 with ea_ en_ ec_;(first|subst ea_|(injection ea_ with ea_;subst ea_));subst ec_;clear en_));have GB10:=qn.mk gb10;have GG10:=qn.mk HG10;clear gb10 gl10 HG10;obtain ⟨_,ce10,hcl10,hM10,hcc10,hfr10,_,_⟩:=Kd.S_elem HO_3.out z97 (x4_1 : Int) p10 q10;obtain ⟨ve10_0,rfl,ge10_0⟩:=k97_openM hM10;have hx10_0 : w11.cell? ⟨go10,(x4_1 : Int).toNat * 2,none⟩ = some (ve10_0):=hcc10 0 _ rfl;have hx10_1 : w11.cell? ⟨go10,(x4_1 : Int).toNat * 2 + 1,none⟩ = some (.int .i64 ((rd_T97 x3_1 x4_1).f1)):=hcc10 1 _ rfl;have hf10_0 : w11.frozen? ⟨go10,(x4_1 : Int).toNat * 2,none⟩ = false:=hfr10 0;have hf10_1 : w11.frozen? ⟨go10,(x4_1 : Int).toNat * 2 + 1,none⟩ = false:=hfr10 1;clear hcl10 hcc10 hfr10 hM10;replace p10:=eq_true p10;replace q10:=eq_true q10;have n_:=qn.mk (Kd.S_mono (ok':=(fun k_=>some k_ ≠ ((.slice Ao186 t185.length co186) : Value).ownBlock)) HO_3.out (fun k_ hk=>hk.2));clear HO_3;have HO_3:=n_;clear n_;have HX12:=qn.mk (show Kd.S k97 97 w11 w.heap.size (fun k_=>((fun _=>True)) k_ ∧ ¬ ((fun k_=>some k_ = ((.slice Ao186 t185.length co186) : Value).ownBlock)) k_) (.slice (some ⟨go10,0,none⟩) x3_1.length co10) x3_1 from (by (with_reducible repeat (first|apply Kd.S_alloc|apply Kd.S_drewN|apply Kd.S_drew));exact Kd.S_mono HO_3.out (fun k_ hk=>⟨trivial,fun e_=>hk e_⟩)));obtain ⟨oki12,ce12,hcl12,hM12,hcc12,hfr12,hoki12,hH12⟩:=Kd.S_elem HX12.out z97 (x4_1 : Int) (of_decide_eq_true (by first|(with_reducible assumption)|assumption)) (by have h_ : (x4_1 : Int) < ((x3_1.length : Int) : Int):=of_decide_eq_true (by first|(with_reducible assumption)|assumption);first|exact h_|(have e_:=(Kd.S_reads' HO_3.out).1;omega)|simpa using h_);obtain ⟨ve12_0,rfl,ge12_0⟩:=k97_openM hM12;have HP12:=Kd.S_seg hH12 (of_decide_eq_true (by first|(with_reducible assumption)|assumption)) (by have h_ : (x4_1 : Int) < ((x3_1.length : Int) : Int):=of_decide_eq_true (by first|(with_reducible assumption)|assumption);first|exact h_|(have e_:=(Kd.S_reads' HO_3.out).1;omega)|simpa using h_) (seg:=[(.slice Ao186 t185.length co186),.int .i64 t188]) (j:=0) (show 2 ≤ 2 from by decide) (x':=(⟨t185,t188⟩ : S97)) (k97_mkM _ _ _ (⟨t185,t188⟩ : S97) (Kd.R_mono (Kd.R_tight rfl (Kd.R_mono (ok':=fun k_=>((fun _=>True)) k_ ∧ k_ ≠ go10) (Kd.R_apart' (HO187.out) (Kd.S_typed HO_3.out) (by decide)) (fun k_ hk=>⟨trivial,fun e_=>(hk.2) (by rw [e_];rfl)⟩))) (fun _ h_=>Or.inr (h_)))) (fun _ hk=>hk) (fun k_ hk_=>((Kd.R_mono (ok':=fun k_=>((fun _=>True)) k_ ∧ k_ ≠ go10) (Kd.R_apart' (HO187.out) (Kd.S_typed HO_3.out) (by decide)) (fun k_ hk=>⟨trivial,fun e_=>(hk.2) (by rw [e_];rfl)⟩))).1 k_ hk_.symm);have hx12_0:=hcc12 0 _ rfl;(try simp only [show (k97).sz = 2 from rfl,Nat.mul_one,Nat.add_zero] at hx12_0);have hf12_0:=hfr12 0;(try simp only [show (k97).sz = 2 from rfl,Nat.mul_one,Nat.add_zero] at hf12_0);have hx12_1:=hcc12 1 _ rfl;(try simp only [show (k97).sz = 2 from rfl,Nat.mul_one,Nat.add_zero] at hx12_1);have hf12_1:=hfr12 1;(try simp only [show (k97).sz = 2 from rfl,Nat.mul_one,Nat.add_zero] at hf12_1);clear hcl12 hcc12 hfr12 hM12 hoki12 hH12)|((with_reducible refine gate_store (t:=97) (p:=21) rfl ?_);refine store_event (t:=97) (p:=21) (v:=?vo_w13) (w1:=((w11.setCell ⟨go10,(x4_1 : Int).toNat * 2,none⟩ ((.slice Ao186 t185.length co186))).setCell ⟨go10,(x4_1 : Int).toNat * 2 + 1,none⟩ (.int .i64 t188))) ?hg ?ho ?hn ?hr ?_;(case ho=>rfl);(case hg=>rfl);(case hn=>rfl);(case hr=>first|(go_simp;done)|(go_simp;rfl));intro w13 hw;have hg : w11.grownBy w13 (some go10):=(by rw [hw];exact HP12.2);have hp_ : Kd.S k97 97 w13 w.heap.size (fun _=>True) (.slice (some ⟨go10,0,none⟩) x3_1.length co10) y189:=(by rw [hw,Ny189.out];exact HP12.1);clear HP12;have n0_:=qn.mk (hp_);have n1_:=qn.mk ((by rw [hw];exact qg (qg (HB.out) GB10.out) GB10.out : Below w.heap.size w w13));clear HO_3;clear HB;clear HO187;have HO_3:=n0_;have HB:=n1_;clear n0_ n1_;clear hg hw hp_))
                go_roundg k1
                case measure=>have:=HK1.out;omega
                case rel=>exact ⟨(y189),(wrap64 (x4_1 + 1)),(by first|rfl|(simp;done)|(simp [*];done)),H',⟨by have:=HK1.out;omega⟩,⟨by (with_reducible repeat (first|apply Kd.S_alloc|apply Kd.S_drewN|apply Kd.S_drew));exact HO_3.out⟩,⟨by repeat (first|(with_reducible first|exact HB.out|apply qf|apply qa|apply qd)|exact HB.out)⟩⟩
              · rw [if_neg c9] at H
                exact absurd H (by simp)
            · rw [if_neg c7] at H
              exact absurd H (by simp)
          · rw [if_neg c6] at H
            have c6b0 : decide (x4_1 < (l0.length : Int)) = false:=decide_eq_false c6
            clear c6
            obtain rfl:=Option.some.inj H
            go_wp2
            go_ret
            exact ⟨_,by first|rfl|(simp [errW_none,errW_some] <;> rfl)|(simp [*,errW_none,errW_some] <;> rfl),by (with_reducible repeat (first|apply Kd.S_alloc|apply Kd.S_drewN|apply Kd.S_drew));exact HO_3.out,by repeat (first|(with_reducible first|exact HB.out|apply qf|apply qa|apply qd)|exact HB.out)⟩
    · rw [if_neg c3] at H
      exact absurd H (by simp)
  · rw [if_neg c2] at H
    exact absurd H (by simp)

/-! ### laws_toProof: function 22 -/
def laws_toProof.f (k : Nat) (l0_0 : List Int) (l0_1 : List (S124)) : Option (List Int × (List (S97))):=(laws_toIntS.f k l0_0).bind fun t193=>((laws_toGroupS.f k l0_1).bind fun t196=>(some (t193,t196)))
theorem laws_toProof.mono : ∀ a0 a1 k,LeO (laws_toProof.f k a0 a1) (laws_toProof.f (k + 1) a0 a1):=by
  intro a0 a1 k
  unfold laws_toProof.f
  repeat' first
      | (with_reducible exact laws_toGroupS.mono _ _)
      | (with_reducible exact laws_toIntS.mono _ _)
      | (with_reducible exact LeO.refl _)
      | (with_reducible exact LeO.none _)
      | (with_reducible refine LeO.ite ?_ ?_)
      | (with_reducible refine LeO.bind ?_ (fun _=>?_))
      | exact laws_toGroupS.mono _ _
      | exact laws_toIntS.mono _ _
      | exact LeO.none _
      | refine LeO.ite ?_ ?_
      | refine LeO.bind ?_ (fun _=>?_)
set_option maxHeartbeats 8000000 in
set_option maxRecDepth 100000 in
theorem laws_toProof.calls (k : Nat) (A0_0 : Option Addr) (c0_0 : Nat) (l0_0 : List Int) (A0_1 : Option Addr) (c0_1 : Nat) (l0_1 : List (S124)) (r1 : List Int) (r2 : List (S97)) (w : World) (hr0_0 : Kd.C (Kd.int .i64) w A0_0 l0_0.length l0_0) (hc0_0 : l0_0.length ≤ c0_0) (hr0_1 : Kd.C k124 w A0_1 l0_1.length l0_1) (hc0_1 : l0_1.length ≤ c0_1) (h : laws_toProof.f k l0_0 l0_1 = some (r1,r2)) :
    Calls Try.prog 22 #[.agg #[.slice A0_0 l0_0.length c0_0,.slice A0_1 l0_1.length c0_1]] w fun e w'=>∃ v0_ v1_ : Value,e = .returned (.agg #[v0_,v1_]) ∧ Kd.R (Kd.int .i64) 3 w' w.heap.size (fun _=>True) v0_ r1 ∧ Kd.S k97 97 w' w.heap.size (fun k_=>some k_ ≠ (v0_ : Value).ownBlock) v1_ r2 ∧ Below w.heap.size w w':=by
  have hu55:=Try.underlying55
  have hu65:=Try.underlying65
  have HR0_0:=qn.mk hr0_0
  have HC0_0:=qn.mk hc0_0
  clear hr0_0 hc0_0
  have HR0_1:=qn.mk hr0_1
  have HC0_1:=qn.mk hc0_1
  clear hr0_1 hc0_1
  have HB:=qn.mk (Below.refl w.heap.size w)
  have H : ((laws_toIntS.f k l0_0).bind fun t193=>((laws_toGroupS.f k l0_1).bind fun t196=>(some (t193,t196)))) = some (r1,r2):=h
  clear h
  replace H:=Option.bind_eq_some_iff.mp H
  obtain ⟨t193,A20,H⟩:=H
  replace H : ((laws_toGroupS.f k l0_1).bind fun t196=>(some (t193,t196))) = some (r1,r2):=H
  have A2:=qn.mk A20
  clear A20
  replace H:=Option.bind_eq_some_iff.mp H
  obtain ⟨t196,A30,H⟩:=H
  replace H : (some (t193,t196)) = some (r1,r2):=H
  have A3:=qn.mk A30
  clear A30
  simp only [Option.some.injEq,Prod.mk.injEq] at H
  obtain ⟨rfl,rfl⟩:=H
  go_enter Try.func22,Try.ntmps22
  go_wp2_with (first|((with_reducible refine gate_dst (N:=1) rfl ?_);refine box_event ?hg (N:=1) ?hd (cs:=#[.slice A0_0 l0_0.length c0_0,.slice A0_1 l0_1.length c0_1]) (t:=55) ?hr ?_;(case hd=>rfl);(case hg=>rfl);(case hr=>first|(go_simp;done)|(go_simp;rfl));intro gb190 hg w4 hbox hb;have n0_:=hs_ HB hb;have n1_:=qn.mk (hbox);have n2_:=qn.mk ((by rw [hg];exact (qj (by repeat (first|(with_reducible first|exact HB.out|apply qf|apply qa|apply qd)|exact HB.out))) : w.heap.size ≤ gb190));have n3_:=qn.mk ((by rw [hg];exact (qj (by repeat (first|(with_reducible first|exact HB.out|apply qf|apply qa|apply qd)|exact HB.out))) : w.heap.size ≤ gb190));clear HB;have HB:=n0_;have BK190:=n1_;have GW190:=n2_;have GE190:=n3_;clear n0_ n1_ n2_ n3_;clear hb hbox hg)|((with_reducible refine gate_dst (N:=2) rfl ?_);refine box_event ?hg (N:=2) ?hd (cs:=#[.slice none 0 0,.slice none 0 0]) (t:=65) ?hr ?_;(case hd=>rfl);(case hg=>rfl);(case hr=>first|(go_simp;done)|(go_simp;rfl));intro gb191 hg w5 hbox hb;have n0_:=bb_ BK190 hb;have n1_:=hs_ HB hb;have n2_:=qn.mk (hbox);have n3_:=qn.mk ((by rw [hg];exact (qj (by repeat (first|(with_reducible first|exact HB.out|apply qf|apply qa|apply qd|refine qg ?_ GE190.out)|exact HB.out))) : w.heap.size ≤ gb191));have n4_:=qn.mk ((by rw [hg];exact (qj (by repeat (first|(with_reducible first|exact HB.out|apply qf|apply qa|apply qd|refine qg ?_ GE190.out)|exact HB.out))) : w.heap.size ≤ gb191));have n5_:=qn.mk ((by rw [hg];exact nl_ BK190 : gb190 ≠ gb191));have n6_:=qn.mk ((by rw [hg];exact ng_ BK190 : gb191 ≠ gb190));clear BK190;clear HB;have BK190:=n0_;have HB:=n1_;have BK191:=n2_;have GW191:=n3_;have GE191:=n4_;have NB190_191:=n5_;have NB191_190:=n6_;clear n0_ n1_ n2_ n3_ n4_ n5_ n6_;clear hb hbox hg)|((with_reducible refine gate_dst (N:=3) rfl ?_);refine box_event ?hg (N:=3) ?hd (cs:=#[.slice none 0 0,.slice none 0 0]) (t:=65) ?hr ?_;(case hd=>rfl);(case hg=>rfl);(case hr=>first|(go_simp;done)|(go_simp;rfl));intro gb192 hg w6 hbox hb;have n0_:=bb_ BK190 hb;have n1_:=bb_ BK191 hb;have n2_:=hs_ HB hb;have n3_:=qn.mk (hbox);have n4_:=qn.mk ((by rw [hg];exact (qj (by repeat (first|(with_reducible first|exact HB.out|apply qf|apply qa|apply qd|refine qg ?_ GE190.out|refine qg ?_ GE191.out)|exact HB.out))) : w.heap.size ≤ gb192));have n5_:=qn.mk ((by rw [hg];exact (qj (by repeat (first|(with_reducible first|exact HB.out|apply qf|apply qa|apply qd|refine qg ?_ GE190.out|refine qg ?_ GE191.out)|exact HB.out))) : w.heap.size ≤ gb192));have n6_:=qn.mk ((by rw [hg];exact nl_ BK190 : gb190 ≠ gb192));have n7_:=qn.mk ((by rw [hg];exact ng_ BK190 : gb192 ≠ gb190));have n8_:=qn.mk ((by rw [hg];exact nl_ BK191 : gb191 ≠ gb192));have n9_:=qn.mk ((by rw [hg];exact ng_ BK191 : gb192 ≠ gb191));clear BK190;clear BK191;clear HB;have BK190:=n0_;have BK191:=n1_;have HB:=n2_;have BK192:=n3_;have GW192:=n4_;have GE192:=n5_;have NB190_192:=n6_;have NB192_190:=n7_;have NB191_192:=n8_;have NB192_191:=n9_;clear n0_ n1_ n2_ n3_ n4_ n5_ n6_ n7_ n8_ n9_;clear hb hbox hg;have hnb7:=NB190_191.out;have hnc7:=NB191_190.out;have hnb8:=NB190_192.out;have hnc8:=NB192_190.out;have hcz9_0 : w6.cell? ⟨gb190,0,none⟩ = some (.slice A0_0 l0_0.length c0_0):=(qh BK190.out 0).trans rfl;have hcz9_1 : w6.cell? ⟨gb190,1,none⟩ = some (.slice A0_1 l0_1.length c0_1):=(qh BK190.out 1).trans rfl;have hfz9_0:=qi BK190.out 0;have hfz9_1:=qi BK190.out 1)|((with_reducible refine gate_callee (f:=55) rfl ?_);refine goesL_ (some 6) rfl rfl Try.func55 (by kernel_rfl) rfl #[.slice A0_0 l0_0.length c0_0] rfl (by (try simp only [List.map_toArray,List.map_cons,List.map_nil]);first|done|rfl|(simp only [List.length_drop,List.length_take];rfl)) ?_;(with_reducible refine (laws_toIntS.calls k _ _ l0_0 t193 _ ?side1 ?side2 A2.out).mono ?_);(case side1=>repeat (first|exact (Kd.C_below HR0_0.out HB.out)|(with_reducible refine Kd.C_alloc ?_ _)|(with_reducible refine Kd.C_drewN ?_ _)|(with_reducible refine Kd.C_drew ?_)));(case side2=>exact HC0_0.out);rintro e w10 ⟨v194,rfl,ho0,hb⟩;refine ⟨_,rfl,?_⟩;have n0_:=qn.mk (Kd.R_lower ho0 (qj (by repeat (first|(with_reducible first|exact HB.out|apply qf|apply qa|apply qd|refine qg ?_ GE190.out|refine qg ?_ GE191.out|refine qg ?_ GE192.out)|exact HB.out))));have n1_:=bb_ BK190 hb;have n2_:=bb_ BK191 hb;have n3_:=bb_ BK192 hb;have n4_:=hs_ HB hb;clear BK190;clear BK191;clear BK192;clear HB;have HO195:=n0_;have BK190:=n1_;have BK191:=n2_;have BK192:=n3_;have HB:=n4_;clear n0_ n1_ n2_ n3_ n4_;(try clear hb);(try clear hb2);(try clear hk);(try clear hi);(try clear ho0);obtain ⟨Ao11,co11,eo11⟩:=Kd.R_slice HO195.out;subst eo11;have hnb12:=NB192_191.out;have hnc12:=NB191_192.out;have hcz13_0 : w10.cell? ⟨gb192,0,none⟩ = some (.slice none 0 0):=(qh BK192.out 0).trans rfl;have hcz13_1 : w10.cell? ⟨gb192,1,none⟩ = some (.slice none 0 0):=(qh BK192.out 1).trans rfl;have hfz13_0:=qi BK192.out 0;have hfz13_1:=qi BK192.out 1;have hcz14_0 : w10.cell? ⟨gb190,0,none⟩ = some (.slice A0_0 l0_0.length c0_0):=(qh BK190.out 0).trans rfl;have hcz14_1 : w10.cell? ⟨gb190,1,none⟩ = some (.slice A0_1 l0_1.length c0_1):=(qh BK190.out 1).trans rfl;have hfz14_0:=qi BK190.out 0;have hfz14_1:=qi BK190.out 1)|((with_reducible refine gate_callee (f:=56) rfl ?_);refine goesL_ (some 10) rfl rfl Try.func56 (by kernel_rfl) rfl #[.slice A0_1 l0_1.length c0_1] rfl (by (try simp only [List.map_toArray,List.map_cons,List.map_nil]);first|done|rfl|(simp only [List.length_drop,List.length_take];rfl)) ?_;(with_reducible refine (laws_toGroupS.calls k _ _ l0_1 t196 _ ?side1 ?side2 A3.out).mono ?_);(case side1=>exact Kd.C_below HR0_1.out (by repeat (first|(with_reducible first|exact HB.out|apply qf|apply qa|apply qd|refine qg ?_ GE190.out|refine qg ?_ GE191.out|refine qg ?_ GE192.out)|exact HB.out)));(case side2=>exact HC0_1.out);rintro e w15 ⟨v197,rfl,ho0,hb⟩;refine ⟨_,rfl,?_⟩;have n0_:=qn.mk (Kd.R_below (by (with_reducible repeat (first|apply Kd.R_alloc|apply Kd.R_drewN|apply Kd.R_drew));exact (Kd.R_mono (Kd.R_far (p:=⟨gb192,0,none⟩) (Kd.R_types HO195.out BK192.out (by decide)) (fun _ hk=>hk.2) (.slice Ao11 t193.length co11)) (fun _ h_=>h_.1))) hb);have n1_:=qn.mk (Kd.S_lower (Kd.S_new' ho0 (Kd.R_lt (by (with_reducible repeat (first|apply Kd.R_alloc|apply Kd.R_drewN|apply Kd.R_drew));exact (Kd.R_mono (Kd.R_far (p:=⟨gb192,0,none⟩) (Kd.R_types HO195.out BK192.out (by decide)) (fun _ hk=>hk.2) (.slice Ao11 t193.length co11)) (fun _ h_=>h_.1))))) (qj (by repeat (first|(with_reducible first|exact HB.out|apply qf|apply qa|apply qd|refine qg ?_ GE190.out|refine qg ?_ GE191.out|refine qg ?_ GE192.out)|exact HB.out))));have n2_:=qn.mk (ql (g:=gb190) (o:=.cells #[.slice A0_0 l0_0.length c0_0,.slice A0_1 l0_1.length c0_1] 55 (0,0)) (by (with_reducible repeat (first|refine qb ?_ _|refine qe ?_|refine qc ?_ _));refine blk_far ?_ NB190_192.out _;(with_reducible repeat (first|refine qb ?_ _|refine qe ?_|refine qc ?_ _));exact BK190.out) hb);have n3_:=qn.mk (ql (g:=gb191) (o:=.cells #[.slice none 0 0,.slice none 0 0] 65 (0,0)) (by (with_reducible repeat (first|refine qb ?_ _|refine qe ?_|refine qc ?_ _));refine blk_far ?_ NB191_192.out _;(with_reducible repeat (first|refine qb ?_ _|refine qe ?_|refine qc ?_ _));exact BK191.out) hb);have n4_:=qn.mk (ql (g:=gb192) (o:=.cells #[.slice Ao11 t193.length co11,.slice none 0 0] 65 (0,0)) (by (with_reducible repeat (first|refine qb ?_ _|refine qe ?_|refine qc ?_ _));refine blk_put (cs:=#[.slice none 0 0,.slice none 0 0]) ?_ 0 _ rfl;(with_reducible repeat (first|refine qb ?_ _|refine qe ?_|refine qc ?_ _));exact BK192.out) hb);have n5_:=hs_ HB hb;clear HO195;clear BK190;clear BK191;clear BK192;clear HB;have HO195:=n0_;have HO198:=n1_;have BK190:=n2_;have BK191:=n3_;have BK192:=n4_;have HB:=n5_;clear n0_ n1_ n2_ n3_ n4_ n5_;(try clear hb);(try clear hb2);(try clear hk);(try clear hi);(try clear ho0);obtain ⟨Ao16,co16,eo16⟩:=Kd.S_slice HO198.out;subst eo16;have hcz17_0 : w15.cell? ⟨gb192,0,none⟩ = some (.slice Ao11 t193.length co11):=(qh BK192.out 0).trans rfl;have hcz17_1 : w15.cell? ⟨gb192,1,none⟩ = some (.slice none 0 0):=(qh BK192.out 1).trans rfl;have hfz17_0:=qi BK192.out 0;have hfz17_1:=qi BK192.out 1;have hcz18_0 : w15.cell? ⟨gb191,0,none⟩ = some (.slice none 0 0):=(qh BK191.out 0).trans rfl;have hcz18_1 : w15.cell? ⟨gb191,1,none⟩ = some (.slice none 0 0):=(qh BK191.out 1).trans rfl;have hfz18_0:=qi BK191.out 0;have hfz18_1:=qi BK191.out 1))
  refine bodyPost_ret (results_cell_row rfl _ _ gb191 65 #[.slice Ao11 t193.length co11,.slice Ao16 t196.length co16] (0,0) _ rfl (by (with_reducible repeat (first|refine qb ?_ _|refine qe ?_|refine qc ?_ _));refine blk_put (cs:=#[.slice Ao11 t193.length co11,.slice none 0 0]) ?_ 1 _ rfl;(with_reducible repeat (first|refine qb ?_ _|refine qe ?_|refine qc ?_ _));refine blk_put (cs:=#[.slice none 0 0,.slice none 0 0]) ?_ 0 _ rfl;(with_reducible repeat (first|refine qb ?_ _|refine qe ?_|refine qc ?_ _));refine blk_far ?_ NB191_192.out _;(with_reducible repeat (first|refine qb ?_ _|refine qe ?_|refine qc ?_ _));exact BK191.out) Try.underlying65 rfl (by kernel_rfl)) rfl ?_
  exact ⟨_,_,by first|rfl|(simp [errW_none,errW_some] <;> rfl)|(simp [*,errW_none,errW_some] <;> rfl),by (with_reducible repeat (first|apply Kd.R_alloc|apply Kd.R_drewN|apply Kd.R_drew));exact Kd.R_mono (Kd.R_far (p:=⟨gb191,1,none⟩) (Kd.R_far (p:=⟨gb191,0,none⟩) (Kd.R_far (p:=⟨gb192,1,none⟩) (Kd.R_types (Kd.R_types HO195.out BK192.out (by decide)) BK191.out (by decide)) (fun _ hk=>hk.1.2) (.slice Ao16 t196.length co16)) (fun _ hk=>hk.2) (.slice Ao11 t193.length co11)) (fun _ hk=>hk.2) (.slice Ao16 t196.length co16)) (fun _ hk=>trivial),by (with_reducible repeat (first|apply Kd.S_alloc|apply Kd.S_drewN|apply Kd.S_drew));exact Kd.S_mono (Kd.S_far (p:=⟨gb191,1,none⟩) (Kd.S_far (p:=⟨gb191,0,none⟩) (Kd.S_far (p:=⟨gb192,1,none⟩) (Kd.S_types (Kd.S_types HO198.out BK192.out (by decide)) BK191.out (by decide)) (fun _ hk=>hk.1.2) (.slice Ao16 t196.length co16)) (fun _ hk=>hk.2) (.slice Ao11 t193.length co11)) (fun _ hk=>hk.2) (.slice Ao16 t196.length co16)) (fun _ hk=>hk.1.1.2),by repeat (first|(with_reducible first|exact HB.out|apply qf|apply qa|apply qd|refine qg ?_ GE190.out|refine qg ?_ GE191.out|refine qg ?_ GE192.out)|exact HB.out)⟩

/-! ### impl_in: function 28 -/
def impl_in.f (a0 : Int) (a1 : Int) (a2 : Int) : Option (Bool):=if a0 ≥ a1 then (some (decide (a0 ≤ a2))) else (some false)
set_option maxHeartbeats 8000000 in
set_option maxRecDepth 100000 in
theorem impl_in.calls (a0 : Int) (a1 : Int) (a2 : Int) (r : Bool) (w : World) (h : impl_in.f a0 a1 a2 = some r) :
    Calls Try.prog 28 #[.int .i64 a0,.int .i64 a1,.int .i64 a2] w fun e w'=>e = .returned (.bool r) ∧ Drawn0 w w':=by
  have H : (if a0 ≥ a1 then (some (decide (a0 ≤ a2))) else (some false)) = some r:=h
  clear h
  by_cases c4 : a0 ≥ a1
  · rw [if_pos c4] at H
    have c4b0 : decide (a1 ≤ a0) = true:=decide_eq_true c4
    clear c4
    obtain rfl:=Option.some.inj H
    go_enter Try.func28,Try.ntmps28
    go_wp2
    go_ret
    exact ⟨by first|rfl|(simp;done)|(simp [*];done),by repeat (first|exact Drawn0.refl _|apply Drawn0.step)⟩
  · rw [if_neg c4] at H
    have c4b0 : decide (a1 ≤ a0) = false:=decide_eq_false c4
    clear c4
    obtain rfl:=Option.some.inj H
    go_enter Try.func28,Try.ntmps28
    go_wp2
    go_ret
    exact ⟨by first|rfl|(simp;done)|(simp [*];done),by repeat (first|exact Drawn0.refl _|apply Drawn0.step)⟩

end Go.Proofs.Ytcdofljgeiohgaa.QFnExactProofOk
