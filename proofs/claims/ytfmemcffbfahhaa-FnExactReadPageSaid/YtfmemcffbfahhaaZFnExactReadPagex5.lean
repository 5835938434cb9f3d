/- Lean functions for the Go functions that the law FnExactReadPage reaches, and that each Go function comes to just its Lean function's answer; by a program of this session. -/
import Derived.Test.YtfmemcffbfahhaaZFnExactReadPagex0
import Derived.Test.YtfmemcffbfahhaaZFnExactReadPagex2
import Derived.Test.YtfmemcffbfahhaaZFnExactReadPagex3
import Derived.Test.YtfmemcffbfahhaaZFnExactReadPagex4
namespace Go.Proofs.Ytfmemcffbfahhaa.QFnExactReadPage
open Go.RowKit Go.Proofs.YtfmemcffbfahhaaW.PrintWords Go.Proofs.YtfmemcffbfahhaaW.PrintLast Go.Proofs.YtfmemcffbfahhaaW.PrintMore
attribute [local go_sem] max2_int min2_int max_two min_two max_three min_three max_four min_four   -- for this text's walks alone
set_option linter.unusedVariables false
set_option linter.unusedSimpArgs false

/-! ### spec_ReadPage: function 25 -/
mutual
def spec_ReadPage.j0 : Nat → ByteArray → ByteArray → Bool → Option (Int × (List (S61)) × Bool)
  | 0,_,_,_=>none
  | k + 1,x0,x4,x34=>if x34 = true then (some (0,([] : List (S61)),false)) else (if 0 < (x4.size : Int) then ((spec_ReadVar.f k x4 1).bind fun bt158=>(spec_ReadPage.l0 k x0 x4 bt158.1 bt158.2.1 bt158.2.2 0 (wrap64 (bt x4 0)) ([] : List (S61)))) else (none))
def spec_ReadPage.l0 : Nat → ByteArray → ByteArray → Int → Int → Bool → Int → Int → List (S61) → Option (Int × (List (S61)) × Bool)
  | 0,_,_,_,_,_,_,_,_=>none
  | k + 1,x0,x4,x7,x8,x9,x10,x158000,x158001=>if x10 < x7 then (spec_ReadPage.j2 k x0 x4 x7 x8 x9 x10 x9 x158000 x158001) else (spec_ReadPage.j2 k x0 x4 x7 x8 x9 x10 false x158000 x158001)
def spec_ReadPage.j2 : Nat → ByteArray → ByteArray → Int → Int → Bool → Int → Bool → Int → List (S61) → Option (Int × (List (S61)) × Bool)
  | 0,_,_,_,_,_,_,_,_,_=>none
  | k + 1,x0,x4,x7,x8,x9,x10,x51,x158000,x158001=>if x51 = true then ((spec_ReadShort.f k x4 x8).bind fun bt164=>(if bt164.2.2 = true then (spec_ReadPage.j3 k x0 x4 x7 x8 bt164.2.2 x10 bt164.2.1 (x158000 == 1) x158000 x158001 bt164.1 (⟨#[]⟩ : ByteArray) 0) else (spec_ReadPage.j3 k x0 x4 x7 x8 bt164.2.2 x10 bt164.2.1 false x158000 x158001 bt164.1 (⟨#[]⟩ : ByteArray) 0))) else ((spec_PageText.f k x158000 x158001).bind fun bt161=>(if x9 = true then (if bt161.2 = true then (if bt161.1.toList = x0.toList then (some (x158000,x158001,true)) else (some (0,([] : List (S61)),false))) else (some (0,([] : List (S61)),false))) else (some (0,([] : List (S61)),false))))
def spec_ReadPage.j3 : Nat → ByteArray → ByteArray → Int → Int → Bool → Int → Int → Bool → Int → List (S61) → ByteArray → ByteArray → Int → Option (Int × (List (S61)) × Bool)
  | 0,_,_,_,_,_,_,_,_,_,_,_,_,_=>none
  | k + 1,x0,x4,x7,x8,x9,x10,x13,x70,x158000,x158001,x164000,x164001,x164002=>if x70 = true then ((spec_ReadShort.f k x4 x13).bind fun bt167=>(if x158001.length < 3518437208883 then (spec_ReadPage.l0 k x0 x4 x7 bt167.2.1 bt167.2.2 (wrap64 (x10 + 1)) x158000 (x158001 ++ [(⟨x164000,bt167.1,x164002⟩ : S61)])) else (none))) else (if x9 = true then ((spec_ReadVar.f k x4 x13).bind fun bt173=>(if x158001.length < 3518437208883 then (spec_ReadPage.l0 k x0 x4 x7 bt173.2.1 bt173.2.2 (wrap64 (x10 + 1)) x158000 (x158001 ++ [(⟨x164000,x164001,bt173.1⟩ : S61)])) else (none))) else (if x158001.length < 3518437208883 then (spec_ReadPage.l0 k x0 x4 x7 x8 x9 (wrap64 (x10 + 1)) x158000 (x158001 ++ [(⟨x164000,x164001,x164002⟩ : S61)])) else (none)))
end
def spec_ReadPage.f (k : Nat) (a0 : ByteArray) : Option (Int × (List (S61)) × Bool):=(spec_Unsealed.f k a0).bind fun bt155=>(if bt155.2 = true then (spec_ReadPage.j0 k a0 bt155.1 (decide ((bt155.1.size : Int) < 2))) else (spec_ReadPage.j0 k a0 bt155.1 true))
theorem spec_ReadPage.mono_l : ∀ k,(∀ y0 y1 y2,LeO (spec_ReadPage.j0 k y0 y1 y2) (spec_ReadPage.j0 (k + 1) y0 y1 y2)) ∧ (∀ y0 y1 y2 y3 y4 y5 y6 y7,LeO (spec_ReadPage.l0 k y0 y1 y2 y3 y4 y5 y6 y7) (spec_ReadPage.l0 (k + 1) y0 y1 y2 y3 y4 y5 y6 y7)) ∧ (∀ y0 y1 y2 y3 y4 y5 y6 y7 y8,LeO (spec_ReadPage.j2 k y0 y1 y2 y3 y4 y5 y6 y7 y8) (spec_ReadPage.j2 (k + 1) y0 y1 y2 y3 y4 y5 y6 y7 y8)) ∧ (∀ y0 y1 y2 y3 y4 y5 y6 y7 y8 y9 y10 y11 y12,LeO (spec_ReadPage.j3 k y0 y1 y2 y3 y4 y5 y6 y7 y8 y9 y10 y11 y12) (spec_ReadPage.j3 (k + 1) y0 y1 y2 y3 y4 y5 y6 y7 y8 y9 y10 y11 y12))
  | 0=>⟨fun _ _ _ r h=>by simp [spec_ReadPage.j0] at h,fun _ _ _ _ _ _ _ _ r h=>by simp [spec_ReadPage.l0] at h,fun _ _ _ _ _ _ _ _ _ r h=>by simp [spec_ReadPage.j2] at h,fun _ _ _ _ _ _ _ _ _ _ _ _ _ r h=>by simp [spec_ReadPage.j3] at h⟩
  | k + 1=>by
    obtain ⟨ih0,ih1,ih2,ih3⟩:=spec_ReadPage.mono_l k
    refine ⟨?_,?_,?_,?_⟩
    · intro y0 y1 y2
      unfold spec_ReadPage.j0
      repeat' first
      | (with_reducible exact ih0 _ _ _)
      | (with_reducible exact ih1 _ _ _ _ _ _ _ _)
      | (with_reducible exact ih2 _ _ _ _ _ _ _ _ _)
      | (with_reducible exact ih3 _ _ _ _ _ _ _ _ _ _ _ _ _)
      | (with_reducible exact spec_PageText.mono _ _ _)
      | (with_reducible exact spec_ReadShort.mono _ _ _)
      | (with_reducible exact spec_ReadVar.mono _ _ _)
      | (with_reducible exact spec_Unsealed.mono _ _)
      | (with_reducible exact LeO.refl _)
      | (with_reducible exact LeO.none _)
      | (with_reducible refine LeO.ite ?_ ?_)
      | (with_reducible refine LeO.bind ?_ (fun _=>?_))
      | exact ih0 _ _ _
      | exact ih1 _ _ _ _ _ _ _ _
      | exact ih2 _ _ _ _ _ _ _ _ _
      | exact ih3 _ _ _ _ _ _ _ _ _ _ _ _ _
      | exact spec_PageText.mono _ _ _
      | exact spec_ReadShort.mono _ _ _
      | exact spec_ReadVar.mono _ _ _
      | exact spec_Unsealed.mono _ _
      | exact LeO.none _
      | refine LeO.ite ?_ ?_
      | refine LeO.bind ?_ (fun _=>?_)
    · intro y0 y1 y2 y3 y4 y5 y6 y7
      unfold spec_ReadPage.l0
      repeat' first
      | (with_reducible exact ih0 _ _ _)
      | (with_reducible exact ih1 _ _ _ _ _ _ _ _)
      | (with_reducible exact ih2 _ _ _ _ _ _ _ _ _)
      | (with_reducible exact ih3 _ _ _ _ _ _ _ _ _ _ _ _ _)
      | (with_reducible exact spec_PageText.mono _ _ _)
      | (with_reducible exact spec_ReadShort.mono _ _ _)
      | (with_reducible exact spec_ReadVar.mono _ _ _)
      | (with_reducible exact spec_Unsealed.mono _ _)
      | (with_reducible exact LeO.refl _)
      | (with_reducible exact LeO.none _)
      | (with_reducible refine LeO.ite ?_ ?_)
      | (with_reducible refine LeO.bind ?_ (fun _=>?_))
      | exact ih0 _ _ _
      | exact ih1 _ _ _ _ _ _ _ _
      | exact ih2 _ _ _ _ _ _ _ _ _
      | exact ih3 _ _ _ _ _ _ _ _ _ _ _ _ _
      | exact spec_PageText.mono _ _ _
      | exact spec_ReadShort.mono _ _ _
      | exact spec_ReadVar.mono _ _ _
      | exact spec_Unsealed.mono _ _
      | exact LeO.none _
      | refine LeO.ite ?_ ?_
      | refine LeO.bind ?_ (fun _=>?_)
    · intro y0 y1 y2 y3 y4 y5 y6 y7 y8
      unfold spec_ReadPage.j2
      repeat' first
      | (with_reducible exact ih0 _ _ _)
      | (with_reducible exact ih1 _ _ _ _ _ _ _ _)
      | (with_reducible exact ih2 _ _ _ _ _ _ _ _ _)
      | (with_reducible exact ih3 _ _ _ _ _ _ _ _ _ _ _ _ _)
      | (with_reducible exact spec_PageText.mono _ _ _)
      | (with_reducible exact spec_ReadShort.mono _ _ _)
      | (with_reducible exact spec_ReadVar.mono _ _ _)
      | (with_reducible exact spec_Unsealed.mono _ _)
      | (with_reducible exact LeO.refl _)
      | (with_reducible exact LeO.none _)
      | (with_reducible refine LeO.ite ?_ ?_)
      | (with_reducible refine LeO.bind ?_ (fun _=>?_))
      | exact ih0 _ _ _
      | exact ih1 _ _ _ _ _ _ _ _
      | exact ih2 _ _ _ _ _ _ _ _ _
      | exact ih3 _ _ _ _ _ _ _ _ _ _ _ _ _
      | exact spec_PageText.mono _ _ _
      | exact spec_ReadShort.mono _ _ _
      | exact spec_ReadVar.mono _ _ _
      | exact spec_Unsealed.mono _ _
      | exact LeO.none _
      | refine LeO.ite ?_ ?_
      | refine LeO.bind ?_ (fun _=>?_)
    · intro y0 y1 y2 y3 y4 y5 y6 y7 y8 y9 y10 y11 y12
      unfold spec_ReadPage.j3
      repeat' first
      | (with_reducible exact ih0 _ _ _)
      | (with_reducible exact ih1 _ _ _ _ _ _ _ _)
      | (with_reducible exact ih2 _ _ _ _ _ _ _ _ _)
      | (with_reducible exact ih3 _ _ _ _ _ _ _ _ _ _ _ _ _)
      | (with_reducible exact spec_PageText.mono _ _ _)
      | (with_reducible exact spec_ReadShort.mono _ _ _)
      | (with_reducible exact spec_ReadVar.mono _ _ _)
      | (with_reducible exact spec_Unsealed.mono _ _)
      | (with_reducible exact LeO.refl _)
      | (with_reducible exact LeO.none _)
      | (with_reducible refine LeO.ite ?_ ?_)
      | (with_reducible refine LeO.bind ?_ (fun _=>?_))
      | exact ih0 _ _ _
      | exact ih1 _ _ _ _ _ _ _ _
      | exact ih2 _ _ _ _ _ _ _ _ _
      | exact ih3 _ _ _ _ _ _ _ _ _ _ _ _ _
      | exact spec_PageText.mono _ _ _
      | exact spec_ReadShort.mono _ _ _
      | exact spec_ReadVar.mono _ _ _
      | exact spec_Unsealed.mono _ _
      | exact LeO.none _
      | refine LeO.ite ?_ ?_
      | refine LeO.bind ?_ (fun _=>?_)
theorem spec_ReadPage.mono : ∀ a0 k,LeO (spec_ReadPage.f k a0) (spec_ReadPage.f (k + 1) a0):=by
  intro a0 k
  obtain ⟨ih0,ih1,ih2,ih3⟩:=spec_ReadPage.mono_l k
  unfold spec_ReadPage.f
  repeat' first
      | (with_reducible exact ih0 _ _ _)
      | (with_reducible exact ih1 _ _ _ _ _ _ _ _)
      | (with_reducible exact ih2 _ _ _ _ _ _ _ _ _)
      | (with_reducible exact ih3 _ _ _ _ _ _ _ _ _ _ _ _ _)
      | (with_reducible exact spec_PageText.mono _ _ _)
      | (with_reducible exact spec_ReadShort.mono _ _ _)
      | (with_reducible exact spec_ReadVar.mono _ _ _)
      | (with_reducible exact spec_Unsealed.mono _ _)
      | (with_reducible exact LeO.refl _)
      | (with_reducible exact LeO.none _)
      | (with_reducible refine LeO.ite ?_ ?_)
      | (with_reducible refine LeO.bind ?_ (fun _=>?_))
      | exact ih0 _ _ _
      | exact ih1 _ _ _ _ _ _ _ _
      | exact ih2 _ _ _ _ _ _ _ _ _
      | exact ih3 _ _ _ _ _ _ _ _ _ _ _ _ _
      | exact spec_PageText.mono _ _ _
      | exact spec_ReadShort.mono _ _ _
      | exact spec_ReadVar.mono _ _ _
      | exact spec_Unsealed.mono _ _
      | exact LeO.none _
      | refine LeO.ite ?_ ?_
      | refine LeO.bind ?_ (fun _=>?_)
set_option maxHeartbeats 8000000 in
set_option maxRecDepth 100000 in
theorem spec_ReadPage.calls (k : Nat) (a0 : ByteArray) (r1 : Int) (r2 : List (S61)) (r3 : Bool) (w : World) (h : spec_ReadPage.f k a0 = some (r1,r2,r3)) :
    Calls Try.prog 25 #[.string a0] w fun e w'=>∃ v1_ : Value,e = .returned (.tuple #[.agg #[.int .i64 r1,v1_],.bool r3]) ∧ Kd.R k61 61 w' w.heap.size (fun _=>True) v1_ r2 ∧ Below w.heap.size w w':=by
  have hu50:=Try.underlying50
  have hu61:=Try.underlying61
  have HB:=qn.mk (Below.refl w.heap.size w)
  have H : ((spec_Unsealed.f k a0).bind fun bt155=>(if bt155.2 = true then (spec_ReadPage.j0 k a0 bt155.1 (decide ((bt155.1.size : Int) < 2))) else (spec_ReadPage.j0 k a0 bt155.1 true))) = some (r1,r2,r3):=h
  clear h
  replace H:=Option.bind_eq_some_iff.mp H
  obtain ⟨⟨t155,t156⟩,A20,H⟩:=H
  replace H : (if t156 = true then (spec_ReadPage.j0 k a0 t155 (decide ((t155.size : Int) < 2))) else (spec_ReadPage.j0 k a0 t155 true)) = some (r1,r2,r3):=H
  have A2:=qn.mk A20
  clear A20
  have HC3:=qn.mk H
  clear H
  go_enter Try.func25,Try.ntmps25
  go_upto_region 2 with (first|((with_reducible refine gate_dst (N:=2) rfl ?_);(try (refine gate_guard (by rfl) ?_;dsimp only));refine box_event ?hg (N:=2) ?hd (cs:=#[.int .i64 0,.slice none 0 0]) (t:=50) ?hr ?_;(case hd=>rfl);(case hg=>rfl);(case hr=>first|(go_simp;done)|(go_simp;rfl));intro gb154 hg w4 hbox hb;have n0_:=hs_ HB hb;have n1_:=qn.mk (hbox);have n2_:=qn.mk ((by rw [hg];exact (qj (by repeat (first|(with_reducible first|exact HB.out|apply qf|apply qa|apply qd)|exact HB.out))) : w.heap.size ≤ gb154));have n3_:=qn.mk ((by rw [hg];exact (qj (by repeat (first|(with_reducible first|exact HB.out|apply qf|apply qa|apply qd)|exact HB.out))) : w.heap.size ≤ gb154));clear HB;have HB:=n0_;have BK154:=n1_;have GW154:=n2_;have GE154:=n3_;clear n0_ n1_ n2_ n3_;clear hb hbox hg)|((with_reducible refine gate_callee (f:=65) rfl ?_);refine goesL_ (some 25) rfl rfl Try.func65 (by kernel_rfl) rfl #[.string a0] rfl (by (try simp only [List.map_toArray,List.map_cons,List.map_nil]);first|done|rfl|(simp only [List.length_drop,List.length_take];rfl)) ?_;(with_reducible refine (spec_Unsealed.calls k a0 t155 t156 _ A2.out).mono ?_);rintro e w5 ⟨rfl,hb⟩;refine ⟨_,rfl,?_⟩;have n0_:=bb_ BK154 hb;have n1_:=hs_ HB hb;clear BK154;clear HB;have BK154:=n0_;have HB:=n1_;clear n0_ n1_;(try clear hb);(try clear hb2);(try clear hk);(try clear hi)))
  (try simp only [Act.put,List.setIfInBounds_toArray,List.set_cons_zero,List.set_cons_succ])
  go_cut [34] (fun v34 wc=>∃ (kq : Nat) (x34_2 : Bool),v34 = .bool x34_2 ∧ qn (spec_ReadPage.j0 kq a0 t155 x34_2 = some (r1,r2,r3)) ∧ qn (kq ≤ k) ∧ qn (wc.heap[gb154]? = some (.cells #[.int .i64 0,(.slice none 0 0)] 50 (0,0))) ∧ qn (Below w.heap.size w wc))
  case first =>
    have H:=HC3.out
    clear HC3
    by_cases c6 : t156 = true
    · subst c6
      have H1 : (spec_ReadPage.j0 k a0 t155 (decide ((t155.size : Int) < 2))) = some (r1,r2,r3):=by rw [if_pos rfl] at H;exact H
      clear H
      have H:=H1
      clear H1
      have H':=qn.mk H
      clear H
      go_wp2
      go_meet
      case rel=>exact ⟨_,(decide ((t155.size : Int) < 2)),(by first|rfl|(simp;done)|(simp [*];done)),H',⟨by first|omega|exact Nat.le_refl _⟩,⟨by (with_reducible repeat (first|refine qb ?_ _|refine qe ?_|refine qc ?_ _));exact BK154.out⟩,⟨by repeat (first|(with_reducible first|exact HB.out|apply qf|apply qa|apply qd|refine qg ?_ GE154.out)|exact HB.out)⟩⟩
    · replace c6:=Bool.eq_false_iff.mpr c6
      subst c6
      have H1 : (spec_ReadPage.j0 k a0 t155 true) = some (r1,r2,r3):=by rw [if_neg (show ¬ (false = true) by decide)] at H;exact H
      clear H
      have H:=H1
      clear H1
      have H':=qn.mk H
      clear H
      go_wp2
      go_meet
      case rel=>exact ⟨_,(true),(by first|rfl|(simp;done)|(simp [*];done)),H',⟨by first|omega|exact Nat.le_refl _⟩,⟨by (with_reducible repeat (first|refine qb ?_ _|refine qe ?_|refine qc ?_ _));exact BK154.out⟩,⟨by repeat (first|(with_reducible first|exact HB.out|apply qf|apply qa|apply qd|refine qg ?_ GE154.out)|exact HB.out)⟩⟩
  case rest =>
    clear HC3
    try clear c2
    try clear p2
    try clear c6
    obtain ⟨kq,x34_2,rfl,HA,HJ2,BK154,HB⟩:=hcut
    cases kq with
    | zero=>exact absurd HA.out (by simp [spec_ReadPage.j0])
    | succ kj2 =>
      have H:=HA.out
      clear HA
      simp only [spec_ReadPage.j0] at H
      by_cases c7 : x34_2 = true
      · subst c7
        have H1 : (some (0,([] : List (S61)),false)) = some (r1,r2,r3):=by rw [if_pos rfl] at H;exact H
        clear H
        have H:=H1
        clear H1
        simp only [Option.some.injEq,Prod.mk.injEq] at H
        obtain ⟨rfl,rfl,rfl⟩:=H
        have hcz8_0 : wc.cell? ⟨gb154,0,none⟩ = some (.int .i64 0):=(qh BK154.out 0).trans rfl
        have hcz8_1 : wc.cell? ⟨gb154,1,none⟩ = some (.slice none 0 0):=(qh BK154.out 1).trans rfl
        have hfz8_0:=qi BK154.out 0
        have hfz8_1:=qi BK154.out 1
        go_wp2
        refine bodyPost_ret (results_ct rfl _ _ gb154 50 #[.int .i64 0,.slice none 0 0] (0,0) _ rfl (by (with_reducible repeat (first|refine qb ?_ _|refine qe ?_|refine qc ?_ _));refine blk_put (cs:=#[.int .i64 0,.slice none 0 0]) ?_ 1 _ rfl;(with_reducible repeat (first|refine qb ?_ _|refine qe ?_|refine qc ?_ _));refine blk_put (cs:=#[.int .i64 0,.slice none 0 0]) ?_ 0 _ rfl;(with_reducible repeat (first|refine qb ?_ _|refine qe ?_|refine qc ?_ _));exact BK154.out) Try.underlying50 rfl (by kernel_rfl)) rfl ?_
        exact ⟨_,by first|rfl|(simp [errW_none,errW_some] <;> rfl)|(simp [*,errW_none,errW_some] <;> rfl),by first|exact Kd.R_nil _ _ _ _ _|exact Kd.N_nil _ _ _ _ _|exact Kd.V_nil _ _ _ _ _|exact Kd.Q_nil _ _ _ _ _|exact Kd.S_nil _ _ _ _ _,by repeat (first|(with_reducible first|exact HB.out|apply qf|apply qa|apply qd|refine qg ?_ GE154.out)|exact HB.out)⟩
      · replace c7:=Bool.eq_false_iff.mpr c7
        subst c7
        have H1 : (if 0 < (t155.size : Int) then ((spec_ReadVar.f kj2 t155 1).bind fun bt158=>(spec_ReadPage.l0 kj2 a0 t155 bt158.1 bt158.2.1 bt158.2.2 0 (wrap64 (bt t155 0)) ([] : List (S61)))) else (none)) = some (r1,r2,r3):=by rw [if_neg (show ¬ (false = true) by decide)] at H;exact H
        clear H
        have H:=H1
        clear H1
        by_cases c9 : 0 < (t155.size : Int)
        · rw [if_pos c9] at H
          have c9b0 : decide (0 < (t155.size : Int)) = true:=decide_eq_true c9
          have c9b1 : decide (0 < t155.size) = true:=decide_eq_true (by omega)
          clear c9
          replace H:=Option.bind_eq_some_iff.mp H
          obtain ⟨⟨t158,t159,t160⟩,A110,H⟩:=H
          replace H : (spec_ReadPage.l0 kj2 a0 t155 t158 t159 t160 0 (wrap64 (bt t155 0)) ([] : List (S61))) = some (r1,r2,r3):=H
          have A11:=qn.mk A110
          clear A110
          have H':=qn.mk H
          clear H
          have p10 : 0 ≤ (0 : Int):=(by omega)
          have q10 : 0 < t155.size:=(by have : (0 : Int) < (t155.size : Int):=of_decide_eq_true (by first|(with_reducible assumption)|assumption);omega)
          have hx10 : ∀ h : 0 < t155.size,((t155[0]'h).toNat : Int) = bt t155 0:=bt_at t155 0
          clear p10
          have qi10 : (0 < (t155.size : Int)) = True:=eq_true (of_decide_eq_true (by first|(with_reducible assumption)|assumption))
          replace q10:=eq_true q10
          go_wp2_with (first|((with_reducible refine gate_dst (N:=6) rfl ?_);(try (refine gate_guard (by rfl) ?_;dsimp only));refine box_event ?hg (N:=6) ?hd (cs:=#[.int .i64 0,.slice none 0 0]) (t:=50) ?hr ?_;(case hd=>rfl);(case hg=>rfl);(case hr=>first|(go_simp;done)|(go_simp;rfl));intro gb157 hg w12 hbox hb;have n0_:=bb_ BK154 hb;have n1_:=hs_ HB hb;have n2_:=qn.mk (hbox);have n3_:=qn.mk ((by rw [hg];exact (qj (by repeat (first|(with_reducible first|exact HB.out|apply qf|apply qa|apply qd|refine qg ?_ GE154.out)|exact HB.out))) : w.heap.size ≤ gb157));have n4_:=qn.mk ((by rw [hg];exact (qj (by repeat (first|(with_reducible first|exact HB.out|apply qf|apply qa|apply qd|refine qg ?_ GE154.out)|exact HB.out))) : w.heap.size ≤ gb157));have n5_:=qn.mk ((by rw [hg];exact nl_ BK154 : gb154 ≠ gb157));have n6_:=qn.mk ((by rw [hg];exact ng_ BK154 : gb157 ≠ gb154));clear BK154;clear HB;have BK154:=n0_;have HB:=n1_;have BK157:=n2_;have GW157:=n3_;have GE157:=n4_;have NB154_157:=n5_;have NB157_154:=n6_;clear n0_ n1_ n2_ n3_ n4_ n5_ n6_;clear hb hbox hg;have hnb13:=NB157_154.out;have hnc13:=NB154_157.out;have hcz14_0 : w12.cell? ⟨gb157,0,none⟩ = some (.int .i64 0):=(qh BK157.out 0).trans rfl;have hcz14_1 : w12.cell? ⟨gb157,1,none⟩ = some (.slice none 0 0):=(qh BK157.out 1).trans rfl;have hfz14_0:=qi BK157.out 0;have hfz14_1:=qi BK157.out 1)|((with_reducible refine gate_callee (f:=66) rfl ?_);refine goesL_ (some 42) rfl rfl Try.func66 (by kernel_rfl) rfl #[.string t155,.int .i64 1] rfl (by (try simp only [List.map_toArray,List.map_cons,List.map_nil]);first|done|rfl|(simp only [List.length_drop,List.length_take];rfl)) ?_;(with_reducible refine (spec_ReadVar.calls kj2 t155 1 t158 t159 t160 _ A11.out).mono ?_);rintro e w15 ⟨rfl,hb⟩;refine ⟨_,rfl,?_⟩;have n0_:=qn.mk (ql (g:=gb154) (o:=.cells #[.int .i64 0,.slice none 0 0] 50 (0,0)) (by (with_reducible repeat (first|refine qb ?_ _|refine qe ?_|refine qc ?_ _));refine blk_far ?_ NB154_157.out _;(with_reducible repeat (first|refine qb ?_ _|refine qe ?_|refine qc ?_ _));refine blk_far ?_ NB154_157.out _;(with_reducible repeat (first|refine qb ?_ _|refine qe ?_|refine qc ?_ _));exact BK154.out) hb);have n1_:=qn.mk (ql (g:=gb157) (o:=.cells #[.int .i64 (wrap64 (bt t155 0)),.slice none 0 0] 50 (0,0)) (by (with_reducible repeat (first|refine qb ?_ _|refine qe ?_|refine qc ?_ _));refine blk_put (cs:=#[.int .i64 (wrap64 (bt t155 0)),.slice none 0 0]) ?_ 1 _ rfl;(with_reducible repeat (first|refine qb ?_ _|refine qe ?_|refine qc ?_ _));refine blk_put (cs:=#[.int .i64 0,.slice none 0 0]) ?_ 0 _ rfl;(with_reducible repeat (first|refine qb ?_ _|refine qe ?_|refine qc ?_ _));exact BK157.out) hb);have n2_:=hs_ HB hb;clear BK154;clear BK157;clear HB;have BK154:=n0_;have BK157:=n1_;have HB:=n2_;clear n0_ n1_ n2_;(try clear hb);(try clear hb2);(try clear hk);(try clear hi)))
          go_loopg [8,9,10] kj2 (fun kq v8 v9 v10 w'=>∃ (x8_2 : Int) (x9_2 : Bool) (x10_2 : Int) (x158001_2 : List (S61)) (u158001 : Value),v8 = .int .i64 x8_2 ∧ v9 = .bool x9_2 ∧ v10 = .int .i64 x10_2 ∧ qn (spec_ReadPage.l0 kq a0 t155 t158 x8_2 x9_2 x10_2 (wrap64 (bt t155 0)) x158001_2 = some (r1,r2,r3)) ∧ qn (kq ≤ kj2) ∧ qn (Kd.R k61 61 w' w.heap.size (fun _=>True) u158001 x158001_2) ∧ qn (w'.heap[gb154]? = some (.cells #[.int .i64 0,(.slice none 0 0)] 50 (0,0))) ∧ qn (w'.heap[gb157]? = some (.cells #[.int .i64 (wrap64 (bt t155 0)),u158001] 50 (0,0))) ∧ qn (Below w.heap.size w w'))
          case atStart=>exact ⟨(t159),(t160),(0),(([] : List (S61))),(.slice none 0 0),(by first|rfl|(simp;done)|(simp [*];done)),(by first|rfl|(simp;done)|(simp [*];done)),(by first|rfl|(simp;done)|(simp [*];done)),H',⟨Nat.le_refl _⟩,⟨by first|exact Kd.R_nil _ _ _ _ _|exact Kd.N_nil _ _ _ _ _|exact Kd.V_nil _ _ _ _ _|exact Kd.Q_nil _ _ _ _ _|exact Kd.S_nil _ _ _ _ _⟩,⟨by (with_reducible repeat (first|refine qb ?_ _|refine qe ?_|refine qc ?_ _));exact BK154.out⟩,⟨by (with_reducible repeat (first|refine qb ?_ _|refine qe ?_|refine qc ?_ _));exact BK157.out⟩,⟨by repeat (first|(with_reducible first|exact HB.out|apply qf|apply qa|apply qd|refine qg ?_ GE154.out|refine qg ?_ GE157.out)|exact HB.out)⟩⟩
          case round =>
            clear H'
            try clear c1
            try clear p1
            try clear q1
            try clear hx1
            try clear qi1
            try clear c2
            try clear p2
            try clear c6
            try clear p6
            try clear c7
            try clear c9
            try clear c9b0
            try clear c9b1
            try clear p10
            try clear q10
            try clear hx10
            try clear qi10
            try clear c13
            try clear hcz14_0
            try clear hcz14_1
            try clear hcz8_0
            try clear hcz8_1
            try clear hfz14_0
            try clear hfz14_1
            try clear hfz8_0
            try clear hfz8_1
            try clear p10
            try clear p2
            try clear q10
            obtain ⟨x8_2,x9_2,x10_2,x158001_2,u158001,rfl,rfl,rfl,HA,HK2,HO_158001,BK154,BK157,HB⟩:=hrel
            cases gk with
            | zero=>exact absurd HA.out (by simp [spec_ReadPage.l0])
            | succ k2 =>
              have H:=HA.out
              clear HA
              simp only [spec_ReadPage.l0] at H
              have HC16:=qn.mk H
              clear H
              go_upto_region 7 with (fail)
              go_cut [51] (fun v51 wc=>∃ (kq : Nat) (x51_15 : Bool),v51 = .bool x51_15 ∧ qn (spec_ReadPage.j2 kq a0 t155 t158 x8_2 x9_2 x10_2 x51_15 (wrap64 (bt t155 0)) x158001_2 = some (r1,r2,r3)) ∧ qn (kq ≤ k2) ∧ qn (Kd.R k61 61 wc w.heap.size (fun _=>True) u158001 x158001_2) ∧ qn (wc.heap[gb154]? = some (.cells #[.int .i64 0,(.slice none 0 0)] 50 (0,0))) ∧ qn (wc.heap[gb157]? = some (.cells #[.int .i64 (wrap64 (bt t155 0)),u158001] 50 (0,0))) ∧ qn (Below w.heap.size w wc))
              case first =>
                have H:=HC16.out
                clear HC16
                by_cases c17 : x10_2 < t158
                · rw [if_pos c17] at H
                  have c17b0 : decide (x10_2 < t158) = true:=decide_eq_true c17
                  clear c17
                  (first|rw [c17b0]|(simp only [i64_w,i32_w];rw [c17b0])|skip)
                  have H':=qn.mk H
                  clear H
                  go_wp2
                  go_meet
                  case rel=>exact ⟨_,(x9_2),(by first|rfl|(simp;done)|(simp [*];done)),H',⟨by have:=HJ2.out;have:=HK2.out;first|omega|exact Nat.le_refl _⟩,⟨by (with_reducible repeat (first|apply Kd.R_alloc|apply Kd.R_drewN|apply Kd.R_drew));exact HO_158001.out⟩,⟨by (with_reducible repeat (first|refine qb ?_ _|refine qe ?_|refine qc ?_ _));exact BK154.out⟩,⟨by (with_reducible repeat (first|refine qb ?_ _|refine qe ?_|refine qc ?_ _));exact BK157.out⟩,⟨by repeat (first|(with_reducible first|exact HB.out|apply qf|apply qa|apply qd|refine qg ?_ GE154.out|refine qg ?_ GE157.out)|exact HB.out)⟩⟩
                · rw [if_neg c17] at H
                  have c17b0 : decide (x10_2 < t158) = false:=decide_eq_false c17
                  clear c17
                  (first|rw [c17b0]|(simp only [i64_w,i32_w];rw [c17b0])|skip)
                  have H':=qn.mk H
                  clear H
                  go_wp2
                  go_meet
                  case rel=>exact ⟨_,(false),(by first|rfl|(simp;done)|(simp [*];done)),H',⟨by have:=HJ2.out;have:=HK2.out;first|omega|exact Nat.le_refl _⟩,⟨by (with_reducible repeat (first|apply Kd.R_alloc|apply Kd.R_drewN|apply Kd.R_drew));exact HO_158001.out⟩,⟨by (with_reducible repeat (first|refine qb ?_ _|refine qe ?_|refine qc ?_ _));exact BK154.out⟩,⟨by (with_reducible repeat (first|refine qb ?_ _|refine qe ?_|refine qc ?_ _));exact BK157.out⟩,⟨by repeat (first|(with_reducible first|exact HB.out|apply qf|apply qa|apply qd|refine qg ?_ GE154.out|refine qg ?_ GE157.out)|exact HB.out)⟩⟩
              case rest =>
                clear HC16
                try clear c1
                try clear p1
                try clear q1
                try clear hx1
                try clear qi1
                try clear c2
                try clear p2
                try clear c6
                try clear p6
                try clear c7
                try clear c9
                try clear c9b0
                try clear c9b1
                try clear p10
                try clear q10
                try clear hx10
                try clear qi10
                try clear c13
                try clear c17
                try clear c17b0
                try clear hcz14_0
                try clear hcz14_1
                try clear hcz8_0
                try clear hcz8_1
                try clear hfz14_0
                try clear hfz14_1
                try clear hfz8_0
                try clear hfz8_1
                try clear p1
                try clear p10
                try clear p2
                try clear p6
                try clear q1
                try clear q10
                obtain ⟨kq,x51_15,rfl,HA,HJ15,HO_158001,BK154,BK157,HB⟩:=hcut
                cases kq with
                | zero=>exact absurd HA.out (by simp [spec_ReadPage.j2])
                | succ kj15 =>
                  have H:=HA.out
                  clear HA
                  simp only [spec_ReadPage.j2] at H
                  by_cases c18 : x51_15 = true
                  · subst c18
                    have H1 : ((spec_ReadShort.f kj15 t155 x8_2).bind fun bt164=>(if bt164.2.2 = true then (spec_ReadPage.j3 kj15 a0 t155 t158 x8_2 bt164.2.2 x10_2 bt164.2.1 ((wrap64 (bt t155 0)) == 1) (wrap64 (bt t155 0)) x158001_2 bt164.1 (⟨#[]⟩ : ByteArray) 0) else (spec_ReadPage.j3 kj15 a0 t155 t158 x8_2 bt164.2.2 x10_2 bt164.2.1 false (wrap64 (bt t155 0)) x158001_2 bt164.1 (⟨#[]⟩ : ByteArray) 0))) = some (r1,r2,r3):=by rw [if_pos rfl] at H;exact H
                    clear H
                    have H:=H1
                    clear H1
                    replace H:=Option.bind_eq_some_iff.mp H
                    obtain ⟨⟨t164,t165,t166⟩,A190,H⟩:=H
                    replace H : (if t166 = true then (spec_ReadPage.j3 kj15 a0 t155 t158 x8_2 t166 x10_2 t165 ((wrap64 (bt t155 0)) == 1) (wrap64 (bt t155 0)) x158001_2 t164 (⟨#[]⟩ : ByteArray) 0) else (spec_ReadPage.j3 kj15 a0 t155 t158 x8_2 t166 x10_2 t165 false (wrap64 (bt t155 0)) x158001_2 t164 (⟨#[]⟩ : ByteArray) 0)) = some (r1,r2,r3):=H
                    have A19:=qn.mk A190
                    clear A190
                    have HC20:=qn.mk H
                    clear H
                    go_upto_region 13 with (first|((with_reducible refine gate_dst (N:=11) rfl ?_);(try (refine gate_guard (by rfl) ?_;dsimp only));refine box_event ?hg (N:=11) ?hd (cs:=#[.string (⟨#[]⟩ : ByteArray),.string (⟨#[]⟩ : ByteArray),.int .i64 0]) (t:=61) ?hr ?_;(case hd=>rfl);(case hg=>rfl);(case hr=>first|(go_simp;done)|(go_simp;rfl));intro gb163 hg w21 hbox hb;have n0_:=qn.mk (Kd.R_below (Kd.R_elderB (by (with_reducible repeat (first|apply Kd.R_alloc|apply Kd.R_drewN|apply Kd.R_drew));exact HO_158001.out) gb163 (Nat.le_of_eq hg.symm)) hb);have n1_:=bb_ BK154 hb;have n2_:=bb_ BK157 hb;have n3_:=hs_ HB hb;have n4_:=qn.mk (hbox);have n5_:=qn.mk ((by rw [hg];exact (qj (by repeat (first|(with_reducible first|exact HB.out|apply qf|apply qa|apply qd|refine qg ?_ GE154.out|refine qg ?_ GE157.out)|exact HB.out))) : w.heap.size ≤ gb163));have n6_:=qn.mk ((by rw [hg];exact (qj (by repeat (first|(with_reducible first|exact HB.out|apply qf|apply qa|apply qd|refine qg ?_ GE154.out|refine qg ?_ GE157.out)|exact HB.out))) : w.heap.size ≤ gb163));have n7_:=qn.mk ((by rw [hg];exact nl_ BK154 : gb154 ≠ gb163));have n8_:=qn.mk ((by rw [hg];exact ng_ BK154 : gb163 ≠ gb154));have n9_:=qn.mk ((by rw [hg];exact nl_ BK157 : gb157 ≠ gb163));have n10_:=qn.mk ((by rw [hg];exact ng_ BK157 : gb163 ≠ gb157));clear HO_158001;clear BK154;clear BK157;clear HB;have HO_158001:=n0_;have BK154:=n1_;have BK157:=n2_;have HB:=n3_;have BK163:=n4_;have GW163:=n5_;have GE163:=n6_;have NB154_163:=n7_;have NB163_154:=n8_;have NB157_163:=n9_;have NB163_157:=n10_;clear n0_ n1_ n2_ n3_ n4_ n5_ n6_ n7_ n8_ n9_ n10_;clear hb hbox hg;have hnb22:=NB163_154.out;have hnc22:=NB154_163.out;have hnb23:=NB163_157.out;have hnc23:=NB157_163.out;have hcz24_0 : w21.cell? ⟨gb163,0,none⟩ = some (.string (⟨#[]⟩ : ByteArray)):=(qh BK163.out 0).trans rfl;have hcz24_1 : w21.cell? ⟨gb163,1,none⟩ = some (.string (⟨#[]⟩ : ByteArray)):=(qh BK163.out 1).trans rfl;have hcz24_2 : w21.cell? ⟨gb163,2,none⟩ = some (.int .i64 0):=(qh BK163.out 2).trans rfl;have hfz24_0:=qi BK163.out 0;have hfz24_1:=qi BK163.out 1;have hfz24_2:=qi BK163.out 2)|((with_reducible refine gate_callee (f:=67) rfl ?_);refine goesL_ (some 58) rfl rfl Try.func67 (by kernel_rfl) rfl #[.string t155,.int .i64 x8_2] rfl (by (try simp only [List.map_toArray,List.map_cons,List.map_nil]);first|done|rfl|(simp only [List.length_drop,List.length_take];rfl)) ?_;(with_reducible refine (spec_ReadShort.calls kj15 t155 x8_2 t164 t165 t166 _ A19.out).mono ?_);rintro e w25 ⟨rfl,hb⟩;refine ⟨_,rfl,?_⟩;have n0_:=qn.mk (Kd.R_below (by (with_reducible repeat (first|apply Kd.R_alloc|apply Kd.R_drewN|apply Kd.R_drew));exact (Kd.R_mono (Kd.R_far (p:=⟨gb163,2,none⟩) (Kd.R_far (p:=⟨gb163,1,none⟩) (Kd.R_far (p:=⟨gb163,0,none⟩) (Kd.R_mono HO_158001.out (fun k_ hk=>(⟨hk,hk.2⟩ : _ ∧ k_ ≠ gb163))) (fun _ hk=>hk.2) (.string (⟨#[]⟩ : ByteArray))) (fun _ hk=>hk.2) (.string (⟨#[]⟩ : ByteArray))) (fun _ hk=>hk.2) (.int .i64 0)) (fun _ h_=>h_.1))) hb);have n1_:=qn.mk (ql (g:=gb154) (o:=.cells #[.int .i64 0,.slice none 0 0] 50 (0,0)) (by (with_reducible repeat (first|refine qb ?_ _|refine qe ?_|refine qc ?_ _));refine blk_far ?_ NB154_163.out _;(with_reducible repeat (first|refine qb ?_ _|refine qe ?_|refine qc ?_ _));refine blk_far ?_ NB154_163.out _;(with_reducible repeat (first|refine qb ?_ _|refine qe ?_|refine qc ?_ _));refine blk_far ?_ NB154_163.out _;(with_reducible repeat (first|refine qb ?_ _|refine qe ?_|refine qc ?_ _));exact BK154.out) hb);have n2_:=qn.mk (ql (g:=gb157) (o:=.cells #[.int .i64 (wrap64 (bt t155 0)),u158001] 50 (0,0)) (by (with_reducible repeat (first|refine qb ?_ _|refine qe ?_|refine qc ?_ _));refine blk_far ?_ NB157_163.out _;(with_reducible repeat (first|refine qb ?_ _|refine qe ?_|refine qc ?_ _));refine blk_far ?_ NB157_163.out _;(with_reducible repeat (first|refine qb ?_ _|refine qe ?_|refine qc ?_ _));refine blk_far ?_ NB157_163.out _;(with_reducible repeat (first|refine qb ?_ _|refine qe ?_|refine qc ?_ _));exact BK157.out) hb);have n3_:=qn.mk (ql (g:=gb163) (o:=.cells #[.string (⟨#[]⟩ : ByteArray),.string (⟨#[]⟩ : ByteArray),.int .i64 0] 61 (0,0)) (by (with_reducible repeat (first|refine qb ?_ _|refine qe ?_|refine qc ?_ _));refine blk_put (cs:=#[.string (⟨#[]⟩ : ByteArray),.string (⟨#[]⟩ : ByteArray),.int .i64 0]) ?_ 2 _ rfl;(with_reducible repeat (first|refine qb ?_ _|refine qe ?_|refine qc ?_ _));refine blk_put (cs:=#[.string (⟨#[]⟩ : ByteArray),.string (⟨#[]⟩ : ByteArray),.int .i64 0]) ?_ 1 _ rfl;(with_reducible repeat (first|refine qb ?_ _|refine qe ?_|refine qc ?_ _));refine blk_put (cs:=#[.string (⟨#[]⟩ : ByteArray),.string (⟨#[]⟩ : ByteArray),.int .i64 0]) ?_ 0 _ rfl;(with_reducible repeat (first|refine qb ?_ _|refine qe ?_|refine qc ?_ _));exact BK163.out) hb);have n4_:=hs_ HB hb;clear HO_158001;clear BK154;clear BK157;clear BK163;clear HB;have HO_158001:=n0_;have BK154:=n1_;have BK157:=n2_;have BK163:=n3_;have HB:=n4_;clear n0_ n1_ n2_ n3_ n4_;(try clear hb);(try clear hb2);(try clear hk);(try clear hi);have hcz26_0 : w25.cell? ⟨gb163,0,none⟩ = some (.string (⟨#[]⟩ : ByteArray)):=(qh BK163.out 0).trans rfl;have hcz26_1 : w25.cell? ⟨gb163,1,none⟩ = some (.string (⟨#[]⟩ : ByteArray)):=(qh BK163.out 1).trans rfl;have hcz26_2 : w25.cell? ⟨gb163,2,none⟩ = some (.int .i64 0):=(qh BK163.out 2).trans rfl;have hfz26_0:=qi BK163.out 0;have hfz26_1:=qi BK163.out 1;have hfz26_2:=qi BK163.out 2))
                    (try simp only [Act.put,List.setIfInBounds_toArray,List.set_cons_zero,List.set_cons_succ])
                    go_cut [70] (fun v70 wc=>∃ (kq : Nat) (x70_19 : Bool),v70 = .bool x70_19 ∧ qn (spec_ReadPage.j3 kq a0 t155 t158 x8_2 t166 x10_2 t165 x70_19 (wrap64 (bt t155 0)) x158001_2 t164 (⟨#[]⟩ : ByteArray) 0 = some (r1,r2,r3)) ∧ qn (kq ≤ kj15) ∧ qn (Kd.R k61 61 wc w.heap.size (fun k_=>k_ ≠ gb163) u158001 x158001_2) ∧ qn (wc.heap[gb154]? = some (.cells #[.int .i64 0,(.slice none 0 0)] 50 (0,0))) ∧ qn (wc.heap[gb157]? = some (.cells #[.int .i64 (wrap64 (bt t155 0)),u158001] 50 (0,0))) ∧ qn (wc.heap[gb163]? = some (.cells #[.string t164,.string (⟨#[]⟩ : ByteArray),.int .i64 0] 61 (0,0))) ∧ qn (Below w.heap.size w wc))
                    case first =>
                      have H:=HC20.out
                      clear HC20
                      by_cases c27 : t166 = true
                      · subst c27
                        have H1 : (spec_ReadPage.j3 kj15 a0 t155 t158 x8_2 true x10_2 t165 ((wrap64 (bt t155 0)) == 1) (wrap64 (bt t155 0)) x158001_2 t164 (⟨#[]⟩ : ByteArray) 0) = some (r1,r2,r3):=by rw [if_pos rfl] at H;exact H
                        clear H
                        have H:=H1
                        clear H1
                        have H':=qn.mk H
                        clear H
                        have hnb28:=NB157_154.out
                        have hnc28:=NB154_157.out
                        have hnb29:=NB157_163.out
                        have hnc29:=NB163_157.out
                        have hcz30_0 : w25.cell? ⟨gb157,0,none⟩ = some (.int .i64 (wrap64 (bt t155 0))):=(qh BK157.out 0).trans rfl
                        have hcz30_1 : w25.cell? ⟨gb157,1,none⟩ = some (u158001):=(qh BK157.out 1).trans rfl
                        have hfz30_0:=qi BK157.out 0
                        have hfz30_1:=qi BK157.out 1
                        go_wp2
                        go_meet
                        case rel=>exact ⟨_,(((wrap64 (bt t155 0)) == 1)),(by first|rfl|(simp;done)|(simp [*];done)),H',⟨by have:=HJ2.out;have:=HK2.out;have:=HJ15.out;first|omega|exact Nat.le_refl _⟩,⟨by (with_reducible repeat (first|apply Kd.R_alloc|apply Kd.R_drewN|apply Kd.R_drew));exact Kd.R_mono (Kd.R_far (p:=⟨gb163,0,none⟩) (Kd.R_mono HO_158001.out (fun k_ hk=>(⟨hk,hk.2⟩ : _ ∧ k_ ≠ gb163))) (fun _ hk=>hk.2) (.string t164)) (fun _ hk=>hk.1.2)⟩,⟨by (with_reducible repeat (first|refine qb ?_ _|refine qe ?_|refine qc ?_ _));refine blk_far ?_ NB154_163.out _;(with_reducible repeat (first|refine qb ?_ _|refine qe ?_|refine qc ?_ _));exact BK154.out⟩,⟨by (with_reducible repeat (first|refine qb ?_ _|refine qe ?_|refine qc ?_ _));refine blk_far ?_ NB157_163.out _;(with_reducible repeat (first|refine qb ?_ _|refine qe ?_|refine qc ?_ _));exact BK157.out⟩,⟨by (with_reducible repeat (first|refine qb ?_ _|refine qe ?_|refine qc ?_ _));refine blk_put (cs:=#[.string (⟨#[]⟩ : ByteArray),.string (⟨#[]⟩ : ByteArray),.int .i64 0]) ?_ 0 _ rfl;(with_reducible repeat (first|refine qb ?_ _|refine qe ?_|refine qc ?_ _));exact BK163.out⟩,⟨by repeat (first|(with_reducible first|exact HB.out|apply qf|apply qa|apply qd|refine qg ?_ GE154.out|refine qg ?_ GE157.out|refine qg ?_ GE163.out)|exact HB.out)⟩⟩
                      · replace c27:=Bool.eq_false_iff.mpr c27
                        subst c27
                        have H1 : (spec_ReadPage.j3 kj15 a0 t155 t158 x8_2 false x10_2 t165 false (wrap64 (bt t155 0)) x158001_2 t164 (⟨#[]⟩ : ByteArray) 0) = some (r1,r2,r3):=by rw [if_neg (show ¬ (false = true) by decide)] at H;exact H
                        clear H
                        have H:=H1
                        clear H1
                        have H':=qn.mk H
                        clear H
                        go_wp2
                        go_meet
                        case rel=>exact ⟨_,(false),(by first|rfl|(simp;done)|(simp [*];done)),H',⟨by have:=HJ2.out;have:=HK2.out;have:=HJ15.out;first|omega|exact Nat.le_refl _⟩,⟨by (with_reducible repeat (first|apply Kd.R_alloc|apply Kd.R_drewN|apply Kd.R_drew));exact Kd.R_mono (Kd.R_far (p:=⟨gb163,0,none⟩) (Kd.R_mono HO_158001.out (fun k_ hk=>(⟨hk,hk.2⟩ : _ ∧ k_ ≠ gb163))) (fun _ hk=>hk.2) (.string t164)) (fun _ hk=>hk.1.2)⟩,⟨by (with_reducible repeat (first|refine qb ?_ _|refine qe ?_|refine qc ?_ _));refine blk_far ?_ NB154_163.out _;(with_reducible repeat (first|refine qb ?_ _|refine qe ?_|refine qc ?_ _));exact BK154.out⟩,⟨by (with_reducible repeat (first|refine qb ?_ _|refine qe ?_|refine qc ?_ _));refine blk_far ?_ NB157_163.out _;(with_reducible repeat (first|refine qb ?_ _|refine qe ?_|refine qc ?_ _));exact BK157.out⟩,⟨by (with_reducible repeat (first|refine qb ?_ _|refine qe ?_|refine qc ?_ _));refine blk_put (cs:=#[.string (⟨#[]⟩ : ByteArray),.string (⟨#[]⟩ : ByteArray),.int .i64 0]) ?_ 0 _ rfl;(with_reducible repeat (first|refine qb ?_ _|refine qe ?_|refine qc ?_ _));exact BK163.out⟩,⟨by repeat (first|(with_reducible first|exact HB.out|apply qf|apply qa|apply qd|refine qg ?_ GE154.out|refine qg ?_ GE157.out|refine qg ?_ GE163.out)|exact HB.out)⟩⟩
                    case rest =>
                      clear HC20
                      try clear c1
                      try clear p1
                      try clear q1
                      try clear hx1
                      try clear qi1
                      try clear c2
                      try clear p2
                      try clear c6
                      try clear p6
                      try clear c7
                      try clear c9
                      try clear c9b0
                      try clear c9b1
                      try clear p10
                      try clear q10
                      try clear hx10
                      try clear qi10
                      try clear c13
                      try clear c17
                      try clear c17b0
                      try clear c18
                      try clear c22
                      try clear c23
                      try clear c25
                      try clear c27
                      try clear c28
                      try clear c29
                      try clear hcz14_0
                      try clear hcz14_1
                      try clear hcz24_0
                      try clear hcz24_1
                      try clear hcz24_2
                      try clear hcz26_0
                      try clear hcz26_1
                      try clear hcz26_2
                      try clear hcz30_0
                      try clear hcz30_1
                      try clear hcz8_0
                      try clear hcz8_1
                      try clear hfz14_0
                      try clear hfz14_1
                      try clear hfz24_0
                      try clear hfz24_1
                      try clear hfz24_2
                      try clear hfz26_0
                      try clear hfz26_1
                      try clear hfz26_2
                      try clear hfz30_0
                      try clear hfz30_1
                      try clear hfz8_0
                      try clear hfz8_1
                      try clear p1
                      try clear p10
                      try clear p2
                      try clear p6
                      try clear q1
                      try clear q10
                      obtain ⟨kq,x70_19,rfl,HA,HJ19,HO_158001,BK154,BK157,BK163,HB⟩:=hcut
                      cases kq with
                      | zero=>exact absurd HA.out (by simp [spec_ReadPage.j3])
                      | succ kj19 =>
                        have H:=HA.out
                        clear HA
                        simp only [spec_ReadPage.j3] at H
                        by_cases c31 : x70_19 = true
                        · subst c31
                          have H1 : ((spec_ReadShort.f kj19 t155 t165).bind fun bt167=>(if x158001_2.length < 3518437208883 then (spec_ReadPage.l0 kj19 a0 t155 t158 bt167.2.1 bt167.2.2 (wrap64 (x10_2 + 1)) (wrap64 (bt t155 0)) (x158001_2 ++ [(⟨t164,bt167.1,0⟩ : S61)])) else (none))) = some (r1,r2,r3):=by rw [if_pos rfl] at H;exact H
                          clear H
                          have H:=H1
                          clear H1
                          replace H:=Option.bind_eq_some_iff.mp H
                          obtain ⟨⟨t167,t168,t169⟩,A320,H⟩:=H
                          replace H : (if x158001_2.length < 3518437208883 then (spec_ReadPage.l0 kj19 a0 t155 t158 t168 t169 (wrap64 (x10_2 + 1)) (wrap64 (bt t155 0)) (x158001_2 ++ [(⟨t164,t167,0⟩ : S61)])) else (none)) = some (r1,r2,r3):=H
                          have A32:=qn.mk A320
                          clear A320
                          by_cases c33 : x158001_2.length < 3518437208883
                          · rw [if_pos c33] at H
                            have LMc33:=qn.mk c33
                            clear c33
                            obtain ⟨y170,hy170⟩ : ∃ y_ : List (S61),y_ = (x158001_2 ++ [(⟨t164,t167,0⟩ : S61)]):=⟨_,rfl⟩
                            replace H : (spec_ReadPage.l0 kj19 a0 t155 t158 t168 t169 (wrap64 (x10_2 + 1)) (wrap64 (bt t155 0)) y170) = some (r1,r2,r3):=by first|(rw [hy170];with_reducible exact H)|(have H2_:=(Option.bind_some _ _).symm.trans H;rw [hy170];with_reducible exact H2_)|(have H2_:=(Option.bind_some _ _).symm.trans H;with_reducible exact H2_)|with_reducible exact H|(rw [hy170];exact H)|exact H
                            have Ny170:=qn.mk hy170
                            clear hy170
                            have H':=qn.mk H
                            clear H
                            go_wp2_with (first|((with_reducible refine gate_callee (f:=67) rfl ?_);refine goesL_ (some 74) rfl rfl Try.func67 (by kernel_rfl) rfl #[.string t155,.int .i64 t165] rfl (by (try simp only [List.map_toArray,List.map_cons,List.map_nil]);first|done|rfl|(simp only [List.length_drop,List.length_take];rfl)) ?_;(with_reducible refine (spec_ReadShort.calls kj19 t155 t165 t167 t168 t169 _ A32.out).mono ?_);rintro e w34 ⟨rfl,hb⟩;refine ⟨_,rfl,?_⟩;have n0_:=rb_ HO_158001 hb;have n1_:=bb_ BK154 hb;have n2_:=bb_ BK157 hb;have n3_:=bb_ BK163 hb;have n4_:=hs_ HB hb;clear HO_158001;clear BK154;clear BK157;clear BK163;clear HB;have HO_158001:=n0_;have BK154:=n1_;have BK157:=n2_;have BK163:=n3_;have HB:=n4_;clear n0_ n1_ n2_ n3_ n4_;(try clear hb);(try clear hb2);(try clear hk);(try clear hi);have hnb35:=NB163_154.out;have hnc35:=NB154_163.out;have hnb36:=NB163_157.out;have hnc36:=NB157_163.out;have hcz37_0 : w34.cell? ⟨gb163,0,none⟩ = some (.string t164):=(qh BK163.out 0).trans rfl;have hcz37_1 : w34.cell? ⟨gb163,1,none⟩ = some (.string (⟨#[]⟩ : ByteArray)):=(qh BK163.out 1).trans rfl;have hcz37_2 : w34.cell? ⟨gb163,2,none⟩ = some (.int .i64 0):=(qh BK163.out 2).trans rfl;have hfz37_0:=qi BK163.out 0;have hfz37_1:=qi BK163.out 1;have hfz37_2:=qi BK163.out 2;have hnb38:=NB157_154.out;have hnc38:=NB154_157.out;have hcz39_0 : w34.cell? ⟨gb157,0,none⟩ = some (.int .i64 (wrap64 (bt t155 0))):=(qh BK157.out 0).trans rfl;have hcz39_1 : w34.cell? ⟨gb157,1,none⟩ = some (u158001):=(qh BK157.out 1).trans rfl;have hfz39_0:=qi BK157.out 0;have hfz39_1:=qi BK157.out 1)|((with_reducible refine gate_builtin (b:=.append) (xs:=#[.tmp 95,.tmp 97]) rfl ?_);(try (refine gate_guard (by rfl) ?_;dsimp only));at_builtin;refine Kd.R_append k61 (w0:=w) w.heap.size rfl (.tmp 95) (.tmp 97) 48 61 (.agg #[(.string ⟨#[]⟩),(.string ⟨#[]⟩),(.int .i64 0)]) 40 rfl Try.underlying48 info61 rfl (by decide) (by omega) u158001 x158001_2 (⟨t164,t167,0⟩ : S61) [.string t164,.string t167,.int .i64 0] (fun k_=>k_ ≠ gb163) (fun _=>False) rfl (by first|(go_simp;done)|(go_simp;rfl)) ?aP (fun _ hk=>hk.elim) ?aF ?aO ?aB ?aS ?aL ?_;(case aP=>exact k61_mkM _ _ _ (⟨t164,t167,0⟩ : S61));(case aB=>exact (by repeat (first|(with_reducible first|exact HB.out|apply qf|apply qa|apply qd|refine qg ?_ GE154.out|refine qg ?_ GE157.out|refine qg ?_ GE163.out)|exact HB.out)));(case aF=>exact (fun k_ hk=>Kd.freshB (g:=gb163) (o:=.cells #[.string t164,.string t167,.int .i64 0] 61 (0,0)) (by (with_reducible repeat (first|refine qb ?_ _|refine qe ?_|refine qc ?_ _));refine blk_put (cs:=#[.string t164,.string (⟨#[]⟩ : ByteArray),.int .i64 0]) ?_ 1 _ rfl;(with_reducible repeat (first|refine qb ?_ _|refine qe ?_|refine qc ?_ _));exact BK163.out) k_ hk));(case aO=>exact (by (with_reducible repeat (first|apply Kd.R_alloc|apply Kd.R_drewN|apply Kd.R_drew));exact Kd.R_mono (Kd.R_far (p:=⟨gb163,1,none⟩) (Kd.R_mono HO_158001.out (fun k_ hk=>(⟨hk,hk⟩ : _ ∧ k_ ≠ gb163))) (fun _ hk=>hk.2) (.string t167)) (fun _ hk=>hk.1)));(case aS=>exact (qj (by repeat (first|(with_reducible first|exact HB.out|apply qf|apply qa|apply qd|refine qg ?_ GE154.out|refine qg ?_ GE157.out|refine qg ?_ GE163.out)|exact HB.out))));(case aL=>have:=LMc33.out;omega);intro v171 w40 ho hb hg hat;rw [← Ny170.out] at ho;have n0_:=qn.mk (blk_grown (g:=gb154) (o:=.cells #[.int .i64 0,.slice none 0 0] 50 (0,0)) (by (with_reducible repeat (first|refine qb ?_ _|refine qe ?_|refine qc ?_ _));refine blk_far ?_ NB154_163.out _;(with_reducible repeat (first|refine qb ?_ _|refine qe ?_|refine qc ?_ _));exact BK154.out) hg (Kd.R_ne HO_158001.out BK154.out (by decide)));have n1_:=qn.mk (blk_grown (g:=gb157) (o:=.cells #[.int .i64 (wrap64 (bt t155 0)),u158001] 50 (0,0)) (by (with_reducible repeat (first|refine qb ?_ _|refine qe ?_|refine qc ?_ _));refine blk_far ?_ NB157_163.out _;(with_reducible repeat (first|refine qb ?_ _|refine qe ?_|refine qc ?_ _));exact BK157.out) hg (Kd.R_ne HO_158001.out BK157.out (by decide)));have n2_:=qn.mk (blk_grown (g:=gb163) (o:=.cells #[.string t164,.string t167,.int .i64 0] 61 (0,0)) (by (with_reducible repeat (first|refine qb ?_ _|refine qe ?_|refine qc ?_ _));refine blk_put (cs:=#[.string t164,.string (⟨#[]⟩ : ByteArray),.int .i64 0]) ?_ 1 _ rfl;(with_reducible repeat (first|refine qb ?_ _|refine qe ?_|refine qc ?_ _));exact BK163.out) hg (Kd.R_away HO_158001.out (fun _ hk=>hk)));have n3_:=qn.mk (hb);have n4_:=qn.mk (ho);clear BK154;clear BK157;clear BK163;clear HB;clear HO_158001;have BK154:=n0_;have BK157:=n1_;have BK163:=n2_;have HB:=n3_;have HO172:=n4_;clear n0_ n1_ n2_ n3_ n4_;clear ho hb hg hat;obtain ⟨Ao41,co41,eo41⟩:=Kd.R_slice HO172.out;subst eo41;have hcz42_0 : w40.cell? ⟨gb157,0,none⟩ = some (.int .i64 (wrap64 (bt t155 0))):=(qh BK157.out 0).trans rfl;have hcz42_1 : w40.cell? ⟨gb157,1,none⟩ = some (u158001):=(qh BK157.out 1).trans rfl;have hfz42_0:=qi BK157.out 0;have hfz42_1:=qi BK157.out 1))
                            go_roundg kj19
                            case measure=>have:=HJ2.out;have:=HK2.out;have:=HJ15.out;have:=HJ19.out;omega
                            case rel=>exact ⟨(t168),(t169),(wrap64 (x10_2 + 1)),(y170),(.slice Ao41 y170.length co41),(by first|rfl|(simp;done)|(simp [*];done)),(by first|rfl|(simp;done)|(simp [*];done)),(by first|rfl|(simp;done)|(simp [*];done)),H',⟨by have:=HJ2.out;have:=HK2.out;have:=HJ15.out;have:=HJ19.out;omega⟩,⟨by (with_reducible repeat (first|apply Kd.R_alloc|apply Kd.R_drewN|apply Kd.R_drew));exact Kd.R_mono (Kd.R_far (p:=⟨gb157,1,none⟩) (Kd.R_types HO172.out BK157.out (by decide)) (fun _ hk=>hk.2) (.slice Ao41 y170.length co41)) (fun _ hk=>trivial)⟩,⟨by (with_reducible repeat (first|refine qb ?_ _|refine qe ?_|refine qc ?_ _));refine blk_far ?_ NB154_157.out _;(with_reducible repeat (first|refine qb ?_ _|refine qe ?_|refine qc ?_ _));exact BK154.out⟩,⟨by (with_reducible repeat (first|refine qb ?_ _|refine qe ?_|refine qc ?_ _));refine blk_put (cs:=#[.int .i64 (wrap64 (bt t155 0)),u158001]) ?_ 1 _ rfl;(with_reducible repeat (first|refine qb ?_ _|refine qe ?_|refine qc ?_ _));exact BK157.out⟩,⟨by repeat (first|(with_reducible first|exact HB.out|apply qf|apply qa|apply qd|refine qg ?_ GE154.out|refine qg ?_ GE157.out|refine qg ?_ GE163.out)|exact HB.out)⟩⟩
                          · rw [if_neg c33] at H
                            exact absurd H (by simp)
                        · replace c31:=Bool.eq_false_iff.mpr c31
                          subst c31
                          have H1 : (if t166 = true then ((spec_ReadVar.f kj19 t155 t165).bind fun bt173=>(if x158001_2.length < 3518437208883 then (spec_ReadPage.l0 kj19 a0 t155 t158 bt173.2.1 bt173.2.2 (wrap64 (x10_2 + 1)) (wrap64 (bt t155 0)) (x158001_2 ++ [(⟨t164,(⟨#[]⟩ : ByteArray),bt173.1⟩ : S61)])) else (none))) else (if x158001_2.length < 3518437208883 then (spec_ReadPage.l0 kj19 a0 t155 t158 x8_2 t166 (wrap64 (x10_2 + 1)) (wrap64 (bt t155 0)) (x158001_2 ++ [(⟨t164,(⟨#[]⟩ : ByteArray),0⟩ : S61)])) else (none))) = some (r1,r2,r3):=by rw [if_neg (show ¬ (false = true) by decide)] at H;exact H
                          clear H
                          have H:=H1
                          clear H1
                          by_cases c43 : t166 = true
                          · subst c43
                            have H1 : ((spec_ReadVar.f kj19 t155 t165).bind fun bt173=>(if x158001_2.length < 3518437208883 then (spec_ReadPage.l0 kj19 a0 t155 t158 bt173.2.1 bt173.2.2 (wrap64 (x10_2 + 1)) (wrap64 (bt t155 0)) (x158001_2 ++ [(⟨t164,(⟨#[]⟩ : ByteArray),bt173.1⟩ : S61)])) else (none))) = some (r1,r2,r3):=by rw [if_pos rfl] at H;exact H
                            clear H
                            have H:=H1
                            clear H1
                            replace H:=Option.bind_eq_some_iff.mp H
                            obtain ⟨⟨t173,t174,t175⟩,A440,H⟩:=H
                            replace H : (if x158001_2.length < 3518437208883 then (spec_ReadPage.l0 kj19 a0 t155 t158 t174 t175 (wrap64 (x10_2 + 1)) (wrap64 (bt t155 0)) (x158001_2 ++ [(⟨t164,(⟨#[]⟩ : ByteArray),t173⟩ : S61)])) else (none)) = some (r1,r2,r3):=H
                            have A44:=qn.mk A440
                            clear A440
                            by_cases c45 : x158001_2.length < 3518437208883
                            · rw [if_pos c45] at H
                              have LMc45:=qn.mk c45
                              clear c45
                              obtain ⟨y176,hy176⟩ : ∃ y_ : List (S61),y_ = (x158001_2 ++ [(⟨t164,(⟨#[]⟩ : ByteArray),t173⟩ : S61)]):=⟨_,rfl⟩
                              replace H : (spec_ReadPage.l0 kj19 a0 t155 t158 t174 t175 (wrap64 (x10_2 + 1)) (wrap64 (bt t155 0)) y176) = some (r1,r2,r3):=by first|(rw [hy176];with_reducible exact H)|(have H2_:=(Option.bind_some _ _).symm.trans H;rw [hy176];with_reducible exact H2_)|(have H2_:=(Option.bind_some _ _).symm.trans H;with_reducible exact H2_)|with_reducible exact H|(rw [hy176];exact H)|exact H
                              have Ny176:=qn.mk hy176
                              clear hy176
                              have H':=qn.mk H
                              clear H
                              go_wp2_with (first|((with_reducible refine gate_callee (f:=66) rfl ?_);refine goesL_ (some 86) rfl rfl Try.func66 (by kernel_rfl) rfl #[.string t155,.int .i64 t165] rfl (by (try simp only [List.map_toArray,List.map_cons,List.map_nil]);first|done|rfl|(simp only [List.length_drop,List.length_take];rfl)) ?_;(with_reducible refine (spec_ReadVar.calls kj19 t155 t165 t173 t174 t175 _ A44.out).mono ?_);rintro e w46 ⟨rfl,hb⟩;refine ⟨_,rfl,?_⟩;have n0_:=rb_ HO_158001 hb;have n1_:=bb_ BK154 hb;have n2_:=bb_ BK157 hb;have n3_:=bb_ BK163 hb;have n4_:=hs_ HB hb;clear HO_158001;clear BK154;clear BK157;clear BK163;clear HB;have HO_158001:=n0_;have BK154:=n1_;have BK157:=n2_;have BK163:=n3_;have HB:=n4_;clear n0_ n1_ n2_ n3_ n4_;(try clear hb);(try clear hb2);(try clear hk);(try clear hi);have hnb47:=NB163_154.out;have hnc47:=NB154_163.out;have hnb48:=NB163_157.out;have hnc48:=NB157_163.out;have hcz49_0 : w46.cell? ⟨gb163,0,none⟩ = some (.string t164):=(qh BK163.out 0).trans rfl;have hcz49_1 : w46.cell? ⟨gb163,1,none⟩ = some (.string (⟨#[]⟩ : ByteArray)):=(qh BK163.out 1).trans rfl;have hcz49_2 : w46.cell? ⟨gb163,2,none⟩ = some (.int .i64 0):=(qh BK163.out 2).trans rfl;have hfz49_0:=qi BK163.out 0;have hfz49_1:=qi BK163.out 1;have hfz49_2:=qi BK163.out 2;have hnb50:=NB157_154.out;have hnc50:=NB154_157.out;have hcz51_0 : w46.cell? ⟨gb157,0,none⟩ = some (.int .i64 (wrap64 (bt t155 0))):=(qh BK157.out 0).trans rfl;have hcz51_1 : w46.cell? ⟨gb157,1,none⟩ = some (u158001):=(qh BK157.out 1).trans rfl;have hfz51_0:=qi BK157.out 0;have hfz51_1:=qi BK157.out 1)|((with_reducible refine gate_builtin (b:=.append) (xs:=#[.tmp 95,.tmp 97]) rfl ?_);(try (refine gate_guard (by rfl) ?_;dsimp only));at_builtin;refine Kd.R_append k61 (w0:=w) w.heap.size rfl (.tmp 95) (.tmp 97) 48 61 (.agg #[(.string ⟨#[]⟩),(.string ⟨#[]⟩),(.int .i64 0)]) 40 rfl Try.underlying48 info61 rfl (by decide) (by omega) u158001 x158001_2 (⟨t164,(⟨#[]⟩ : ByteArray),t173⟩ : S61) [.string t164,.string (⟨#[]⟩ : ByteArray),.int .i64 t173] (fun k_=>k_ ≠ gb163) (fun _=>False) rfl (by first|(go_simp;done)|(go_simp;rfl)) ?aP (fun _ hk=>hk.elim) ?aF ?aO ?aB ?aS ?aL ?_;(case aP=>exact k61_mkM _ _ _ (⟨t164,(⟨#[]⟩ : ByteArray),t173⟩ : S61));(case aB=>exact (by repeat (first|(with_reducible first|exact HB.out|apply qf|apply qa|apply qd|refine qg ?_ GE154.out|refine qg ?_ GE157.out|refine qg ?_ GE163.out)|exact HB.out)));(case aF=>exact (fun k_ hk=>Kd.freshB (g:=gb163) (o:=.cells #[.string t164,.string (⟨#[]⟩ : ByteArray),.int .i64 t173] 61 (0,0)) (by (with_reducible repeat (first|refine qb ?_ _|refine qe ?_|refine qc ?_ _));refine blk_put (cs:=#[.string t164,.string (⟨#[]⟩ : ByteArray),.int .i64 0]) ?_ 2 _ rfl;(with_reducible repeat (first|refine qb ?_ _|refine qe ?_|refine qc ?_ _));exact BK163.out) k_ hk));(case aO=>exact (by (with_reducible repeat (first|apply Kd.R_alloc|apply Kd.R_drewN|apply Kd.R_drew));exact Kd.R_mono (Kd.R_far (p:=⟨gb163,2,none⟩) (Kd.R_mono HO_158001.out (fun k_ hk=>(⟨hk,hk⟩ : _ ∧ k_ ≠ gb163))) (fun _ hk=>hk.2) (.int .i64 t173)) (fun _ hk=>hk.1)));(case aS=>exact (qj (by repeat (first|(with_reducible first|exact HB.out|apply qf|apply qa|apply qd|refine qg ?_ GE154.out|refine qg ?_ GE157.out|refine qg ?_ GE163.out)|exact HB.out))));(case aL=>have:=LMc45.out;omega);intro v177 w52 ho hb hg hat;rw [← Ny176.out] at ho;have n0_:=qn.mk (blk_grown (g:=gb154) (o:=.cells #[.int .i64 0,.slice none 0 0] 50 (0,0)) (by (with_reducible repeat (first|refine qb ?_ _|refine qe ?_|refine qc ?_ _));refine blk_far ?_ NB154_163.out _;(with_reducible repeat (first|refine qb ?_ _|refine qe ?_|refine qc ?_ _));exact BK154.out) hg (Kd.R_ne HO_158001.out BK154.out (by decide)));have n1_:=qn.mk (blk_grown (g:=gb157) (o:=.cells #[.int .i64 (wrap64 (bt t155 0)),u158001] 50 (0,0)) (by (with_reducible repeat (first|refine qb ?_ _|refine qe ?_|refine qc ?_ _));refine blk_far ?_ NB157_163.out _;(with_reducible repeat (first|refine qb ?_ _|refine qe ?_|refine qc ?_ _));exact BK157.out) hg (Kd.R_ne HO_158001.out BK157.out (by decide)));have n2_:=qn.mk (blk_grown (g:=gb163) (o:=.cells #[.string t164,.string (⟨#[]⟩ : ByteArray),.int .i64 t173] 61 (0,0)) (by (with_reducible repeat (first|refine qb ?_ _|refine qe ?_|refine qc ?_ _));refine blk_put (cs:=#[.string t164,.string (⟨#[]⟩ : ByteArray),.int .i64 0]) ?_ 2 _ rfl;(with_reducible repeat (first|refine qb ?_ _|refine qe ?_|refine qc ?_ _));exact BK163.out) hg (Kd.R_away HO_158001.out (fun _ hk=>hk)));have n3_:=qn.mk (hb);have n4_:=qn.mk (ho);clear BK154;clear BK157;clear BK163;clear HB;clear HO_158001;have BK154:=n0_;have BK157:=n1_;have BK163:=n2_;have HB:=n3_;have HO178:=n4_;clear n0_ n1_ n2_ n3_ n4_;clear ho hb hg hat;obtain ⟨Ao53,co53,eo53⟩:=Kd.R_slice HO178.out;subst eo53;have hcz54_0 : w52.cell? ⟨gb157,0,none⟩ = some (.int .i64 (wrap64 (bt t155 0))):=(qh BK157.out 0).trans rfl;have hcz54_1 : w52.cell? ⟨gb157,1,none⟩ = some (u158001):=(qh BK157.out 1).trans rfl;have hfz54_0:=qi BK157.out 0;have hfz54_1:=qi BK157.out 1))
                              go_roundg kj19
                              case measure=>have:=HJ2.out;have:=HK2.out;have:=HJ15.out;have:=HJ19.out;omega
                              case rel=>exact ⟨(t174),(t175),(wrap64 (x10_2 + 1)),(y176),(.slice Ao53 y176.length co53),(by first|rfl|(simp;done)|(simp [*];done)),(by first|rfl|(simp;done)|(simp [*];done)),(by first|rfl|(simp;done)|(simp [*];done)),H',⟨by have:=HJ2.out;have:=HK2.out;have:=HJ15.out;have:=HJ19.out;omega⟩,⟨by (with_reducible repeat (first|apply Kd.R_alloc|apply Kd.R_drewN|apply Kd.R_drew));exact Kd.R_mono (Kd.R_far (p:=⟨gb157,1,none⟩) (Kd.R_types HO178.out BK157.out (by decide)) (fun _ hk=>hk.2) (.slice Ao53 y176.length co53)) (fun _ hk=>trivial)⟩,⟨by (with_reducible repeat (first|refine qb ?_ _|refine qe ?_|refine qc ?_ _));refine blk_far ?_ NB154_157.out _;(with_reducible repeat (first|refine qb ?_ _|refine qe ?_|refine qc ?_ _));exact BK154.out⟩,⟨by (with_reducible repeat (first|refine qb ?_ _|refine qe ?_|refine qc ?_ _));refine blk_put (cs:=#[.int .i64 (wrap64 (bt t155 0)),u158001]) ?_ 1 _ rfl;(with_reducible repeat (first|refine qb ?_ _|refine qe ?_|refine qc ?_ _));exact BK157.out⟩,⟨by repeat (first|(with_reducible first|exact HB.out|apply qf|apply qa|apply qd|refine qg ?_ GE154.out|refine qg ?_ GE157.out|refine qg ?_ GE163.out)|exact HB.out)⟩⟩
                            · rw [if_neg c45] at H
                              exact absurd H (by simp)
                          · replace c43:=Bool.eq_false_iff.mpr c43
                            subst c43
                            have H1 : (if x158001_2.length < 3518437208883 then (spec_ReadPage.l0 kj19 a0 t155 t158 x8_2 false (wrap64 (x10_2 + 1)) (wrap64 (bt t155 0)) (x158001_2 ++ [(⟨t164,(⟨#[]⟩ : ByteArray),0⟩ : S61)])) else (none)) = some (r1,r2,r3):=by rw [if_neg (show ¬ (false = true) by decide)] at H;exact H
                            clear H
                            have H:=H1
                            clear H1
                            by_cases c55 : x158001_2.length < 3518437208883
                            · rw [if_pos c55] at H
                              have LMc55:=qn.mk c55
                              clear c55
                              obtain ⟨y179,hy179⟩ : ∃ y_ : List (S61),y_ = (x158001_2 ++ [(⟨t164,(⟨#[]⟩ : ByteArray),0⟩ : S61)]):=⟨_,rfl⟩
                              replace H : (spec_ReadPage.l0 kj19 a0 t155 t158 x8_2 false (wrap64 (x10_2 + 1)) (wrap64 (bt t155 0)) y179) = some (r1,r2,r3):=by first|(rw [hy179];with_reducible exact H)|(have H2_:=(Option.bind_some _ _).symm.trans H;rw [hy179];with_reducible exact H2_)|(have H2_:=(Option.bind_some _ _).symm.trans H;with_reducible exact H2_)|with_reducible exact H|(rw [hy179];exact H)|exact H
                              have Ny179:=qn.mk hy179
                              clear hy179
                              have H':=qn.mk H
                              clear H
                              have hnb56:=NB157_154.out
                              have hnc56:=NB154_157.out
                              have hnb57:=NB157_163.out
                              have hnc57:=NB163_157.out
                              have hcz58_0 : wc.cell? ⟨gb157,0,none⟩ = some (.int .i64 (wrap64 (bt t155 0))):=(qh BK157.out 0).trans rfl
                              have hcz58_1 : wc.cell? ⟨gb157,1,none⟩ = some (u158001):=(qh BK157.out 1).trans rfl
                              have hfz58_0:=qi BK157.out 0
                              have hfz58_1:=qi BK157.out 1
                              have hnb59:=NB163_154.out
                              have hnc59:=NB154_163.out
                              have hcz60_0 : wc.cell? ⟨gb163,0,none⟩ = some (.string t164):=(qh BK163.out 0).trans rfl
                              have hcz60_1 : wc.cell? ⟨gb163,1,none⟩ = some (.string (⟨#[]⟩ : ByteArray)):=(qh BK163.out 1).trans rfl
                              have hcz60_2 : wc.cell? ⟨gb163,2,none⟩ = some (.int .i64 0):=(qh BK163.out 2).trans rfl
                              have hfz60_0:=qi BK163.out 0
                              have hfz60_1:=qi BK163.out 1
                              have hfz60_2:=qi BK163.out 2
                              go_wp2_with (first|((with_reducible refine gate_builtin (b:=.append) (xs:=#[.tmp 95,.tmp 97]) rfl ?_);(try (refine gate_guard (by rfl) ?_;dsimp only));at_builtin;refine Kd.R_append k61 (w0:=w) w.heap.size rfl (.tmp 95) (.tmp 97) 48 61 (.agg #[(.string ⟨#[]⟩),(.string ⟨#[]⟩),(.int .i64 0)]) 40 rfl Try.underlying48 info61 rfl (by decide) (by omega) u158001 x158001_2 (⟨t164,(⟨#[]⟩ : ByteArray),0⟩ : S61) [.string t164,.string (⟨#[]⟩ : ByteArray),.int .i64 0] (fun k_=>k_ ≠ gb163) (fun _=>False) rfl rfl ?aP (fun _ hk=>hk.elim) ?aF ?aO ?aB ?aS ?aL ?_;(case aP=>exact k61_mkM _ _ _ (⟨t164,(⟨#[]⟩ : ByteArray),0⟩ : S61));(case aB=>exact (by repeat (first|(with_reducible first|exact HB.out|apply qf|apply qa|apply qd|refine qg ?_ GE154.out|refine qg ?_ GE157.out|refine qg ?_ GE163.out)|exact HB.out)));(case aF=>exact (fun k_ hk=>Kd.freshB (g:=gb163) (o:=.cells #[.string t164,.string (⟨#[]⟩ : ByteArray),.int .i64 0] 61 (0,0)) (by (with_reducible repeat (first|refine qb ?_ _|refine qe ?_|refine qc ?_ _));exact BK163.out) k_ hk));(case aO=>exact (by (with_reducible repeat (first|apply Kd.R_alloc|apply Kd.R_drewN|apply Kd.R_drew));exact HO_158001.out));(case aS=>exact (qj (by repeat (first|(with_reducible first|exact HB.out|apply qf|apply qa|apply qd|refine qg ?_ GE154.out|refine qg ?_ GE157.out|refine qg ?_ GE163.out)|exact HB.out))));(case aL=>have:=LMc55.out;omega);intro v180 w61 ho hb hg hat;rw [← Ny179.out] at ho;have n0_:=qn.mk (blk_grown (g:=gb154) (o:=.cells #[.int .i64 0,.slice none 0 0] 50 (0,0)) (by (with_reducible repeat (first|refine qb ?_ _|refine qe ?_|refine qc ?_ _));exact BK154.out) hg (Kd.R_ne HO_158001.out BK154.out (by decide)));have n1_:=qn.mk (blk_grown (g:=gb157) (o:=.cells #[.int .i64 (wrap64 (bt t155 0)),u158001] 50 (0,0)) (by (with_reducible repeat (first|refine qb ?_ _|refine qe ?_|refine qc ?_ _));exact BK157.out) hg (Kd.R_ne HO_158001.out BK157.out (by decide)));have n2_:=qn.mk (blk_grown (g:=gb163) (o:=.cells #[.string t164,.string (⟨#[]⟩ : ByteArray),.int .i64 0] 61 (0,0)) (by (with_reducible repeat (first|refine qb ?_ _|refine qe ?_|refine qc ?_ _));exact BK163.out) hg (Kd.R_away HO_158001.out (fun _ hk=>hk)));have n3_:=qn.mk (hb);have n4_:=qn.mk (ho);clear BK154;clear BK157;clear BK163;clear HB;clear HO_158001;have BK154:=n0_;have BK157:=n1_;have BK163:=n2_;have HB:=n3_;have HO181:=n4_;clear n0_ n1_ n2_ n3_ n4_;clear ho hb hg hat;obtain ⟨Ao62,co62,eo62⟩:=Kd.R_slice HO181.out;subst eo62;have hcz63_0 : w61.cell? ⟨gb157,0,none⟩ = some (.int .i64 (wrap64 (bt t155 0))):=(qh BK157.out 0).trans rfl;have hcz63_1 : w61.cell? ⟨gb157,1,none⟩ = some (u158001):=(qh BK157.out 1).trans rfl;have hfz63_0:=qi BK157.out 0;have hfz63_1:=qi BK157.out 1))
                              go_roundg kj19
                              case measure=>have:=HJ2.out;have:=HK2.out;have:=HJ15.out;have:=HJ19.out;omega
                              case rel=>exact ⟨(x8_2),(false),(wrap64 (x10_2 + 1)),(y179),(.slice Ao62 y179.length co62),(by first|rfl|(simp;done)|(simp [*];done)),(by first|rfl|(simp;done)|(simp [*];done)),(by first|rfl|(simp;done)|(simp [*];done)),H',⟨by have:=HJ2.out;have:=HK2.out;have:=HJ15.out;have:=HJ19.out;omega⟩,⟨by (with_reducible repeat (first|apply Kd.R_alloc|apply Kd.R_drewN|apply Kd.R_drew));exact Kd.R_mono (Kd.R_far (p:=⟨gb157,1,none⟩) (Kd.R_types HO181.out BK157.out (by decide)) (fun _ hk=>hk.2) (.slice Ao62 y179.length co62)) (fun _ hk=>trivial)⟩,⟨by (with_reducible repeat (first|refine qb ?_ _|refine qe ?_|refine qc ?_ _));refine blk_far ?_ NB154_157.out _;(with_reducible repeat (first|refine qb ?_ _|refine qe ?_|refine qc ?_ _));exact BK154.out⟩,⟨by (with_reducible repeat (first|refine qb ?_ _|refine qe ?_|refine qc ?_ _));refine blk_put (cs:=#[.int .i64 (wrap64 (bt t155 0)),u158001]) ?_ 1 _ rfl;(with_reducible repeat (first|refine qb ?_ _|refine qe ?_|refine qc ?_ _));exact BK157.out⟩,⟨by repeat (first|(with_reducible first|exact HB.out|apply qf|apply qa|apply qd|refine qg ?_ GE154.out|refine qg ?_ GE157.out|refine qg ?_ GE163.out)|exact HB.out)⟩⟩
                            · rw [if_neg c55] at H
                              exact absurd H (by simp)
                  · replace c18:=Bool.eq_false_iff.mpr c18
                    subst c18
                    have H1 : ((spec_PageText.f kj15 (wrap64 (bt t155 0)) x158001_2).bind fun bt161=>(if x9_2 = true then (if bt161.2 = true then (if bt161.1.toList = a0.toList then (some ((wrap64 (bt t155 0)),x158001_2,true)) else (some (0,([] : List (S61)),false))) else (some (0,([] : List (S61)),false))) else (some (0,([] : List (S61)),false)))) = some (r1,r2,r3):=by rw [if_neg (show ¬ (false = true) by decide)] at H;exact H
                    clear H
                    have H:=H1
                    clear H1
                    replace H:=Option.bind_eq_some_iff.mp H
                    obtain ⟨⟨t161,t162⟩,A640,H⟩:=H
                    replace H : (if x9_2 = true then (if t162 = true then (if t161.toList = a0.toList then (some ((wrap64 (bt t155 0)),x158001_2,true)) else (some (0,([] : List (S61)),false))) else (some (0,([] : List (S61)),false))) else (some (0,([] : List (S61)),false))) = some (r1,r2,r3):=H
                    have A64:=qn.mk A640
                    clear A640
                    by_cases c65 : x9_2 = true
                    · subst c65
                      have H1 : (if t162 = true then (if t161.toList = a0.toList then (some ((wrap64 (bt t155 0)),x158001_2,true)) else (some (0,([] : List (S61)),false))) else (some (0,([] : List (S61)),false))) = some (r1,r2,r3):=by rw [if_pos rfl] at H;exact H
                      clear H
                      have H:=H1
                      clear H1
                      by_cases c66 : t162 = true
                      · subst c66
                        have H1 : (if t161.toList = a0.toList then (some ((wrap64 (bt t155 0)),x158001_2,true)) else (some (0,([] : List (S61)),false))) = some (r1,r2,r3):=by rw [if_pos rfl] at H;exact H
                        clear H
                        have H:=H1
                        clear H1
                        by_cases c67 : t161.toList = a0.toList
                        · rw [if_pos c67] at H
                          have c67b0 : (t161.toList == a0.toList) = true:=beq_iff_eq.mpr c67
                          have c67b1 : (t161.toList != a0.toList) = false:=bne_eq_false_iff_eq.mpr c67
                          clear c67
                          simp only [Option.some.injEq,Prod.mk.injEq] at H
                          obtain ⟨rfl,rfl,rfl⟩:=H
                          have hnb68:=NB157_154.out
                          have hnc68:=NB154_157.out
                          have hcz69_0 : wc.cell? ⟨gb157,0,none⟩ = some (.int .i64 (wrap64 (bt t155 0))):=(qh BK157.out 0).trans rfl
                          have hcz69_1 : wc.cell? ⟨gb157,1,none⟩ = some (u158001):=(qh BK157.out 1).trans rfl
                          have hfz69_0:=qi BK157.out 0
                          have hfz69_1:=qi BK157.out 1
                          obtain ⟨Ao70,co70,eo70⟩:=Kd.R_slice HO_158001.out
                          subst eo70
                          go_wp2_with (first|((with_reducible refine gate_callee (f:=53) rfl ?_);refine goesL_ (some 102) rfl rfl Try.func53 (by kernel_rfl) rfl #[.agg #[.int .i64 (wrap64 (bt t155 0)),.slice Ao70 x158001_2.length co70]] rfl (by (try simp only [List.map_toArray,List.map_cons,List.map_nil]);first|done|rfl|(simp only [List.length_drop,List.length_take];rfl)) ?_;(with_reducible refine (spec_PageText.calls kj15 (wrap64 (bt t155 0)) _ _ x158001_2 t161 true _ ?side1 ?side2 A64.out).mono ?_);(case side1=>repeat (first|exact (Kd.R_reads' HO_158001.out).2.2|(with_reducible refine Kd.C_alloc ?_ _)|(with_reducible refine Kd.C_drewN ?_ _)|(with_reducible refine Kd.C_drew ?_)));(case side2=>exact (Kd.R_reads' HO_158001.out).2.1);rintro e w71 ⟨rfl,hb⟩;refine ⟨_,rfl,?_⟩;have n0_:=rb_ HO_158001 hb;have n1_:=bb_ BK154 hb;have n2_:=bb_ BK157 hb;have n3_:=hs_ HB hb;clear HO_158001;clear BK154;clear BK157;clear HB;have HO_158001:=n0_;have BK154:=n1_;have BK157:=n2_;have HB:=n3_;clear n0_ n1_ n2_ n3_;(try clear hb);(try clear hb2);(try clear hk);(try clear hi);have hcz72_0 : w71.cell? ⟨gb157,0,none⟩ = some (.int .i64 (wrap64 (bt t155 0))):=(qh BK157.out 0).trans rfl;have hcz72_1 : w71.cell? ⟨gb157,1,none⟩ = some (.slice Ao70 x158001_2.length co70):=(qh BK157.out 1).trans rfl;have hfz72_0:=qi BK157.out 0;have hfz72_1:=qi BK157.out 1;have hcz73_0 : w71.cell? ⟨gb154,0,none⟩ = some (.int .i64 0):=(qh BK154.out 0).trans rfl;have hcz73_1 : w71.cell? ⟨gb154,1,none⟩ = some (.slice none 0 0):=(qh BK154.out 1).trans rfl;have hfz73_0:=qi BK154.out 0;have hfz73_1:=qi BK154.out 1))
                          refine bodyPost_ret (results_ct rfl _ _ gb154 50 #[.int .i64 (wrap64 (bt t155 0)),.slice Ao70 x158001_2.length co70] (0,0) _ rfl (by (with_reducible repeat (first|refine qb ?_ _|refine qe ?_|refine qc ?_ _));refine blk_put (cs:=#[.int .i64 (wrap64 (bt t155 0)),.slice none 0 0]) ?_ 1 _ rfl;(with_reducible repeat (first|refine qb ?_ _|refine qe ?_|refine qc ?_ _));refine blk_put (cs:=#[.int .i64 0,.slice none 0 0]) ?_ 0 _ rfl;(with_reducible repeat (first|refine qb ?_ _|refine qe ?_|refine qc ?_ _));exact BK154.out) Try.underlying50 rfl (by kernel_rfl)) rfl ?_
                          exact ⟨_,by first|rfl|(simp [errW_none,errW_some] <;> rfl)|(simp [*,errW_none,errW_some] <;> rfl),by (with_reducible repeat (first|apply Kd.R_alloc|apply Kd.R_drewN|apply Kd.R_drew));exact Kd.R_mono (Kd.R_far (p:=⟨gb154,1,none⟩) (Kd.R_far (p:=⟨gb154,0,none⟩) (Kd.R_types HO_158001.out BK154.out (by decide)) (fun _ hk=>hk.2) (.int .i64 (wrap64 (bt t155 0)))) (fun _ hk=>hk.2) (.slice Ao70 x158001_2.length co70)) (fun _ hk=>trivial),by repeat (first|(with_reducible first|exact HB.out|apply qf|apply qa|apply qd|refine qg ?_ GE154.out|refine qg ?_ GE157.out)|exact HB.out)⟩
                        · rw [if_neg c67] at H
                          have c67b0 : (t161.toList == a0.toList) = false:=beq_eq_false_iff_ne.mpr c67
                          have c67b1 : (t161.toList != a0.toList) = true:=bne_iff_ne.mpr c67
                          simp only [Option.some.injEq,Prod.mk.injEq] at H
                          obtain ⟨rfl,rfl,rfl⟩:=H
                          have hnb74:=NB157_154.out
                          have hnc74:=NB154_157.out
                          have hcz75_0 : wc.cell? ⟨gb157,0,none⟩ = some (.int .i64 (wrap64 (bt t155 0))):=(qh BK157.out 0).trans rfl
                          have hcz75_1 : wc.cell? ⟨gb157,1,none⟩ = some (u158001):=(qh BK157.out 1).trans rfl
                          have hfz75_0:=qi BK157.out 0
                          have hfz75_1:=qi BK157.out 1
                          obtain ⟨Ao76,co76,eo76⟩:=Kd.R_slice HO_158001.out
                          subst eo76
                          go_wp2_with (first|((with_reducible refine gate_callee (f:=53) rfl ?_);refine goesL_ (some 102) rfl rfl Try.func53 (by kernel_rfl) rfl #[.agg #[.int .i64 (wrap64 (bt t155 0)),.slice Ao76 x158001_2.length co76]] rfl (by (try simp only [List.map_toArray,List.map_cons,List.map_nil]);first|done|rfl|(simp only [List.length_drop,List.length_take];rfl)) ?_;(with_reducible refine (spec_PageText.calls kj15 (wrap64 (bt t155 0)) _ _ x158001_2 t161 true _ ?side1 ?side2 A64.out).mono ?_);(case side1=>repeat (first|exact (Kd.R_reads' HO_158001.out).2.2|(with_reducible refine Kd.C_alloc ?_ _)|(with_reducible refine Kd.C_drewN ?_ _)|(with_reducible refine Kd.C_drew ?_)));(case side2=>exact (Kd.R_reads' HO_158001.out).2.1);rintro e w77 ⟨rfl,hb⟩;refine ⟨_,rfl,?_⟩;have n0_:=rb_ HO_158001 hb;have n1_:=bb_ BK154 hb;have n2_:=bb_ BK157 hb;have n3_:=hs_ HB hb;clear HO_158001;clear BK154;clear BK157;clear HB;have HO_158001:=n0_;have BK154:=n1_;have BK157:=n2_;have HB:=n3_;clear n0_ n1_ n2_ n3_;(try clear hb);(try clear hb2);(try clear hk);(try clear hi);have hcz78_0 : w77.cell? ⟨gb154,0,none⟩ = some (.int .i64 0):=(qh BK154.out 0).trans rfl;have hcz78_1 : w77.cell? ⟨gb154,1,none⟩ = some (.slice none 0 0):=(qh BK154.out 1).trans rfl;have hfz78_0:=qi BK154.out 0;have hfz78_1:=qi BK154.out 1))
                          refine bodyPost_ret (results_ct rfl _ _ gb154 50 #[.int .i64 0,.slice none 0 0] (0,0) _ rfl (by (with_reducible repeat (first|refine qb ?_ _|refine qe ?_|refine qc ?_ _));refine blk_put (cs:=#[.int .i64 0,.slice none 0 0]) ?_ 1 _ rfl;(with_reducible repeat (first|refine qb ?_ _|refine qe ?_|refine qc ?_ _));refine blk_put (cs:=#[.int .i64 0,.slice none 0 0]) ?_ 0 _ rfl;(with_reducible repeat (first|refine qb ?_ _|refine qe ?_|refine qc ?_ _));exact BK154.out) Try.underlying50 rfl (by kernel_rfl)) rfl ?_
                          exact ⟨_,by first|rfl|(simp [errW_none,errW_some] <;> rfl)|(simp [*,errW_none,errW_some] <;> rfl),by first|exact Kd.R_nil _ _ _ _ _|exact Kd.N_nil _ _ _ _ _|exact Kd.V_nil _ _ _ _ _|exact Kd.Q_nil _ _ _ _ _|exact Kd.S_nil _ _ _ _ _,by repeat (first|(with_reducible first|exact HB.out|apply qf|apply qa|apply qd|refine qg ?_ GE154.out|refine qg ?_ GE157.out)|exact HB.out)⟩
                      · replace c66:=Bool.eq_false_iff.mpr c66
                        subst c66
                        have H1 : (some (0,([] : List (S61)),false)) = some (r1,r2,r3):=by rw [if_neg (show ¬ (false = true) by decide)] at H;exact H
                        clear H
                        have H:=H1
                        clear H1
                        simp only [Option.some.injEq,Prod.mk.injEq] at H
                        obtain ⟨rfl,rfl,rfl⟩:=H
                        have hnb79:=NB157_154.out
                        have hnc79:=NB154_157.out
                        have hcz80_0 : wc.cell? ⟨gb157,0,none⟩ = some (.int .i64 (wrap64 (bt t155 0))):=(qh BK157.out 0).trans rfl
                        have hcz80_1 : wc.cell? ⟨gb157,1,none⟩ = some (u158001):=(qh BK157.out 1).trans rfl
                        have hfz80_0:=qi BK157.out 0
                        have hfz80_1:=qi BK157.out 1
                        obtain ⟨Ao81,co81,eo81⟩:=Kd.R_slice HO_158001.out
                        subst eo81
                        go_wp2_with (first|((with_reducible refine gate_callee (f:=53) rfl ?_);refine goesL_ (some 102) rfl rfl Try.func53 (by kernel_rfl) rfl #[.agg #[.int .i64 (wrap64 (bt t155 0)),.slice Ao81 x158001_2.length co81]] rfl (by (try simp only [List.map_toArray,List.map_cons,List.map_nil]);first|done|rfl|(simp only [List.length_drop,List.length_take];rfl)) ?_;(with_reducible refine (spec_PageText.calls kj15 (wrap64 (bt t155 0)) _ _ x158001_2 t161 false _ ?side1 ?side2 A64.out).mono ?_);(case side1=>repeat (first|exact (Kd.R_reads' HO_158001.out).2.2|(with_reducible refine Kd.C_alloc ?_ _)|(with_reducible refine Kd.C_drewN ?_ _)|(with_reducible refine Kd.C_drew ?_)));(case side2=>exact (Kd.R_reads' HO_158001.out).2.1);rintro e w82 ⟨rfl,hb⟩;refine ⟨_,rfl,?_⟩;have n0_:=rb_ HO_158001 hb;have n1_:=bb_ BK154 hb;have n2_:=bb_ BK157 hb;have n3_:=hs_ HB hb;clear HO_158001;clear BK154;clear BK157;clear HB;have HO_158001:=n0_;have BK154:=n1_;have BK157:=n2_;have HB:=n3_;clear n0_ n1_ n2_ n3_;(try clear hb);(try clear hb2);(try clear hk);(try clear hi);have hcz83_0 : w82.cell? ⟨gb154,0,none⟩ = some (.int .i64 0):=(qh BK154.out 0).trans rfl;have hcz83_1 : w82.cell? ⟨gb154,1,none⟩ = some (.slice none 0 0):=(qh BK154.out 1).trans rfl;have hfz83_0:=qi BK154.out 0;have hfz83_1:=qi BK154.out 1))
                        refine bodyPost_ret (results_ct rfl _ _ gb154 50 #[.int .i64 0,.slice none 0 0] (0,0) _ rfl (by (with_reducible repeat (first|refine qb ?_ _|refine qe ?_|refine qc ?_ _));refine blk_put (cs:=#[.int .i64 0,.slice none 0 0]) ?_ 1 _ rfl;(with_reducible repeat (first|refine qb ?_ _|refine qe ?_|refine qc ?_ _));refine blk_put (cs:=#[.int .i64 0,.slice none 0 0]) ?_ 0 _ rfl;(with_reducible repeat (first|refine qb ?_ _|refine qe ?_|refine qc ?_ _));exact BK154.out) Try.underlying50 rfl (by kernel_rfl)) rfl ?_
                        exact ⟨_,by first|rfl|(simp [errW_none,errW_some] <;> rfl)|(simp [*,errW_none,errW_some] <;> rfl),by first|exact Kd.R_nil _ _ _ _ _|exact Kd.N_nil _ _ _ _ _|exact Kd.V_nil _ _ _ _ _|exact Kd.Q_nil _ _ _ _ _|exact Kd.S_nil _ _ _ _ _,by repeat (first|(with_reducible first|exact HB.out|apply qf|apply qa|apply qd|refine qg ?_ GE154.out|refine qg ?_ GE157.out)|exact HB.out)⟩
                    · replace c65:=Bool.eq_false_iff.mpr c65
                      subst c65
                      have H1 : (some (0,([] : List (S61)),false)) = some (r1,r2,r3):=by rw [if_neg (show ¬ (false = true) by decide)] at H;exact H
                      clear H
                      have H:=H1
                      clear H1
                      simp only [Option.some.injEq,Prod.mk.injEq] at H
                      obtain ⟨rfl,rfl,rfl⟩:=H
                      have hnb84:=NB157_154.out
                      have hnc84:=NB154_157.out
                      have hcz85_0 : wc.cell? ⟨gb157,0,none⟩ = some (.int .i64 (wrap64 (bt t155 0))):=(qh BK157.out 0).trans rfl
                      have hcz85_1 : wc.cell? ⟨gb157,1,none⟩ = some (u158001):=(qh BK157.out 1).trans rfl
                      have hfz85_0:=qi BK157.out 0
                      have hfz85_1:=qi BK157.out 1
                      obtain ⟨Ao86,co86,eo86⟩:=Kd.R_slice HO_158001.out
                      subst eo86
                      go_wp2_with (first|((with_reducible refine gate_callee (f:=53) rfl ?_);refine goesL_ (some 102) rfl rfl Try.func53 (by kernel_rfl) rfl #[.agg #[.int .i64 (wrap64 (bt t155 0)),.slice Ao86 x158001_2.length co86]] rfl (by (try simp only [List.map_toArray,List.map_cons,List.map_nil]);first|done|rfl|(simp only [List.length_drop,List.length_take];rfl)) ?_;(with_reducible refine (spec_PageText.calls kj15 (wrap64 (bt t155 0)) _ _ x158001_2 t161 t162 _ ?side1 ?side2 A64.out).mono ?_);(case side1=>repeat (first|exact (Kd.R_reads' HO_158001.out).2.2|(with_reducible refine Kd.C_alloc ?_ _)|(with_reducible refine Kd.C_drewN ?_ _)|(with_reducible refine Kd.C_drew ?_)));(case side2=>exact (Kd.R_reads' HO_158001.out).2.1);rintro e w87 ⟨rfl,hb⟩;refine ⟨_,rfl,?_⟩;have n0_:=rb_ HO_158001 hb;have n1_:=bb_ BK154 hb;have n2_:=bb_ BK157 hb;have n3_:=hs_ HB hb;clear HO_158001;clear BK154;clear BK157;clear HB;have HO_158001:=n0_;have BK154:=n1_;have BK157:=n2_;have HB:=n3_;clear n0_ n1_ n2_ n3_;(try clear hb);(try clear hb2);(try clear hk);(try clear hi);have hcz88_0 : w87.cell? ⟨gb154,0,none⟩ = some (.int .i64 0):=(qh BK154.out 0).trans rfl;have hcz88_1 : w87.cell? ⟨gb154,1,none⟩ = some (.slice none 0 0):=(qh BK154.out 1).trans rfl;have hfz88_0:=qi BK154.out 0;have hfz88_1:=qi BK154.out 1))
                      refine bodyPost_ret (results_ct rfl _ _ gb154 50 #[.int .i64 0,.slice none 0 0] (0,0) _ rfl (by (with_reducible repeat (first|refine qb ?_ _|refine qe ?_|refine qc ?_ _));refine blk_put (cs:=#[.int .i64 0,.slice none 0 0]) ?_ 1 _ rfl;(with_reducible repeat (first|refine qb ?_ _|refine qe ?_|refine qc ?_ _));refine blk_put (cs:=#[.int .i64 0,.slice none 0 0]) ?_ 0 _ rfl;(with_reducible repeat (first|refine qb ?_ _|refine qe ?_|refine qc ?_ _));exact BK154.out) Try.underlying50 rfl (by kernel_rfl)) rfl ?_
                      exact ⟨_,by first|rfl|(simp [errW_none,errW_some] <;> rfl)|(simp [*,errW_none,errW_some] <;> rfl),by first|exact Kd.R_nil _ _ _ _ _|exact Kd.N_nil _ _ _ _ _|exact Kd.V_nil _ _ _ _ _|exact Kd.Q_nil _ _ _ _ _|exact Kd.S_nil _ _ _ _ _,by repeat (first|(with_reducible first|exact HB.out|apply qf|apply qa|apply qd|refine qg ?_ GE154.out|refine qg ?_ GE157.out)|exact HB.out)⟩
        · rw [if_neg c9] at H
          exact absurd H (by simp)

/-! ### impl_SumMore: function 49 -/
mutual
def impl_SumMore.l0 : Nat → Int → ByteArray → Int → Int → Option (Int)
  | 0,_,_,_,_=>none
  | k + 1,x0,x1,x8,x9=>if x9 < x8 then (if 0 ≤ x9 then (if x9 < (x1.size : Int) then (impl_SumMore.l1 k (Go.bits .xor .u32 x0 ((bt x1 x9) % 4294967296)) x1 x8 x9 0) else (none)) else (none)) else (some x0)
def impl_SumMore.l1 : Nat → Int → ByteArray → Int → Int → Int → Option (Int)
  | 0,_,_,_,_,_=>none
  | k + 1,x0,x1,x8,x9,x18=>if x18 < 8 then (if (Go.bits .and .u32 x0 1) = 1 then (impl_SumMore.l1 k (Go.bits .xor .u32 (x0 / 2) 3558460437) x1 x8 x9 (wrap64 (x18 + 1))) else (impl_SumMore.l1 k (x0 / 2) x1 x8 x9 (wrap64 (x18 + 1)))) else (impl_SumMore.l0 k x0 x1 x8 (wrap64 (x9 + 1)))
end
def impl_SumMore.f (k : Nat) (a0 : Int) (a1 : ByteArray) : Option (Int):=impl_SumMore.l0 k a0 a1 (a1.size : Int) 0
theorem impl_SumMore.mono_l : ∀ k,(∀ y0 y1 y2 y3,LeO (impl_SumMore.l0 k y0 y1 y2 y3) (impl_SumMore.l0 (k + 1) y0 y1 y2 y3)) ∧ (∀ y0 y1 y2 y3 y4,LeO (impl_SumMore.l1 k y0 y1 y2 y3 y4) (impl_SumMore.l1 (k + 1) y0 y1 y2 y3 y4))
  | 0=>⟨fun _ _ _ _ r h=>by simp [impl_SumMore.l0] at h,fun _ _ _ _ _ r h=>by simp [impl_SumMore.l1] at h⟩
  | k + 1=>by
    obtain ⟨ih0,ih1⟩:=impl_SumMore.mono_l k
    refine ⟨?_,?_⟩
    · intro y0 y1 y2 y3
      unfold impl_SumMore.l0
      repeat' first
      | (with_reducible exact ih0 _ _ _ _)
      | (with_reducible exact ih1 _ _ _ _ _)
      | (with_reducible exact LeO.refl _)
      | (with_reducible exact LeO.none _)
      | (with_reducible refine LeO.ite ?_ ?_)
      | (with_reducible refine LeO.bind ?_ (fun _=>?_))
      | exact ih0 _ _ _ _
      | exact ih1 _ _ _ _ _
      | exact LeO.none _
      | refine LeO.ite ?_ ?_
      | refine LeO.bind ?_ (fun _=>?_)
    · intro y0 y1 y2 y3 y4
      unfold impl_SumMore.l1
      repeat' first
      | (with_reducible exact ih0 _ _ _ _)
      | (with_reducible exact ih1 _ _ _ _ _)
      | (with_reducible exact LeO.refl _)
      | (with_reducible exact LeO.none _)
      | (with_reducible refine LeO.ite ?_ ?_)
      | (with_reducible refine LeO.bind ?_ (fun _=>?_))
      | exact ih0 _ _ _ _
      | exact ih1 _ _ _ _ _
      | exact LeO.none _
      | refine LeO.ite ?_ ?_
      | refine LeO.bind ?_ (fun _=>?_)
theorem impl_SumMore.mono : ∀ a0 a1 k,LeO (impl_SumMore.f k a0 a1) (impl_SumMore.f (k + 1) a0 a1):=by
  intro a0 a1 k
  obtain ⟨ih0,ih1⟩:=impl_SumMore.mono_l k
  unfold impl_SumMore.f
  repeat' first
      | (with_reducible exact ih0 _ _ _ _)
      | (with_reducible exact ih1 _ _ _ _ _)
      | (with_reducible exact LeO.refl _)
      | (with_reducible exact LeO.none _)
      | (with_reducible refine LeO.ite ?_ ?_)
      | (with_reducible refine LeO.bind ?_ (fun _=>?_))
      | exact ih0 _ _ _ _
      | exact ih1 _ _ _ _ _
      | exact LeO.none _
      | refine LeO.ite ?_ ?_
      | refine LeO.bind ?_ (fun _=>?_)
set_option maxHeartbeats 8000000 in
set_option maxRecDepth 100000 in
theorem impl_SumMore.calls (k : Nat) (a0 : Int) (a1 : ByteArray) (r : Int) (w : World) (h : impl_SumMore.f k a0 a1 = some r) :
    Calls Try.prog 49 #[.int .u32 a0,.string a1] w fun e w'=>e = .returned (.int .u32 r) ∧ Drawn0 w w':=by
  have H : (impl_SumMore.l0 k a0 a1 (a1.size : Int) 0) = some r:=h
  clear h
  have H':=qn.mk H
  clear H
  go_enter Try.func49,Try.ntmps49
  go_wp2
  go_loopg [0,9] k (fun kq v0 v9 w'=>∃ (x0_1 : Int) (x9_1 : Int),v0 = .int .u32 x0_1 ∧ v9 = .int .i64 x9_1 ∧ qn (impl_SumMore.l0 kq x0_1 a1 (a1.size : Int) x9_1 = some r) ∧ qn (kq ≤ k) ∧ Drawn0 w w')
  case atStart=>exact ⟨(a0),(0),(by first|rfl|(simp;done)|(simp [*];done)),(by first|rfl|(simp;done)|(simp [*];done)),H',⟨Nat.le_refl _⟩,by repeat (first|exact Drawn0.refl _|apply Drawn0.step)⟩
  case round =>
    clear H'
    try clear p2
    obtain ⟨x0_1,x9_1,rfl,rfl,HA,HK1,⟨m1,rfl⟩⟩:=hrel
    cases gk with
    | zero=>exact absurd HA.out (by simp [impl_SumMore.l0])
    | succ k1 =>
      have H:=HA.out
      clear HA
      simp only [impl_SumMore.l0] at H
      by_cases c3 : x9_1 < (a1.size : Int)
      · rw [if_pos c3] at H
        have c3b0 : decide (x9_1 < (a1.size : Int)) = true:=decide_eq_true c3
        clear c3
        by_cases c4 : 0 ≤ x9_1
        · rw [if_pos c4] at H
          have c4b0 : decide (0 ≤ x9_1) = true:=decide_eq_true c4
          clear c4
          by_cases c5 : x9_1 < (a1.size : Int)
          · rw [if_pos c5] at H
            have c5b0 : decide (x9_1 < (a1.size : Int)) = true:=decide_eq_true c5
            clear c5
            have H':=qn.mk H
            clear H
            have p6 : 0 ≤ (x9_1 : Int):=of_decide_eq_true (by first|(with_reducible assumption)|assumption)
            have q6 : x9_1 < (a1.size : Int):=of_decide_eq_true (by first|(with_reducible assumption)|assumption)
            have hx6:=bt_at a1 x9_1
            replace p6:=eq_true p6
            replace q6:=eq_true q6
            go_wp2
            go_loopg [0,18] k1 (fun kq v0 v18 w'=>∃ (x0_2 : Int) (x18_2 : Int),v0 = .int .u32 x0_2 ∧ v18 = .int .i64 x18_2 ∧ qn (impl_SumMore.l1 kq x0_2 a1 (a1.size : Int) x9_1 x18_2 = some r) ∧ qn (kq ≤ k1) ∧ Drawn0 w w')
            case atStart=>exact ⟨(Go.bits .xor .u32 x0_1 ((bt a1 x9_1) % 4294967296)),(0),(by first|rfl|(simp;done)|(simp [*];done)),(by first|rfl|(simp;done)|(simp [*];done)),H',⟨Nat.le_refl _⟩,by repeat (first|exact Drawn0.refl _|apply Drawn0.step)⟩
            case round =>
              clear H'
              try clear p2
              try clear c3
              try clear c3b0
              try clear c4
              try clear c4b0
              try clear c5
              try clear c5b0
              try clear p6
              try clear q6
              try clear hx6
              try clear p2
              try clear p6
              try clear q6
              obtain ⟨x0_2,x18_2,rfl,rfl,HA,HK2,⟨m2,rfl⟩⟩:=hrel
              cases gk with
              | zero=>exact absurd HA.out (by simp [impl_SumMore.l1])
              | succ k2 =>
                have H:=HA.out
                clear HA
                simp only [impl_SumMore.l1] at H
                by_cases c7 : x18_2 < 8
                · rw [if_pos c7] at H
                  have c7b0 : decide (x18_2 < 8) = true:=decide_eq_true c7
                  clear c7
                  by_cases c8 : (Go.bits .and .u32 x0_2 1) = 1
                  · rw [if_pos c8] at H
                    have c8b0 : ((Go.bits .and .u32 x0_2 1) == 1) = true:=beq_iff_eq.mpr c8
                    have c8b1 : ((Go.bits .and .u32 x0_2 1) != 1) = false:=bne_eq_false_iff_eq.mpr c8
                    clear c8
                    have H':=qn.mk H
                    clear H
                    go_wp2
                    go_roundg k2
                    case measure=>have:=HK1.out;have:=HK2.out;omega
                    case rel=>exact ⟨(Go.bits .xor .u32 (x0_2 / 2) 3558460437),(wrap64 (x18_2 + 1)),(by first|rfl|(simp;done)|(simp [*];done)),(by first|rfl|(simp;done)|(simp [*];done)),H',⟨by have:=HK1.out;have:=HK2.out;omega⟩,by repeat (first|exact Drawn0.refl _|apply Drawn0.step)⟩
                  · rw [if_neg c8] at H
                    have c8b0 : ((Go.bits .and .u32 x0_2 1) == 1) = false:=beq_eq_false_iff_ne.mpr c8
                    have c8b1 : ((Go.bits .and .u32 x0_2 1) != 1) = true:=bne_iff_ne.mpr c8
                    have H':=qn.mk H
                    clear H
                    go_wp2
                    go_roundg k2
                    case measure=>have:=HK1.out;have:=HK2.out;omega
                    case rel=>exact ⟨(x0_2 / 2),(wrap64 (x18_2 + 1)),(by first|rfl|(simp;done)|(simp [*];done)),(by first|rfl|(simp;done)|(simp [*];done)),H',⟨by have:=HK1.out;have:=HK2.out;omega⟩,by repeat (first|exact Drawn0.refl _|apply Drawn0.step)⟩
                · rw [if_neg c7] at H
                  have c7b0 : decide (x18_2 < 8) = false:=decide_eq_false c7
                  clear c7
                  have H':=qn.mk H
                  clear H
                  go_wp2
                  go_roundg k2
                  case measure=>have:=HK1.out;have:=HK2.out;omega
                  case rel=>exact ⟨(x0_2),(wrap64 (x9_1 + 1)),(by first|rfl|(simp;done)|(simp [*];done)),(by first|rfl|(simp;done)|(simp [*];done)),H',⟨by have:=HK1.out;have:=HK2.out;omega⟩,by repeat (first|exact Drawn0.refl _|apply Drawn0.step)⟩
          · rw [if_neg c5] at H
            exact absurd H (by simp)
        · rw [if_neg c4] at H
          exact absurd H (by simp)
      · rw [if_neg c3] at H
        have c3b0 : decide (x9_1 < (a1.size : Int)) = false:=decide_eq_false c3
        clear c3
        obtain rfl:=Option.some.inj H
        go_wp2
        go_ret
        exact ⟨by first|rfl|(simp;done)|(simp [*];done),by repeat (first|exact Drawn0.refl _|apply Drawn0.step)⟩

/-! ### impl_SumOf: function 50 -/
def impl_SumOf.f (k : Nat) (a0 : ByteArray) : Option (Int):=(impl_SumMore.f k 4294967295 a0).bind fun t182=>(some t182)
theorem impl_SumOf.mono : ∀ a0 k,LeO (impl_SumOf.f k a0) (impl_SumOf.f (k + 1) a0):=by
  intro a0 k
  unfold impl_SumOf.f
  repeat' first
      | (with_reducible exact impl_SumMore.mono _ _ _)
      | (with_reducible exact LeO.refl _)
      | (with_reducible exact LeO.none _)
      | (with_reducible refine LeO.ite ?_ ?_)
      | (with_reducible refine LeO.bind ?_ (fun _=>?_))
      | exact impl_SumMore.mono _ _ _
      | exact LeO.none _
      | refine LeO.ite ?_ ?_
      | refine LeO.bind ?_ (fun _=>?_)
set_option maxHeartbeats 8000000 in
set_option maxRecDepth 100000 in
theorem impl_SumOf.calls (k : Nat) (a0 : ByteArray) (r : Int) (w : World) (h : impl_SumOf.f k a0 = some r) :
    Calls Try.prog 50 #[.string a0] w fun e w'=>e = .returned (.int .u32 r) ∧ Drawn0 w w':=by
  have H : ((impl_SumMore.f k 4294967295 a0).bind fun t182=>(some t182)) = some r:=h
  clear h
  replace H:=Option.bind_eq_some_iff.mp H
  obtain ⟨t182,A20,H⟩:=H
  replace H : (some t182) = some r:=H
  have A2:=qn.mk A20
  clear A20
  obtain rfl:=Option.some.inj H
  go_enter Try.func50,Try.ntmps50
  go_wp2_with (first|((with_reducible refine gate_callee (f:=49) rfl ?_);refine goesL_ (some 4) rfl rfl Try.func49 (by kernel_rfl) rfl #[.int .u32 4294967295,.string a0] rfl (by (try simp only [List.map_toArray,List.map_cons,List.map_nil]);first|done|rfl|(simp only [List.length_drop,List.length_take];rfl)) ?_;(with_reducible refine (impl_SumMore.calls k 4294967295 a0 t182 _ A2.out).mono ?_);rintro e w' ⟨rfl,⟨nd,rfl⟩⟩;refine ⟨_,rfl,?_⟩))
  go_ret
  exact ⟨by first|rfl|(simp;done)|(simp [*];done),by repeat (first|exact Drawn0.refl _|apply Drawn0.step)⟩

end Go.Proofs.Ytfmemcffbfahhaa.QFnExactReadPage
