/- Lean functions for the Go functions that the law FnExactPlaceTree reaches, and that each Go function comes to just its Lean function's answer; by a program of this session. -/
import Derived.Test.YtcnoccefdejphaaZFnExactPlaceTreex0
import Derived.Test.YtcnoccefdejphaaZFnExactPlaceTreex1
namespace Go.Proofs.Ytcnoccefdejphaa.QFnExactPlaceTree
open Go.RowKit Go.Proofs.YtcnoccefdejphaaW.PrintWords Go.Proofs.YtcnoccefdejphaaW.PrintLast Go.Proofs.YtcnoccefdejphaaW.PrintMore
attribute [local go_sem] max2_int min2_int max_two min_two max_three min_three max_four min_four   -- for this text's walks alone
set_option linter.unusedVariables false
set_option linter.unusedSimpArgs false

/-! ### spec_MapOk: function 32 -/
def spec_MapOk.l0 : Nat → List (S69) → Int → Option (Bool)
 | 0,_,_=>none
 | k + 1,x0,x3=>if x3 < (x0.length : Int) then (if 0 ≤ x3 then ((spec_l01In.f (((rd_T69 x0 x3).f0).size : Int) 1 8).bind fun t120=>(if t120 = true then (if (((rd_T69 x0 x3).f1).size : Int) > 40 then (some false) else (if x3 > 0 then (if 0 ≤ (wrap64 (x3 - 1)) then (if (wrap64 (x3 - 1)) < (x0.length : Int) then (if ((Op.bytesLess (((rd_T69 x0 (wrap64 (x3 - 1))).f0).toList) (((rd_T69 x0 x3).f0).toList)) = true) then (spec_MapOk.l0 k x0 (wrap64 (x3 + 1))) else (some false)) else (none)) else (none)) else (spec_MapOk.l0 k x0 (wrap64 (x3 + 1))))) else (some false))) else (none)) else (some true)
def spec_MapOk.f (k : Nat) (l0 : List (S69)) : Option (Bool):=if (l0.length : Int) > 120 then (some false) else (spec_MapOk.l0 k l0 0)
theorem spec_MapOk.mono_l : ∀ k,(∀ y0 y1,LeO (spec_MapOk.l0 k y0 y1) (spec_MapOk.l0 (k + 1) y0 y1))
 | 0=>fun _ _ r h=>by simp [spec_MapOk.l0] at h
 | k + 1=>by
  have ih0:=spec_MapOk.mono_l k
  intro y0 y1
  unfold spec_MapOk.l0
  repeat' first|(with_reducible first|exact ih0 _ _|exact LeO.refl _|exact LeO.none _|refine LeO.ite ?_ ?_|refine LeO.bind ?_ (fun _=>?_))|exact ih0 _ _|exact LeO.none _|refine LeO.ite ?_ ?_|refine LeO.bind ?_ (fun _=>?_)
theorem spec_MapOk.mono : ∀ a0 k,LeO (spec_MapOk.f k a0) (spec_MapOk.f (k + 1) a0):=by
 intro a0 k
 have ih0:=spec_MapOk.mono_l k
 unfold spec_MapOk.f
 repeat' first|(with_reducible first|exact ih0 _ _|exact LeO.refl _|exact LeO.none _|refine LeO.ite ?_ ?_|refine LeO.bind ?_ (fun _=>?_))|exact ih0 _ _|exact LeO.none _|refine LeO.ite ?_ ?_|refine LeO.bind ?_ (fun _=>?_)
def spec_MapOk.T6 : Bool × List (List Nat × List Nat):=(true,[([],[]),([],[]),([0,1],[0,1]),([2],[2]),([3],[3]),([4],[4]),([5],[5]),([6],[6]),([7,6],[7]),([8],[8]),([8],[8]),([9,10,8],[8,9,10]),([11,8],[8,11]),([12,8],[8,12]),([13,8],[8,13]),([14,8],[8,14]),([8,15],[8,15]),([16,8],[16]),([17],[17]),([18,17],[17,18]),([19,17,17],[17,19]),([20],[20]),([20],[20]),([22,20],[20,22]),([21,23,20],[20,21,23]),([24,20],[20,24]),([25,20],[20,25]),([20],[20]),([20],[20]),([27,28,20],[20,27,28]),([29,20],[20,29]),([30,20],[20,30]),([26,31,20],[20,26,31]),([20,32,17],[17,20,32]),([17,33],[17,33])])
def spec_MapOk.B6 : List Nat:=[0,0,3,7,15,31,63,127,255,511,511,2047,4095,8191,16383,32767,65535,131071,262143,524287,1048575,2097151,2097151,6291455,16777215,33554431,67108863,2097151,2097151,404750335,941621247,2015363071,4294967295,8589934591,17179869183]
theorem spec_MapOk.tab6 : rtab .any (opsOf Try.f32 6) = spec_MapOk.T6:=by kernel_rfl
theorem spec_MapOk.bits6 : waitsOk spec_MapOk.T6.2 spec_MapOk.B6 = true:=by kernel_rfl
set_option maxHeartbeats 8000000 in
set_option maxRecDepth 100000 in
theorem spec_MapOk.calls (k : Nat) (A0 : Option Addr) (c0 : Nat) (l0 : List (S69)) (r : Bool) (w : World) (hr0 : Kd.C k69 w A0 l0.length l0) (hc0 : l0.length ≤ c0) (h : spec_MapOk.f k l0 = some r) :
  Calls Try.prog 32 #[.slice A0 l0.length c0] w fun e w'=>e = .returned (.bool r) ∧ Below w.heap.size w w':=by
 have HR0:=qo.mk hr0
 have HC0:=qo.mk hc0
 clear hr0 hc0
 have HB:=qo.mk (Below.refl w.heap.size w)
 have H : (if (l0.length : Int) > 120 then (some false) else (spec_MapOk.l0 k l0 0)) = some r:=h
 clear h
 by_cases c2 : (l0.length : Int) > 120
 ·rw [if_pos c2] at H
  have c2b0 : decide (120 < (l0.length : Int)) = true:=decide_eq_true c2
  have c2b1 : decide (120 < l0.length) = true:=decide_eq_true (by omega)
  clear c2
  obtain rfl:=Option.some.inj H
  go_enter Try.func32,Try.ntmps32
  go_wp2
  go_ret
  exact ⟨rt_,hx_⟩
 rw [if_neg c2] at H
 have c2b0 : decide (120 < (l0.length : Int)) = false:=decide_eq_false c2
 have c2b1 : decide (120 < l0.length) = false:=decide_eq_false (by omega)
 clear c2
 have H':=qo.mk H
 clear H
 go_enter Try.func32,Try.ntmps32
 go_wp2
 go_loopg [3] k (fun kq v3 w'=>∃ (x3_1 : Int),v3 = .int .i64 x3_1 ∧ qo (spec_MapOk.l0 kq l0 x3_1 = some r) ∧ qo (kq ≤ k) ∧ qo (Below w.heap.size w w'))
 case atStart=>exact ⟨(0),rs_,H',⟨Nat.le_refl _⟩,⟨hx_⟩⟩
 clear H'
 try clear c2
 try clear c2b0
 try clear c2b1
 try clear p2
 obtain ⟨x3_1,rfl,HA,HK1,HB⟩:=hrel
 obtain _|k1:=gk
 ·exact absurd HA.out (by simp [spec_MapOk.l0])
 have H:=HA.out
 clear HA
 simp only [spec_MapOk.l0] at H
 by_cases c3 : x3_1 < (l0.length : Int)
 ·rw [if_pos c3] at H
  have c3b0 : decide (x3_1 < (l0.length : Int)) = true:=decide_eq_true c3
  clear c3
  by_cases c4 : 0 ≤ x3_1
  ·rw [if_pos c4] at H
   have c4b0 : decide (0 ≤ x3_1) = true:=decide_eq_true c4
   clear c4
   replace H:=Option.bind_eq_some_iff.mp H
   obtain ⟨t120,A50,H⟩:=H
   replace H : (if t120 = true then (if (((rd_T69 l0 x3_1).f1).size : Int) > 40 then (some false) else (if x3_1 > 0 then (if 0 ≤ (wrap64 (x3_1 - 1)) then (if (wrap64 (x3_1 - 1)) < (l0.length : Int) then (if ((Op.bytesLess (((rd_T69 l0 (wrap64 (x3_1 - 1))).f0).toList) (((rd_T69 l0 x3_1).f0).toList)) = true) then (spec_MapOk.l0 k1 l0 (wrap64 (x3_1 + 1))) else (some false)) else (none)) else (none)) else (spec_MapOk.l0 k1 l0 (wrap64 (x3_1 + 1))))) else (some false)) = some r:=H
   have A5:=qo.mk A50
   clear A50
   by_cases c6 : t120 = true
   ·subst c6
    have H1 : (if (((rd_T69 l0 x3_1).f1).size : Int) > 40 then (some false) else (if x3_1 > 0 then (if 0 ≤ (wrap64 (x3_1 - 1)) then (if (wrap64 (x3_1 - 1)) < (l0.length : Int) then (if ((Op.bytesLess (((rd_T69 l0 (wrap64 (x3_1 - 1))).f0).toList) (((rd_T69 l0 x3_1).f0).toList)) = true) then (spec_MapOk.l0 k1 l0 (wrap64 (x3_1 + 1))) else (some false)) else (none)) else (none)) else (spec_MapOk.l0 k1 l0 (wrap64 (x3_1 + 1))))) = some r:=by rw [if_pos rfl] at H;exact H
    clear H
    have H:=H1
    clear H1
    by_cases c7 : (((rd_T69 l0 x3_1).f1).size : Int) > 40
    ·rw [if_pos c7] at H
     have c7b0 : decide (40 < (((rd_T69 l0 x3_1).f1).size : Int)) = true:=decide_eq_true c7
     have c7b1 : decide (40 < ((rd_T69 l0 x3_1).f1).size) = true:=decide_eq_true (by omega)
     clear c7
     obtain rfl:=Option.some.inj H
     try go_wp2
     replace HB:=qo.mk (qd HB.out)
     have p119 : 0 ≤ (x3_1 : Int):=dt_
     have q119 : x3_1 < (l0.length : Int):=dt_
     obtain ⟨ad119,e119,hx119_0,hx119_1⟩:=at_T69 HR0.out x3_1 p119 q119
     have hw119_1:=hx119_1
     have hw119_0:=hx119_0
     cases e119
     replace hx119_0:=cb_ HB hx119_0
     replace hx119_1:=cb_ HB hx119_1
     replace p119:=eq_true p119
     replace q119:=eq_true q119
     have p121 : 0 ≤ (x3_1 : Int):=dt_
     have q121 : x3_1 < (l0.length : Int):=dt_
     obtain ⟨ad121,e121,hx121_0,hx121_1⟩:=at_T69 HR0.out x3_1 p121 q121
     have hw121_1:=hx121_1
     have hw121_0:=hx121_0
     obtain rfl : ad119 = ad121:=(by injection e121)
     replace hx121_0:=cb_ HB hx121_0
     replace hx121_1:=cb_ HB hx121_1
     replace p121:=eq_true p121
     replace q121:=eq_true q121
     refine start_ (n:=35) (S:=fun w'=>w'.cell? (ad119.add ((x3_1).toNat * 2)) = some (.string ((rd_T69 l0 x3_1).f0)) ∧ w'.cell? ⟨(ad119.add ((x3_1).toNat * 2)).block,(ad119.add ((x3_1).toNat * 2)).off + 1,none⟩ = some (.string ((rd_T69 l0 x3_1).f1)) ∧ w'.cell? (ad119.add ((x3_1).toNat * 2)) = some (.string ((rd_T69 l0 x3_1).f0)) ∧ w'.cell? ⟨(ad119.add ((x3_1).toNat * 2)).block,(ad119.add ((x3_1).toNat * 2)).off + 1,none⟩ = some (.string ((rd_T69 l0 x3_1).f1))) (ds:=[]) (Array.replicate 35 false) (by kernel_rfl) rfl rfl ⟨(cb_ HB hw119_0:),(cb_ HB hw119_1:),(cb_ HB hw121_0:),(cb_ HB hw121_1:)⟩ (fun hHeld=>?_);refine with_tabW spec_MapOk.tab6 spec_MapOk.bits6 (fun HT_ HW_=>?_)
     generalize wr.drew = w8 at HB hx119_0 hx119_1 hx121_0 hx121_1 hHeld ⊢
     refine pt_ 0 13 (bz_ 35 1) ?_
     refine pt_ 1 14 (bz_ 35 3) ?_
     refine pt_ 2 15 (bz_ 35 7) ?_
     refine pt_ 3 16 (bz_ 35 15) ?_
     refine tt_ 4 17 (bz_ 35 31) hHeld (hy:=Or.inl ⟨by rfl,by rintro w' ⟨s0,s1,s2,s3⟩;go_simp;with_reducible rfl⟩) (h:=?_)
     refine pt_ 5 18 (bz_ 35 63) ?_
     refine one_ (i:=6) (N:=some 19) (bz_ 35 127) rfl rfl (one_of HT_.out (by kernel_rfl)) (by decide) (fun K hK=>?_)
     refine goes_ Try.func33 (by kernel_rfl) rfl #[.int .i64 (((rd_T69 l0 x3_1).f0).size : Int),.int .i64 1,.int .i64 8] (by rfl) rfl rfl sm_ ?_
     with_reducible refine (spec_l01In.calls (((rd_T69 l0 x3_1).f0).size : Int) 1 8 true _ A5.out).mono ?_
     rintro e w' ⟨rfl,⟨nd,rfl⟩⟩
     refine ⟨_,rfl,?_⟩
     refine hK.out _ _ ⟨(cb_ HB hw119_0:),(cb_ HB hw119_1:),(cb_ HB hw121_0:),(cb_ HB hw121_1:)⟩ (fun hHeld=>?_)
     clear hK K
     refine norm_ (a':=?_) ?_ ?_
     rotate_left
     ·show Act.put _ (some 19) _ = _
      simp only [Act.put,List.setIfInBounds_toArray,List.set_cons_zero,List.set_cons_succ,i64_w,i32_w]
      rfl
     refine pt_ 7 20 (bz_ 35 255) ?_
     refine pt_ 8 21 (bz_ 35 511) ?_
     refine pt_ 9 22 (bz_ 35 1023) ?_
     refine pt_ 10 23 (bz_ 35 2047) ?_
     refine pt_ 11 24 (bz_ 35 4095) ?_
     refine pt_ 12 25 (bz_ 35 8191) ?_
     refine tt_ 13 26 (bz_ 35 16383) hHeld (hy:=Or.inl ⟨by rfl,by rintro w' ⟨s0,s1,s2,s3⟩;go_simp;with_reducible rfl⟩) (h:=?_)
     refine pt_ 14 27 (bz_ 35 32767) ?_
     refine pt_ 15 28 (bz_ 35 65535) ?_
     refine pt_ 16 29 (bz_ 35 131071) ?_
     refine pt_ 17 30 (bz_ 35 262143) ?_
     refine pu_ 18 31 (bz_ 35 524287) ?_
     refine pu_ 19 32 (bz_ 35 1048575) ?_
     refine pu_ 20 33 (bz_ 35 2097151) ?_
     refine pu_ 21 34 (bz_ 35 4194303) ?_
     refine pu_ 22 35 (bz_ 35 8388607) ?_
     refine pu_ 23 36 (bz_ 35 16777215) ?_
     refine pu_ 24 37 (bz_ 35 33554431) ?_
     refine pu_ 25 38 (bz_ 35 67108863) ?_
     refine pu_ 26 39 (bz_ 35 134217727) ?_
     refine pu_ 27 40 (bz_ 35 268435455) ?_
     refine pu_ 28 41 (bz_ 35 536870911) ?_
     refine pu_ 29 42 (bz_ 35 1073741823) ?_
     refine pu_ 30 43 (bz_ 35 2147483647) ?_
     refine pu_ 31 44 (bz_ 35 4294967295) ?_
     refine pu_ 32 45 (bz_ 35 8589934591) ?_
     refine pu_ 33 46 (bz_ 35 17179869183) ?_
     refine pt_ 34 47 (bz_ 35 34359738367) ?_
     refine done_ (done_of HT_.out (by kernel_rfl)) ?_
     try go_wp2
     go_ret
     exact ⟨rt_,hx_⟩
    rw [if_neg c7] at H
    have c7b0 : decide (40 < (((rd_T69 l0 x3_1).f1).size : Int)) = false:=decide_eq_false c7
    have c7b1 : decide (40 < ((rd_T69 l0 x3_1).f1).size) = false:=decide_eq_false (by omega)
    clear c7
    by_cases c9 : x3_1 > 0
    ·rw [if_pos c9] at H
     have c9b0 : decide (0 < x3_1) = true:=decide_eq_true c9
     clear c9
     obtain ⟨ji10,hji10⟩ : ∃ j_ : Int,(wrap64 (x3_1 - 1)) = j_:=⟨_,rfl⟩
     replace H : (if 0 ≤ (ji10) then (if (ji10) < (l0.length : Int) then (if ((Op.bytesLess (((rd_T69 l0 (ji10)).f0).toList) (((rd_T69 l0 x3_1).f0).toList)) = true) then (spec_MapOk.l0 k1 l0 (wrap64 (x3_1 + 1))) else (some false)) else (none)) else (none)) = some r:=by first|(rw [hji10] at H;exact H)|(simp only [hji10] at H ⊢;exact H)
     (try rw [hji10] at A5)
     have hji10w : (IntKind.i64.wrap (x3_1 - 1)) = ji10:=(i64_w _).trans hji10
     by_cases c11 : 0 ≤ (ji10)
     ·rw [if_pos c11] at H
      have c11b0 : decide (0 ≤ (ji10)) = true:=decide_eq_true c11
      clear c11
      by_cases c12 : (ji10) < (l0.length : Int)
      ·rw [if_pos c12] at H
       have c12b0 : decide ((ji10) < (l0.length : Int)) = true:=decide_eq_true c12
       clear c12
       by_cases c13 : ((Op.bytesLess (((rd_T69 l0 (ji10)).f0).toList) (((rd_T69 l0 x3_1).f0).toList)) = true)
       ·rw [if_pos c13] at H
        have c13b0 : (Op.bytesLess (((rd_T69 l0 (ji10)).f0).toList) (((rd_T69 l0 x3_1).f0).toList)) = true:=c13
        clear c13
        have H':=qo.mk H
        clear H
        try go_wp2
        replace HB:=qo.mk (qd HB.out)
        have p119 : 0 ≤ (x3_1 : Int):=dt_
        have q119 : x3_1 < (l0.length : Int):=dt_
        obtain ⟨ad119,e119,hx119_0,hx119_1⟩:=at_T69 HR0.out x3_1 p119 q119
        have hw119_1:=hx119_1
        have hw119_0:=hx119_0
        cases e119
        replace hx119_0:=cb_ HB hx119_0
        replace hx119_1:=cb_ HB hx119_1
        replace p119:=eq_true p119
        replace q119:=eq_true q119
        have p121 : 0 ≤ (x3_1 : Int):=dt_
        have q121 : x3_1 < (l0.length : Int):=dt_
        obtain ⟨ad121,e121,hx121_0,hx121_1⟩:=at_T69 HR0.out x3_1 p121 q121
        have hw121_1:=hx121_1
        have hw121_0:=hx121_0
        obtain rfl : ad119 = ad121:=(by injection e121)
        replace hx121_0:=cb_ HB hx121_0
        replace hx121_1:=cb_ HB hx121_1
        replace p121:=eq_true p121
        replace q121:=eq_true q121
        have p122 : 0 ≤ ((ji10) : Int):=dt_
        have q122 : (ji10) < (l0.length : Int):=dt_
        obtain ⟨ad122,e122,hx122_0,hx122_1⟩:=at_T69 HR0.out (ji10) p122 q122
        have hw122_1:=hx122_1
        have hw122_0:=hx122_0
        obtain rfl : ad119 = ad122:=(by injection e122)
        replace hx122_0:=cb_ HB hx122_0
        replace hx122_1:=cb_ HB hx122_1
        replace p122:=eq_true p122
        replace q122:=eq_true q122
        have p123 : 0 ≤ (x3_1 : Int):=dt_
        have q123 : x3_1 < (l0.length : Int):=dt_
        obtain ⟨ad123,e123,hx123_0,hx123_1⟩:=at_T69 HR0.out x3_1 p123 q123
        have hw123_1:=hx123_1
        have hw123_0:=hx123_0
        obtain rfl : ad119 = ad123:=(by injection e123)
        replace hx123_0:=cb_ HB hx123_0
        replace hx123_1:=cb_ HB hx123_1
        replace p123:=eq_true p123
        replace q123:=eq_true q123
        refine start_ (n:=35) (S:=fun w'=>w'.cell? (ad119.add ((x3_1).toNat * 2)) = some (.string ((rd_T69 l0 x3_1).f0)) ∧ w'.cell? ⟨(ad119.add ((x3_1).toNat * 2)).block,(ad119.add ((x3_1).toNat * 2)).off + 1,none⟩ = some (.string ((rd_T69 l0 x3_1).f1)) ∧ w'.cell? (ad119.add ((x3_1).toNat * 2)) = some (.string ((rd_T69 l0 x3_1).f0)) ∧ w'.cell? ⟨(ad119.add ((x3_1).toNat * 2)).block,(ad119.add ((x3_1).toNat * 2)).off + 1,none⟩ = some (.string ((rd_T69 l0 x3_1).f1)) ∧ w'.cell? (ad119.add (((ji10)).toNat * 2)) = some (.string ((rd_T69 l0 (ji10)).f0)) ∧ w'.cell? ⟨(ad119.add (((ji10)).toNat * 2)).block,(ad119.add (((ji10)).toNat * 2)).off + 1,none⟩ = some (.string ((rd_T69 l0 (ji10)).f1)) ∧ w'.cell? (ad119.add ((x3_1).toNat * 2)) = some (.string ((rd_T69 l0 x3_1).f0)) ∧ w'.cell? ⟨(ad119.add ((x3_1).toNat * 2)).block,(ad119.add ((x3_1).toNat * 2)).off + 1,none⟩ = some (.string ((rd_T69 l0 x3_1).f1))) (ds:=[]) (Array.replicate 35 false) (by kernel_rfl) rfl rfl ⟨(cb_ HB hw119_0:),(cb_ HB hw119_1:),(cb_ HB hw121_0:),(cb_ HB hw121_1:),(cb_ HB hw122_0:),(cb_ HB hw122_1:),(cb_ HB hw123_0:),(cb_ HB hw123_1:)⟩ (fun hHeld=>?_);refine with_tabW spec_MapOk.tab6 spec_MapOk.bits6 (fun HT_ HW_=>?_)
        generalize wr.drew = w14 at HB hx119_0 hx119_1 hx121_0 hx121_1 hx122_0 hx122_1 hx123_0 hx123_1 hHeld ⊢
        refine pt_ 0 13 (bz_ 35 1) ?_
        refine pt_ 1 14 (bz_ 35 3) ?_
        refine pt_ 2 15 (bz_ 35 7) ?_
        refine pt_ 3 16 (bz_ 35 15) ?_
        refine tt_ 4 17 (bz_ 35 31) hHeld (hy:=Or.inl ⟨by rfl,by rintro w' ⟨s0,s1,s2,s3,s4,s5,s6,s7⟩;go_simp;with_reducible rfl⟩) (h:=?_)
        refine pt_ 5 18 (bz_ 35 63) ?_
        refine one_ (i:=6) (N:=some 19) (bz_ 35 127) rfl rfl (one_of HT_.out (by kernel_rfl)) (by decide) (fun K hK=>?_)
        refine goes_ Try.func33 (by kernel_rfl) rfl #[.int .i64 (((rd_T69 l0 x3_1).f0).size : Int),.int .i64 1,.int .i64 8] (by rfl) rfl rfl sm_ ?_
        with_reducible refine (spec_l01In.calls (((rd_T69 l0 x3_1).f0).size : Int) 1 8 true _ A5.out).mono ?_
        rintro e w' ⟨rfl,⟨nd,rfl⟩⟩
        refine ⟨_,rfl,?_⟩
        refine hK.out _ _ ⟨(cb_ HB hw119_0:),(cb_ HB hw119_1:),(cb_ HB hw121_0:),(cb_ HB hw121_1:),(cb_ HB hw122_0:),(cb_ HB hw122_1:),(cb_ HB hw123_0:),(cb_ HB hw123_1:)⟩ (fun hHeld=>?_)
        clear hK K
        refine norm_ (a':=?_) ?_ ?_
        rotate_left
        ·show Act.put _ (some 19) _ = _
         simp only [Act.put,List.setIfInBounds_toArray,List.set_cons_zero,List.set_cons_succ,i64_w,i32_w]
         rfl
        refine pt_ 7 20 (bz_ 35 255) ?_
        refine pt_ 8 21 (bz_ 35 511) ?_
        refine pt_ 9 22 (bz_ 35 1023) ?_
        refine pt_ 10 23 (bz_ 35 2047) ?_
        refine pt_ 11 24 (bz_ 35 4095) ?_
        refine pt_ 12 25 (bz_ 35 8191) ?_
        refine tt_ 13 26 (bz_ 35 16383) hHeld (hy:=Or.inl ⟨by rfl,by rintro w' ⟨s0,s1,s2,s3,s4,s5,s6,s7⟩;go_simp;with_reducible rfl⟩) (h:=?_)
        refine pt_ 14 27 (bz_ 35 32767) ?_
        refine pt_ 15 28 (bz_ 35 65535) ?_
        refine pt_ 16 29 (bz_ 35 131071) ?_
        refine pt_ 17 30 (bz_ 35 262143) ?_
        refine pt_ 18 31 (bz_ 35 524287) ?_
        refine pt_ 19 32 (bz_ 35 1048575) ?_
        refine pt_ 20 33 (bz_ 35 2097151) ?_
        refine pt_ 21 34 (bz_ 35 4194303) ?_
        refine pt_ 22 35 (bz_ 35 8388607) ?_
        refine pt_ 23 36 (bz_ 35 16777215) ?_
        refine pt_ 24 37 (bz_ 35 33554431) ?_
        refine pt_ 25 38 (bz_ 35 67108863) ?_
        refine pt_ 27 40 (bz_ 35 201326591) ?_
        refine pt_ 28 41 (bz_ 35 469762047) ?_
        refine pt_ 29 42 (bz_ 35 1006632959) ?_
        refine pt_ 30 43 (bz_ 35 2080374783) ?_
        refine tt_ 26 39 (bz_ 35 2147483647) hHeld (hy:=Or.inl ⟨by rfl,by rintro w' ⟨s0,s1,s2,s3,s4,s5,s6,s7⟩;go_simp;with_reducible rfl⟩) (h:=?_)
        refine tt_ 31 44 (bz_ 35 4294967295) hHeld (hy:=Or.inl ⟨by rfl,by rintro w' ⟨s0,s1,s2,s3,s4,s5,s6,s7⟩;go_simp;with_reducible rfl⟩) (h:=?_)
        refine pt_ 32 45 (bz_ 35 8589934591) ?_
        refine pt_ 33 46 (bz_ 35 17179869183) ?_
        refine pt_ 34 47 (bz_ 35 34359738367) ?_
        refine done_ (done_of HT_.out (by kernel_rfl)) ?_
        try go_wp2
        go_roundg k1
        case measure=>have:=HK1.out;omega
        case rel=>exact ⟨(wrap64 (x3_1 + 1)),rs_,H',⟨by have:=HK1.out;omega⟩,⟨hx_⟩⟩
       rw [if_neg c13] at H
       have c13b0 : (Op.bytesLess (((rd_T69 l0 (ji10)).f0).toList) (((rd_T69 l0 x3_1).f0).toList)) = false:=by simpa using c13
       clear c13
       obtain rfl:=Option.some.inj H
       try go_wp2
       replace HB:=qo.mk (qd HB.out)
       have p119 : 0 ≤ (x3_1 : Int):=dt_
       have q119 : x3_1 < (l0.length : Int):=dt_
       obtain ⟨ad119,e119,hx119_0,hx119_1⟩:=at_T69 HR0.out x3_1 p119 q119
       have hw119_1:=hx119_1
       have hw119_0:=hx119_0
       cases e119
       replace hx119_0:=cb_ HB hx119_0
       replace hx119_1:=cb_ HB hx119_1
       replace p119:=eq_true p119
       replace q119:=eq_true q119
       have p121 : 0 ≤ (x3_1 : Int):=dt_
       have q121 : x3_1 < (l0.length : Int):=dt_
       obtain ⟨ad121,e121,hx121_0,hx121_1⟩:=at_T69 HR0.out x3_1 p121 q121
       have hw121_1:=hx121_1
       have hw121_0:=hx121_0
       obtain rfl : ad119 = ad121:=(by injection e121)
       replace hx121_0:=cb_ HB hx121_0
       replace hx121_1:=cb_ HB hx121_1
       replace p121:=eq_true p121
       replace q121:=eq_true q121
       have p122 : 0 ≤ ((ji10) : Int):=dt_
       have q122 : (ji10) < (l0.length : Int):=dt_
       obtain ⟨ad122,e122,hx122_0,hx122_1⟩:=at_T69 HR0.out (ji10) p122 q122
       have hw122_1:=hx122_1
       have hw122_0:=hx122_0
       obtain rfl : ad119 = ad122:=(by injection e122)
       replace hx122_0:=cb_ HB hx122_0
       replace hx122_1:=cb_ HB hx122_1
       replace p122:=eq_true p122
       replace q122:=eq_true q122
       have p123 : 0 ≤ (x3_1 : Int):=dt_
       have q123 : x3_1 < (l0.length : Int):=dt_
       obtain ⟨ad123,e123,hx123_0,hx123_1⟩:=at_T69 HR0.out x3_1 p123 q123
       have hw123_1:=hx123_1
       have hw123_0:=hx123_0
       obtain rfl : ad119 = ad123:=(by injection e123)
       replace hx123_0:=cb_ HB hx123_0
       replace hx123_1:=cb_ HB hx123_1
       replace p123:=eq_true p123
       replace q123:=eq_true q123
       refine start_ (n:=35) (S:=fun w'=>w'.cell? (ad119.add ((x3_1).toNat * 2)) = some (.string ((rd_T69 l0 x3_1).f0)) ∧ w'.cell? ⟨(ad119.add ((x3_1).toNat * 2)).block,(ad119.add ((x3_1).toNat * 2)).off + 1,none⟩ = some (.string ((rd_T69 l0 x3_1).f1)) ∧ w'.cell? (ad119.add ((x3_1).toNat * 2)) = some (.string ((rd_T69 l0 x3_1).f0)) ∧ w'.cell? ⟨(ad119.add ((x3_1).toNat * 2)).block,(ad119.add ((x3_1).toNat * 2)).off + 1,none⟩ = some (.string ((rd_T69 l0 x3_1).f1)) ∧ w'.cell? (ad119.add (((ji10)).toNat * 2)) = some (.string ((rd_T69 l0 (ji10)).f0)) ∧ w'.cell? ⟨(ad119.add (((ji10)).toNat * 2)).block,(ad119.add (((ji10)).toNat * 2)).off + 1,none⟩ = some (.string ((rd_T69 l0 (ji10)).f1)) ∧ w'.cell? (ad119.add ((x3_1).toNat * 2)) = some (.string ((rd_T69 l0 x3_1).f0)) ∧ w'.cell? ⟨(ad119.add ((x3_1).toNat * 2)).block,(ad119.add ((x3_1).toNat * 2)).off + 1,none⟩ = some (.string ((rd_T69 l0 x3_1).f1))) (ds:=[]) (Array.replicate 35 false) (by kernel_rfl) rfl rfl ⟨(cb_ HB hw119_0:),(cb_ HB hw119_1:),(cb_ HB hw121_0:),(cb_ HB hw121_1:),(cb_ HB hw122_0:),(cb_ HB hw122_1:),(cb_ HB hw123_0:),(cb_ HB hw123_1:)⟩ (fun hHeld=>?_);refine with_tabW spec_MapOk.tab6 spec_MapOk.bits6 (fun HT_ HW_=>?_)
       generalize wr.drew = w15 at HB hx119_0 hx119_1 hx121_0 hx121_1 hx122_0 hx122_1 hx123_0 hx123_1 hHeld ⊢
       refine pt_ 0 13 (bz_ 35 1) ?_
       refine pt_ 1 14 (bz_ 35 3) ?_
       refine pt_ 2 15 (bz_ 35 7) ?_
       refine pt_ 3 16 (bz_ 35 15) ?_
       refine tt_ 4 17 (bz_ 35 31) hHeld (hy:=Or.inl ⟨by rfl,by rintro w' ⟨s0,s1,s2,s3,s4,s5,s6,s7⟩;go_simp;with_reducible rfl⟩) (h:=?_)
       refine pt_ 5 18 (bz_ 35 63) ?_
       refine one_ (i:=6) (N:=some 19) (bz_ 35 127) rfl rfl (one_of HT_.out (by kernel_rfl)) (by decide) (fun K hK=>?_)
       refine goes_ Try.func33 (by kernel_rfl) rfl #[.int .i64 (((rd_T69 l0 x3_1).f0).size : Int),.int .i64 1,.int .i64 8] (by rfl) rfl rfl sm_ ?_
       with_reducible refine (spec_l01In.calls (((rd_T69 l0 x3_1).f0).size : Int) 1 8 true _ A5.out).mono ?_
       rintro e w' ⟨rfl,⟨nd,rfl⟩⟩
       refine ⟨_,rfl,?_⟩
       refine hK.out _ _ ⟨(cb_ HB hw119_0:),(cb_ HB hw119_1:),(cb_ HB hw121_0:),(cb_ HB hw121_1:),(cb_ HB hw122_0:),(cb_ HB hw122_1:),(cb_ HB hw123_0:),(cb_ HB hw123_1:)⟩ (fun hHeld=>?_)
       clear hK K
       refine norm_ (a':=?_) ?_ ?_
       rotate_left
       ·show Act.put _ (some 19) _ = _
        simp only [Act.put,List.setIfInBounds_toArray,List.set_cons_zero,List.set_cons_succ,i64_w,i32_w]
        rfl
       refine pt_ 7 20 (bz_ 35 255) ?_
       refine pt_ 8 21 (bz_ 35 511) ?_
       refine pt_ 9 22 (bz_ 35 1023) ?_
       refine pt_ 10 23 (bz_ 35 2047) ?_
       refine pt_ 11 24 (bz_ 35 4095) ?_
       refine pt_ 12 25 (bz_ 35 8191) ?_
       refine tt_ 13 26 (bz_ 35 16383) hHeld (hy:=Or.inl ⟨by rfl,by rintro w' ⟨s0,s1,s2,s3,s4,s5,s6,s7⟩;go_simp;with_reducible rfl⟩) (h:=?_)
       refine pt_ 14 27 (bz_ 35 32767) ?_
       refine pt_ 15 28 (bz_ 35 65535) ?_
       refine pt_ 16 29 (bz_ 35 131071) ?_
       refine pt_ 17 30 (bz_ 35 262143) ?_
       refine pt_ 18 31 (bz_ 35 524287) ?_
       refine pt_ 19 32 (bz_ 35 1048575) ?_
       refine pt_ 20 33 (bz_ 35 2097151) ?_
       refine pt_ 21 34 (bz_ 35 4194303) ?_
       refine pt_ 22 35 (bz_ 35 8388607) ?_
       refine pt_ 23 36 (bz_ 35 16777215) ?_
       refine pt_ 24 37 (bz_ 35 33554431) ?_
       refine pt_ 25 38 (bz_ 35 67108863) ?_
       refine pt_ 27 40 (bz_ 35 201326591) ?_
       refine pt_ 28 41 (bz_ 35 469762047) ?_
       refine pt_ 29 42 (bz_ 35 1006632959) ?_
       refine pt_ 30 43 (bz_ 35 2080374783) ?_
       refine tt_ 26 39 (bz_ 35 2147483647) hHeld (hy:=Or.inl ⟨by rfl,by rintro w' ⟨s0,s1,s2,s3,s4,s5,s6,s7⟩;go_simp;with_reducible rfl⟩) (h:=?_)
       refine tt_ 31 44 (bz_ 35 4294967295) hHeld (hy:=Or.inl ⟨by rfl,by rintro w' ⟨s0,s1,s2,s3,s4,s5,s6,s7⟩;go_simp;with_reducible rfl⟩) (h:=?_)
       refine pt_ 32 45 (bz_ 35 8589934591) ?_
       refine pt_ 33 46 (bz_ 35 17179869183) ?_
       refine pt_ 34 47 (bz_ 35 34359738367) ?_
       refine done_ (done_of HT_.out (by kernel_rfl)) ?_
       try go_wp2
       go_ret
       exact ⟨by first|rfl|(simp [errW_none,errW_some] <;> rfl)|(simp only [← hji10];first|rfl|(simp [errW_none,errW_some] <;> rfl))|(simp [*,errW_none,errW_some] <;> rfl),hx_⟩
      rw [if_neg c12] at H
      exact absurd H (by simp)
     rw [if_neg c11] at H
     exact absurd H (by simp)
    rw [if_neg c9] at H
    have c9b0 : decide (0 < x3_1) = false:=decide_eq_false c9
    clear c9
    have H':=qo.mk H
    clear H
    try go_wp2
    replace HB:=qo.mk (qd HB.out)
    have p119 : 0 ≤ (x3_1 : Int):=dt_
    have q119 : x3_1 < (l0.length : Int):=dt_
    obtain ⟨ad119,e119,hx119_0,hx119_1⟩:=at_T69 HR0.out x3_1 p119 q119
    have hw119_1:=hx119_1
    have hw119_0:=hx119_0
    cases e119
    replace hx119_0:=cb_ HB hx119_0
    replace hx119_1:=cb_ HB hx119_1
    replace p119:=eq_true p119
    replace q119:=eq_true q119
    have p121 : 0 ≤ (x3_1 : Int):=dt_
    have q121 : x3_1 < (l0.length : Int):=dt_
    obtain ⟨ad121,e121,hx121_0,hx121_1⟩:=at_T69 HR0.out x3_1 p121 q121
    have hw121_1:=hx121_1
    have hw121_0:=hx121_0
    obtain rfl : ad119 = ad121:=(by injection e121)
    replace hx121_0:=cb_ HB hx121_0
    replace hx121_1:=cb_ HB hx121_1
    replace p121:=eq_true p121
    replace q121:=eq_true q121
    refine start_ (n:=35) (S:=fun w'=>w'.cell? (ad119.add ((x3_1).toNat * 2)) = some (.string ((rd_T69 l0 x3_1).f0)) ∧ w'.cell? ⟨(ad119.add ((x3_1).toNat * 2)).block,(ad119.add ((x3_1).toNat * 2)).off + 1,none⟩ = some (.string ((rd_T69 l0 x3_1).f1)) ∧ w'.cell? (ad119.add ((x3_1).toNat * 2)) = some (.string ((rd_T69 l0 x3_1).f0)) ∧ w'.cell? ⟨(ad119.add ((x3_1).toNat * 2)).block,(ad119.add ((x3_1).toNat * 2)).off + 1,none⟩ = some (.string ((rd_T69 l0 x3_1).f1))) (ds:=[]) (Array.replicate 35 false) (by kernel_rfl) rfl rfl ⟨(cb_ HB hw119_0:),(cb_ HB hw119_1:),(cb_ HB hw121_0:),(cb_ HB hw121_1:)⟩ (fun hHeld=>?_);refine with_tabW spec_MapOk.tab6 spec_MapOk.bits6 (fun HT_ HW_=>?_)
    generalize wr.drew = w16 at HB hx119_0 hx119_1 hx121_0 hx121_1 hHeld ⊢
    refine pt_ 0 13 (bz_ 35 1) ?_
    refine pt_ 1 14 (bz_ 35 3) ?_
    refine pt_ 2 15 (bz_ 35 7) ?_
    refine pt_ 3 16 (bz_ 35 15) ?_
    refine tt_ 4 17 (bz_ 35 31) hHeld (hy:=Or.inl ⟨by rfl,by rintro w' ⟨s0,s1,s2,s3⟩;go_simp;with_reducible rfl⟩) (h:=?_)
    refine pt_ 5 18 (bz_ 35 63) ?_
    refine one_ (i:=6) (N:=some 19) (bz_ 35 127) rfl rfl (one_of HT_.out (by kernel_rfl)) (by decide) (fun K hK=>?_)
    refine goes_ Try.func33 (by kernel_rfl) rfl #[.int .i64 (((rd_T69 l0 x3_1).f0).size : Int),.int .i64 1,.int .i64 8] (by rfl) rfl rfl sm_ ?_
    with_reducible refine (spec_l01In.calls (((rd_T69 l0 x3_1).f0).size : Int) 1 8 true _ A5.out).mono ?_
    rintro e w' ⟨rfl,⟨nd,rfl⟩⟩
    refine ⟨_,rfl,?_⟩
    refine hK.out _ _ ⟨(cb_ HB hw119_0:),(cb_ HB hw119_1:),(cb_ HB hw121_0:),(cb_ HB hw121_1:)⟩ (fun hHeld=>?_)
    clear hK K
    refine norm_ (a':=?_) ?_ ?_
    rotate_left
    ·show Act.put _ (some 19) _ = _
     simp only [Act.put,List.setIfInBounds_toArray,List.set_cons_zero,List.set_cons_succ,i64_w,i32_w]
     rfl
    refine pt_ 7 20 (bz_ 35 255) ?_
    refine pt_ 8 21 (bz_ 35 511) ?_
    refine pt_ 9 22 (bz_ 35 1023) ?_
    refine pt_ 10 23 (bz_ 35 2047) ?_
    refine pt_ 11 24 (bz_ 35 4095) ?_
    refine pt_ 12 25 (bz_ 35 8191) ?_
    refine tt_ 13 26 (bz_ 35 16383) hHeld (hy:=Or.inl ⟨by rfl,by rintro w' ⟨s0,s1,s2,s3⟩;go_simp;with_reducible rfl⟩) (h:=?_)
    refine pt_ 14 27 (bz_ 35 32767) ?_
    refine pt_ 15 28 (bz_ 35 65535) ?_
    refine pt_ 16 29 (bz_ 35 131071) ?_
    refine pt_ 17 30 (bz_ 35 262143) ?_
    refine pt_ 18 31 (bz_ 35 524287) ?_
    refine pt_ 19 32 (bz_ 35 1048575) ?_
    refine pt_ 20 33 (bz_ 35 2097151) ?_
    refine pu_ 21 34 (bz_ 35 4194303) ?_
    refine pu_ 22 35 (bz_ 35 8388607) ?_
    refine pu_ 23 36 (bz_ 35 16777215) ?_
    refine pu_ 24 37 (bz_ 35 33554431) ?_
    refine pu_ 25 38 (bz_ 35 67108863) ?_
    refine pu_ 26 39 (bz_ 35 134217727) ?_
    refine pu_ 27 40 (bz_ 35 268435455) ?_
    refine pu_ 28 41 (bz_ 35 536870911) ?_
    refine pu_ 29 42 (bz_ 35 1073741823) ?_
    refine pu_ 30 43 (bz_ 35 2147483647) ?_
    refine pu_ 31 44 (bz_ 35 4294967295) ?_
    refine pu_ 32 45 (bz_ 35 8589934591) ?_
    refine pt_ 33 46 (bz_ 35 17179869183) ?_
    refine pt_ 34 47 (bz_ 35 34359738367) ?_
    refine done_ (done_of HT_.out (by kernel_rfl)) ?_
    try go_wp2
    go_roundg k1
    case measure=>have:=HK1.out;omega
    case rel=>exact ⟨(wrap64 (x3_1 + 1)),rs_,H',⟨by have:=HK1.out;omega⟩,⟨hx_⟩⟩
   replace c6:=Bool.eq_false_iff.mpr c6
   subst c6
   have H1 : (some false) = some r:=by rw [if_neg (show ¬ (false = true) by decide)] at H;exact H
   clear H
   have H:=H1
   clear H1
   obtain rfl:=Option.some.inj H
   try go_wp2
   replace HB:=qo.mk (qd HB.out)
   have p119 : 0 ≤ (x3_1 : Int):=dt_
   have q119 : x3_1 < (l0.length : Int):=dt_
   obtain ⟨ad119,e119,hx119_0,hx119_1⟩:=at_T69 HR0.out x3_1 p119 q119
   have hw119_1:=hx119_1
   have hw119_0:=hx119_0
   cases e119
   replace hx119_0:=cb_ HB hx119_0
   replace hx119_1:=cb_ HB hx119_1
   replace p119:=eq_true p119
   replace q119:=eq_true q119
   refine start_ (n:=35) (S:=fun w'=>w'.cell? (ad119.add ((x3_1).toNat * 2)) = some (.string ((rd_T69 l0 x3_1).f0)) ∧ w'.cell? ⟨(ad119.add ((x3_1).toNat * 2)).block,(ad119.add ((x3_1).toNat * 2)).off + 1,none⟩ = some (.string ((rd_T69 l0 x3_1).f1))) (ds:=[]) (Array.replicate 35 false) (by kernel_rfl) rfl rfl ⟨(cb_ HB hw119_0:),(cb_ HB hw119_1:)⟩ (fun hHeld=>?_);refine with_tabW spec_MapOk.tab6 spec_MapOk.bits6 (fun HT_ HW_=>?_)
   generalize wr.drew = w17 at HB hx119_0 hx119_1 hHeld ⊢
   refine pt_ 0 13 (bz_ 35 1) ?_
   refine pt_ 1 14 (bz_ 35 3) ?_
   refine pt_ 2 15 (bz_ 35 7) ?_
   refine pt_ 3 16 (bz_ 35 15) ?_
   refine tt_ 4 17 (bz_ 35 31) hHeld (hy:=Or.inl ⟨by rfl,by rintro w' ⟨s0,s1⟩;go_simp;with_reducible rfl⟩) (h:=?_)
   refine pt_ 5 18 (bz_ 35 63) ?_
   refine one_ (i:=6) (N:=some 19) (bz_ 35 127) rfl rfl (one_of HT_.out (by kernel_rfl)) (by decide) (fun K hK=>?_)
   refine goes_ Try.func33 (by kernel_rfl) rfl #[.int .i64 (((rd_T69 l0 x3_1).f0).size : Int),.int .i64 1,.int .i64 8] (by rfl) rfl rfl sm_ ?_
   with_reducible refine (spec_l01In.calls (((rd_T69 l0 x3_1).f0).size : Int) 1 8 false _ A5.out).mono ?_
   rintro e w' ⟨rfl,⟨nd,rfl⟩⟩
   refine ⟨_,rfl,?_⟩
   refine hK.out _ _ ⟨(cb_ HB hw119_0:),(cb_ HB hw119_1:)⟩ (fun hHeld=>?_)
   clear hK K
   refine norm_ (a':=?_) ?_ ?_
   rotate_left
   ·show Act.put _ (some 19) _ = _
    simp only [Act.put,List.setIfInBounds_toArray,List.set_cons_zero,List.set_cons_succ,i64_w,i32_w]
    rfl
   refine pt_ 7 20 (bz_ 35 255) ?_
   refine pt_ 8 21 (bz_ 35 511) ?_
   refine pu_ 9 22 (bz_ 35 1023) ?_
   refine pu_ 10 23 (bz_ 35 2047) ?_
   refine pu_ 11 24 (bz_ 35 4095) ?_
   refine pu_ 12 25 (bz_ 35 8191) ?_
   refine pu_ 13 26 (bz_ 35 16383) ?_
   refine pu_ 14 27 (bz_ 35 32767) ?_
   refine pu_ 15 28 (bz_ 35 65535) ?_
   refine pt_ 16 29 (bz_ 35 131071) ?_
   refine pt_ 17 30 (bz_ 35 262143) ?_
   refine pu_ 18 31 (bz_ 35 524287) ?_
   refine pu_ 19 32 (bz_ 35 1048575) ?_
   refine pu_ 20 33 (bz_ 35 2097151) ?_
   refine pu_ 21 34 (bz_ 35 4194303) ?_
   refine pu_ 22 35 (bz_ 35 8388607) ?_
   refine pu_ 23 36 (bz_ 35 16777215) ?_
   refine pu_ 24 37 (bz_ 35 33554431) ?_
   refine pu_ 25 38 (bz_ 35 67108863) ?_
   refine pu_ 26 39 (bz_ 35 134217727) ?_
   refine pu_ 27 40 (bz_ 35 268435455) ?_
   refine pu_ 28 41 (bz_ 35 536870911) ?_
   refine pu_ 29 42 (bz_ 35 1073741823) ?_
   refine pu_ 30 43 (bz_ 35 2147483647) ?_
   refine pu_ 31 44 (bz_ 35 4294967295) ?_
   refine pu_ 32 45 (bz_ 35 8589934591) ?_
   refine pu_ 33 46 (bz_ 35 17179869183) ?_
   refine pt_ 34 47 (bz_ 35 34359738367) ?_
   refine done_ (done_of HT_.out (by kernel_rfl)) ?_
   try go_wp2
   go_ret
   exact ⟨rt_,hx_⟩
  rw [if_neg c4] at H
  exact absurd H (by simp)
 rw [if_neg c3] at H
 have c3b0 : decide (x3_1 < (l0.length : Int)) = false:=decide_eq_false c3
 clear c3
 obtain rfl:=Option.some.inj H
 go_wp2
 go_ret
 exact ⟨rt_,hx_⟩

end Go.Proofs.Ytcnoccefdejphaa.QFnExactPlaceTree
