/- Lean functions for the Go functions that the law FnTrees reaches, and that each Go function comes to just its Lean function's answer; by a program of this session. -/
import Derived.Test.YtcnoccefdejphaaZFnTreesx0
namespace Go.Proofs.Ytcnoccefdejphaa.QFnTrees
open Go.RowKit Go.Proofs.YtcnoccefdejphaaW.PrintWords Go.Proofs.YtcnoccefdejphaaW.PrintLast Go.Proofs.YtcnoccefdejphaaW.PrintMore
attribute [local go_sem] max2_int min2_int max_two min_two max_three min_three max_four min_four   -- for this text's walks alone
set_option linter.unusedVariables false
set_option linter.unusedSimpArgs false

/-! ### impl_in: function 42 -/
def impl_in.f (a0 : Int) (a1 : Int) (a2 : Int) : Option (Bool):=if a0 ≥ a1 then (some (decide (a0 ≤ a2))) else (some false)
set_option maxHeartbeats 8000000 in
set_option maxRecDepth 100000 in
theorem impl_in.calls (a0 : Int) (a1 : Int) (a2 : Int) (r : Bool) (w : World) (h : impl_in.f a0 a1 a2 = some r) :
  Calls Try.prog 42 #[.int .i64 a0,.int .i64 a1,.int .i64 a2] w fun e w'=>e = .returned (.bool r) ∧ Drawn0 w w':=by
 have H : (if a0 ≥ a1 then (some (decide (a0 ≤ a2))) else (some false)) = some r:=h
 clear h
 by_cases c4 : a0 ≥ a1
 ·rw [if_pos c4] at H
  have c4b0 : decide (a1 ≤ a0) = true:=decide_eq_true c4
  clear c4
  obtain rfl:=Option.some.inj H
  go_enter Try.func42,Try.ntmps42
  go_wp2
  go_ret
  exact ⟨by first|rfl|(simp;done)|(simp [*];done),by repeat (first|exact Drawn0.refl _|apply Drawn0.step)⟩
 rw [if_neg c4] at H
 have c4b0 : decide (a1 ≤ a0) = false:=decide_eq_false c4
 clear c4
 obtain rfl:=Option.some.inj H
 go_enter Try.func42,Try.ntmps42
 go_wp2
 go_ret
 exact ⟨by first|rfl|(simp;done)|(simp [*];done),by repeat (first|exact Drawn0.refl _|apply Drawn0.step)⟩

/-! ### impl_DeviceOk: function 40 -/
mutual
def impl_DeviceOk.j0 : Nat → Bool → List ByteArray → List (S96) → Option (Bool)
 | 0,_,_,_=>none
 | k + 1,x17,x102000,x102001=>if x17 = true then (some false) else (impl_DeviceOk.l0 k x102000 (x102000.length : Int) 0 x102000 x102001)
def impl_DeviceOk.l0 : Nat → List ByteArray → Int → Int → List ByteArray → List (S96) → Option (Bool)
 | 0,_,_,_,_,_=>none
 | k + 1,x19,x20,x21,x102000,x102001=>if x21 < x20 then (if 0 ≤ x21 then (if x21 < (x19.length : Int) then (if ((rdOf ByteArray.empty x19 x21).size : Int) > 64 then (some false) else (impl_DeviceOk.l0 k x19 x20 (wrap64 (x21 + 1)) x102000 x102001)) else (none)) else (none)) else (impl_DeviceOk.l1 k x102001 (x102001.length : Int) 0 x102000 x102001)
def impl_DeviceOk.l1 : Nat → List (S96) → Int → Int → List ByteArray → List (S96) → Option (Bool)
 | 0,_,_,_,_,_=>none
 | k + 1,x30,x31,x32,x102000,x102001=>if x32 < x31 then (if 0 ≤ x32 then (if x32 < (x30.length : Int) then ((impl_in.f ((rd_T96 x30 x32).f0) 0 (wrap64 ((x102000.length : Int) - 1))).bind fun t106=>(if t106 = true then (if (((rd_T96 x30 x32).f1).size : Int) > 64 then (some false) else (impl_DeviceOk.l1 k x30 x31 (wrap64 (x32 + 1)) x102000 x102001)) else (some false))) else (none)) else (none)) else (some true)
end
def impl_DeviceOk.f (k : Nat) (l0_0 : List ByteArray) (l0_1 : List (S96)) : Option (Bool):=(impl_in.f (l0_0.length : Int) 1 400).bind fun t102=>(if t102 = true then (impl_DeviceOk.j0 k (decide ((l0_1.length : Int) > 400)) l0_0 l0_1) else (impl_DeviceOk.j0 k true l0_0 l0_1))
theorem impl_DeviceOk.mono_l : ∀ k,(∀ y0 y1 y2,LeO (impl_DeviceOk.j0 k y0 y1 y2) (impl_DeviceOk.j0 (k + 1) y0 y1 y2)) ∧ (∀ y0 y1 y2 y3 y4,LeO (impl_DeviceOk.l0 k y0 y1 y2 y3 y4) (impl_DeviceOk.l0 (k + 1) y0 y1 y2 y3 y4)) ∧ (∀ y0 y1 y2 y3 y4,LeO (impl_DeviceOk.l1 k y0 y1 y2 y3 y4) (impl_DeviceOk.l1 (k + 1) y0 y1 y2 y3 y4))
 | 0=>⟨fun _ _ _ r h=>by simp [impl_DeviceOk.j0] at h,fun _ _ _ _ _ r h=>by simp [impl_DeviceOk.l0] at h,fun _ _ _ _ _ r h=>by simp [impl_DeviceOk.l1] at h⟩
 | k + 1=>by
  obtain ⟨ih0,ih1,ih2⟩:=impl_DeviceOk.mono_l k
  refine ⟨?_,?_,?_⟩ <;> intros <;> first|unfold impl_DeviceOk.j0|unfold impl_DeviceOk.l0|unfold impl_DeviceOk.l1
  all_goals repeat' first|(with_reducible first|exact ih0 _ _ _|exact ih1 _ _ _ _ _|exact ih2 _ _ _ _ _|exact LeO.refl _|exact LeO.none _|refine LeO.ite ?_ ?_|refine LeO.bind ?_ (fun _=>?_))|exact ih0 _ _ _|exact ih1 _ _ _ _ _|exact ih2 _ _ _ _ _|exact LeO.none _|refine LeO.ite ?_ ?_|refine LeO.bind ?_ (fun _=>?_)
theorem impl_DeviceOk.mono : ∀ a0 a1 k,LeO (impl_DeviceOk.f k a0 a1) (impl_DeviceOk.f (k + 1) a0 a1):=by
 intro a0 a1 k
 obtain ⟨ih0,ih1,ih2⟩:=impl_DeviceOk.mono_l k
 unfold impl_DeviceOk.f
 repeat' first|(with_reducible first|exact ih0 _ _ _|exact ih1 _ _ _ _ _|exact ih2 _ _ _ _ _|exact LeO.refl _|exact LeO.none _|refine LeO.ite ?_ ?_|refine LeO.bind ?_ (fun _=>?_))|exact ih0 _ _ _|exact ih1 _ _ _ _ _|exact ih2 _ _ _ _ _|exact LeO.none _|refine LeO.ite ?_ ?_|refine LeO.bind ?_ (fun _=>?_)
set_option maxHeartbeats 8000000 in
set_option maxRecDepth 100000 in
theorem impl_DeviceOk.calls (k : Nat) (A0_0 : Option Addr) (c0_0 : Nat) (l0_0 : List ByteArray) (A0_1 : Option Addr) (c0_1 : Nat) (l0_1 : List (S96)) (r : Bool) (w : World) (hr0_0 : Kd.C Kd.string w A0_0 l0_0.length l0_0) (hc0_0 : l0_0.length ≤ c0_0) (hr0_1 : Kd.C k96 w A0_1 l0_1.length l0_1) (hc0_1 : l0_1.length ≤ c0_1) (h : impl_DeviceOk.f k l0_0 l0_1 = some r) :
  Calls Try.prog 40 #[.agg #[.slice A0_0 l0_0.length c0_0,.slice A0_1 l0_1.length c0_1]] w fun e w'=>e = .returned (.bool r) ∧ Below w.heap.size w w':=by
 have hu32:=Try.underlying32
 have hu96:=Try.underlying96
 have HR0_0:=qo.mk hr0_0
 have HC0_0:=qo.mk hc0_0
 clear hr0_0 hc0_0
 have HR0_1:=qo.mk hr0_1
 have HC0_1:=qo.mk hc0_1
 clear hr0_1 hc0_1
 have HB:=qo.mk (Below.refl w.heap.size w)
 have H : ((impl_in.f (l0_0.length : Int) 1 400).bind fun t102=>(if t102 = true then (impl_DeviceOk.j0 k (decide ((l0_1.length : Int) > 400)) l0_0 l0_1) else (impl_DeviceOk.j0 k true l0_0 l0_1))) = some r:=h
 clear h
 have HC2:=qo.mk H
 clear H
 go_enter Try.func40,Try.ntmps40
 go_upto_region 1 with (first|((with_reducible refine gate_dst (N:=1) rfl ?_);(try (refine gate_guard (by rfl) ?_;dsimp only));refine box_event ?hg (N:=1) ?hd (cs:=#[.slice A0_0 l0_0.length c0_0,.slice A0_1 l0_1.length c0_1]) (t:=32) ?hr ?_;(case hd=>rfl);(case hg=>rfl);(case hr=>first|(go_simp;done)|(go_simp;rfl));intro gb101 hg w3 hbox hb;have BK101:=qo.mk (hbox);have GW101:=hl_ (w:=w) hg;have GE101:=hl_ (w:=w) hg;replace HB:=hs_ HB hb;clear hb hbox hg))
 (try simp only [Act.put,List.setIfInBounds_toArray,List.set_cons_zero,List.set_cons_succ])
 go_cut [17] (fun v17 wc=>∃ (kq : Nat) (x17_1 : Bool),v17 = .bool x17_1 ∧ qo (impl_DeviceOk.j0 kq x17_1 l0_0 l0_1 = some r) ∧ qo (kq ≤ k) ∧ qo (wc.heap[gb101]? = some (.cells #[(.slice A0_0 l0_0.length c0_0),(.slice A0_1 l0_1.length c0_1)] 32 (0,0))) ∧ qo (Below w.heap.size w wc))
 case first =>
  have H:=HC2.out
  clear HC2
  replace H:=Option.bind_eq_some_iff.mp H
  obtain ⟨t102,A40,H⟩:=H
  replace H : (if t102 = true then (impl_DeviceOk.j0 k (decide ((l0_1.length : Int) > 400)) l0_0 l0_1) else (impl_DeviceOk.j0 k true l0_0 l0_1)) = some r:=H
  have A4:=qo.mk A40
  clear A40
  by_cases c5 : t102 = true
  ·subst c5
   have H1 : (impl_DeviceOk.j0 k (decide ((l0_1.length : Int) > 400)) l0_0 l0_1) = some r:=by rw [if_pos rfl] at H;exact H
   clear H
   have H:=H1
   clear H1
   have H':=qo.mk H
   clear H
   obtain ⟨hcz6_0,hcz6_1,hfz6_0,hfz6_1⟩:=c2f_ BK101.out
   go_wp2_with (first|((with_reducible refine gate_callee (f:=42) rfl ?_);refine goesL_ (some 10) rfl rfl Try.func42 (by kernel_rfl) rfl #[.int .i64 (l0_0.length : Int),.int .i64 1,.int .i64 400] rfl sm_ ?_;(with_reducible refine (impl_in.calls (l0_0.length : Int) 1 400 true _ A4.out).mono ?_);rintro e w' ⟨rfl,⟨nd,rfl⟩⟩;refine ⟨_,rfl,?_⟩))
   go_meet
   case rel=>exact ⟨_,(decide ((l0_1.length : Int) > 400)),rs_,H',⟨by first|omega|exact Nat.le_refl _⟩,(bx_ BK101),⟨hx_⟩⟩
  replace c5:=Bool.eq_false_iff.mpr c5
  subst c5
  have H1 : (impl_DeviceOk.j0 k true l0_0 l0_1) = some r:=by rw [if_neg (show ¬ (false = true) by decide)] at H;exact H
  clear H
  have H:=H1
  clear H1
  have H':=qo.mk H
  clear H
  obtain ⟨hcz7_0,hcz7_1,hfz7_0,hfz7_1⟩:=c2f_ BK101.out
  go_wp2_with (first|((with_reducible refine gate_callee (f:=42) rfl ?_);refine goesL_ (some 10) rfl rfl Try.func42 (by kernel_rfl) rfl #[.int .i64 (l0_0.length : Int),.int .i64 1,.int .i64 400] rfl sm_ ?_;(with_reducible refine (impl_in.calls (l0_0.length : Int) 1 400 false _ A4.out).mono ?_);rintro e w' ⟨rfl,⟨nd,rfl⟩⟩;refine ⟨_,rfl,?_⟩))
  go_meet
  case rel=>exact ⟨_,(true),rs_,H',⟨by first|omega|exact Nat.le_refl _⟩,(bx_ BK101),⟨hx_⟩⟩
 clear HC2
 try clear p2
 try clear c4
 try clear c5
 try clear hcz6_0
 try clear hcz6_1
 try clear hcz7_0
 try clear hcz7_1
 try clear hfz6_0
 try clear hfz6_1
 try clear hfz7_0
 try clear hfz7_1
 obtain ⟨kq,x17_1,rfl,HA,HJ1,BK101,HB⟩:=hcut
 obtain _|kj1:=kq
 ·exact absurd HA.out (by simp [impl_DeviceOk.j0])
 have H:=HA.out
 clear HA
 simp only [impl_DeviceOk.j0] at H
 by_cases c8 : x17_1 = true
 ·subst c8
  have H1 : (some false) = some r:=by rw [if_pos rfl] at H;exact H
  clear H
  have H:=H1
  clear H1
  obtain rfl:=Option.some.inj H
  go_wp2
  go_ret
  exact ⟨rt_,hx_⟩
 replace c8:=Bool.eq_false_iff.mpr c8
 subst c8
 have H1 : (impl_DeviceOk.l0 kj1 l0_0 (l0_0.length : Int) 0 l0_0 l0_1) = some r:=by rw [if_neg (show ¬ (false = true) by decide)] at H;exact H
 clear H
 have H:=H1
 clear H1
 have H':=qo.mk H
 clear H
 obtain ⟨hcz9_0,hcz9_1,hfz9_0,hfz9_1⟩:=c2f_ BK101.out
 go_wp2
 go_loopg [21] kj1 (fun kq v21 w'=>∃ (x21_2 : Int),v21 = .int .i64 x21_2 ∧ qo (impl_DeviceOk.l0 kq l0_0 (l0_0.length : Int) x21_2 l0_0 l0_1 = some r) ∧ qo (kq ≤ kj1) ∧ qo (w'.heap[gb101]? = some (.cells #[(.slice A0_0 l0_0.length c0_0),(.slice A0_1 l0_1.length c0_1)] 32 (0,0))) ∧ qo (Below w.heap.size w w'))
 case atStart=>exact ⟨(0),rs_,H',⟨Nat.le_refl _⟩,(bx_ BK101),⟨hx_⟩⟩
 clear H'
 try clear p2
 try clear c4
 try clear c5
 try clear c8
 try clear hcz6_0
 try clear hcz6_1
 try clear hcz7_0
 try clear hcz7_1
 try clear hcz9_0
 try clear hcz9_1
 try clear hfz6_0
 try clear hfz6_1
 try clear hfz7_0
 try clear hfz7_1
 try clear hfz9_0
 try clear hfz9_1
 try clear p2
 obtain ⟨x21_2,rfl,HA,HK2,BK101,HB⟩:=hrel
 obtain _|k2:=gk
 ·exact absurd HA.out (by simp [impl_DeviceOk.l0])
 have H:=HA.out
 clear HA
 simp only [impl_DeviceOk.l0] at H
 by_cases c10 : x21_2 < (l0_0.length : Int)
 ·rw [if_pos c10] at H
  have c10b0 : decide (x21_2 < (l0_0.length : Int)) = true:=decide_eq_true c10
  clear c10
  by_cases c11 : 0 ≤ x21_2
  ·rw [if_pos c11] at H
   have c11b0 : decide (0 ≤ x21_2) = true:=decide_eq_true c11
   clear c11
   by_cases c12 : x21_2 < (l0_0.length : Int)
   ·rw [if_pos c12] at H
    have c12b0 : decide (x21_2 < (l0_0.length : Int)) = true:=decide_eq_true c12
    clear c12
    by_cases c13 : ((rdOf ByteArray.empty l0_0 x21_2).size : Int) > 64
    ·rw [if_pos c13] at H
     have c13b0 : decide (64 < ((rdOf ByteArray.empty l0_0 x21_2).size : Int)) = true:=decide_eq_true c13
     have c13b1 : decide (64 < (rdOf ByteArray.empty l0_0 x21_2).size) = true:=decide_eq_true (by omega)
     clear c13
     obtain rfl:=Option.some.inj H
     have p103 : 0 ≤ (x21_2 : Int):=dt_
     have q103 : x21_2 < (l0_0.length : Int):=dt_
     obtain ⟨ad103,e103,hx103_0⟩:=Kd.at_string HR0_0.out x21_2 p103 q103
     cases e103
     replace hx103_0:=cb_ HB hx103_0
     replace p103:=eq_true p103
     replace q103:=eq_true q103
     go_wp2
     go_ret
     exact ⟨rt_,hx_⟩
    rw [if_neg c13] at H
    have c13b0 : decide (64 < ((rdOf ByteArray.empty l0_0 x21_2).size : Int)) = false:=decide_eq_false c13
    have c13b1 : decide (64 < (rdOf ByteArray.empty l0_0 x21_2).size) = false:=decide_eq_false (by omega)
    clear c13
    have H':=qo.mk H
    clear H
    have p103 : 0 ≤ (x21_2 : Int):=dt_
    have q103 : x21_2 < (l0_0.length : Int):=dt_
    obtain ⟨ad103,e103,hx103_0⟩:=Kd.at_string HR0_0.out x21_2 p103 q103
    cases e103
    replace hx103_0:=cb_ HB hx103_0
    replace p103:=eq_true p103
    replace q103:=eq_true q103
    go_wp2
    go_roundg k2
    case measure=>have:=HJ1.out;have:=HK2.out;omega
    case rel=>exact ⟨(wrap64 (x21_2 + 1)),rs_,H',⟨by have:=HJ1.out;have:=HK2.out;omega⟩,(bx_ BK101),⟨hx_⟩⟩
   rw [if_neg c12] at H
   exact absurd H (by simp)
  rw [if_neg c11] at H
  exact absurd H (by simp)
 rw [if_neg c10] at H
 have c10b0 : decide (x21_2 < (l0_0.length : Int)) = false:=decide_eq_false c10
 clear c10
 have H':=qo.mk H
 clear H
 obtain ⟨hcz14_0,hcz14_1,hfz14_0,hfz14_1⟩:=c2f_ BK101.out
 go_wp2
 go_loopg [32] k2 (fun kq v32 w'=>∃ (x32_3 : Int),v32 = .int .i64 x32_3 ∧ qo (impl_DeviceOk.l1 kq l0_1 (l0_1.length : Int) x32_3 l0_0 l0_1 = some r) ∧ qo (kq ≤ k2) ∧ qo (w'.heap[gb101]? = some (.cells #[(.slice A0_0 l0_0.length c0_0),(.slice A0_1 l0_1.length c0_1)] 32 (0,0))) ∧ qo (Below w.heap.size w w'))
 case atStart=>exact ⟨(0),rs_,H',⟨Nat.le_refl _⟩,(bx_ BK101),⟨hx_⟩⟩
 clear H'
 try clear c1
 try clear p1
 try clear q1
 try clear hx1
 try clear p2
 try clear c4
 try clear c5
 try clear p6
 try clear c8
 try clear c10
 try clear c10b0
 try clear p10
 try clear q10
 try clear hx10
 try clear c11
 try clear c11b0
 try clear c12
 try clear c12b0
 try clear c13
 try clear c13b0
 try clear c13b1
 try clear hcz14_0
 try clear hcz14_1
 try clear hcz6_0
 try clear hcz6_1
 try clear hcz7_0
 try clear hcz7_1
 try clear hcz9_0
 try clear hcz9_1
 try clear hfz14_0
 try clear hfz14_1
 try clear hfz6_0
 try clear hfz6_1
 try clear hfz7_0
 try clear hfz7_1
 try clear hfz9_0
 try clear hfz9_1
 try clear hx103_0
 try clear p103
 try clear p2
 try clear q103
 obtain ⟨x32_3,rfl,HA,HK3,BK101,HB⟩:=hrel
 obtain _|k3:=gk
 ·exact absurd HA.out (by simp [impl_DeviceOk.l1])
 have H:=HA.out
 clear HA
 simp only [impl_DeviceOk.l1] at H
 by_cases c15 : x32_3 < (l0_1.length : Int)
 ·rw [if_pos c15] at H
  have c15b0 : decide (x32_3 < (l0_1.length : Int)) = true:=decide_eq_true c15
  clear c15
  by_cases c16 : 0 ≤ x32_3
  ·rw [if_pos c16] at H
   have c16b0 : decide (0 ≤ x32_3) = true:=decide_eq_true c16
   clear c16
   by_cases c17 : x32_3 < (l0_1.length : Int)
   ·rw [if_pos c17] at H
    have c17b0 : decide (x32_3 < (l0_1.length : Int)) = true:=decide_eq_true c17
    clear c17
    replace H:=Option.bind_eq_some_iff.mp H
    obtain ⟨t106,A180,H⟩:=H
    replace H : (if t106 = true then (if (((rd_T96 l0_1 x32_3).f1).size : Int) > 64 then (some false) else (impl_DeviceOk.l1 k3 l0_1 (l0_1.length : Int) (wrap64 (x32_3 + 1)) l0_0 l0_1)) else (some false)) = some r:=H
    have A18:=qo.mk A180
    clear A180
    by_cases c19 : t106 = true
    ·subst c19
     have H1 : (if (((rd_T96 l0_1 x32_3).f1).size : Int) > 64 then (some false) else (impl_DeviceOk.l1 k3 l0_1 (l0_1.length : Int) (wrap64 (x32_3 + 1)) l0_0 l0_1)) = some r:=by rw [if_pos rfl] at H;exact H
     clear H
     have H:=H1
     clear H1
     by_cases c20 : (((rd_T96 l0_1 x32_3).f1).size : Int) > 64
     ·rw [if_pos c20] at H
      have c20b0 : decide (64 < (((rd_T96 l0_1 x32_3).f1).size : Int)) = true:=decide_eq_true c20
      have c20b1 : decide (64 < ((rd_T96 l0_1 x32_3).f1).size) = true:=decide_eq_true (by omega)
      clear c20
      obtain rfl:=Option.some.inj H
      have p104 : 0 ≤ (x32_3 : Int):=dt_
      have q104 : x32_3 < (l0_1.length : Int):=dt_
      obtain ⟨ad104,e104,hx104_0,hx104_1⟩:=at_T96 HR0_1.out x32_3 p104 q104
      cases e104
      replace hx104_0:=cb_ HB hx104_0
      replace hx104_1:=cb_ HB hx104_1
      replace p104:=eq_true p104
      replace q104:=eq_true q104
      go_wp2_with (first|((with_reducible refine gate_dst (N:=6) rfl ?_);(try (refine gate_guard (by rfl) ?_;dsimp only));refine box_event ?hg (N:=6) ?hd (cs:=#[.int .i64 0,.string (⟨#[]⟩ : ByteArray)]) (t:=96) ?hr ?_;(case hd=>rfl);(case hg=>rfl);(case hr=>first|(go_simp;done)|(go_simp;rfl));intro gb105 hg w21 hbox hb;have BK105:=qo.mk (hbox);have GW105:=hl_ (w:=w) hg;have GE105:=hl_ (w:=w) hg;have NB101_105:=qo.mk ((by rw [hg];exact nl_ BK101 : gb101 ≠ gb105));have NB105_101:=qo.mk ((by rw [hg];exact ng_ BK101 : gb105 ≠ gb101));replace BK101:=bb_ BK101 hb;replace HB:=hs_ HB hb;clear hb hbox hg;have hnb22:=NB105_101.out;have hnc22:=NB101_105.out;obtain ⟨hcz23_0,hcz23_1,hfz23_0,hfz23_1⟩:=c2f_ BK105.out;obtain ⟨hcz24_0,hcz24_1,hfz24_0,hfz24_1⟩:=c2f_ BK101.out)|((with_reducible refine gate_callee (f:=42) rfl ?_);refine goesL_ (some 42) rfl rfl Try.func42 (by kernel_rfl) rfl #[.int .i64 ((rd_T96 l0_1 x32_3).f0),.int .i64 0,.int .i64 (wrap64 ((l0_0.length : Int) - 1))] rfl sm_ ?_;(with_reducible refine (impl_in.calls ((rd_T96 l0_1 x32_3).f0) 0 (wrap64 ((l0_0.length : Int) - 1)) true _ A18.out).mono ?_);rintro e w' ⟨rfl,⟨nd,rfl⟩⟩;refine ⟨_,rfl,?_⟩))
      go_ret
      exact ⟨rt_,hx_⟩
     rw [if_neg c20] at H
     have c20b0 : decide (64 < (((rd_T96 l0_1 x32_3).f1).size : Int)) = false:=decide_eq_false c20
     have c20b1 : decide (64 < ((rd_T96 l0_1 x32_3).f1).size) = false:=decide_eq_false (by omega)
     clear c20
     have H':=qo.mk H
     clear H
     have p104 : 0 ≤ (x32_3 : Int):=dt_
     have q104 : x32_3 < (l0_1.length : Int):=dt_
     obtain ⟨ad104,e104,hx104_0,hx104_1⟩:=at_T96 HR0_1.out x32_3 p104 q104
     cases e104
     replace hx104_0:=cb_ HB hx104_0
     replace hx104_1:=cb_ HB hx104_1
     replace p104:=eq_true p104
     replace q104:=eq_true q104
     go_wp2_with (first|((with_reducible refine gate_dst (N:=6) rfl ?_);(try (refine gate_guard (by rfl) ?_;dsimp only));refine box_event ?hg (N:=6) ?hd (cs:=#[.int .i64 0,.string (⟨#[]⟩ : ByteArray)]) (t:=96) ?hr ?_;(case hd=>rfl);(case hg=>rfl);(case hr=>first|(go_simp;done)|(go_simp;rfl));intro gb105 hg w25 hbox hb;have BK105:=qo.mk (hbox);have GW105:=hl_ (w:=w) hg;have GE105:=hl_ (w:=w) hg;have NB101_105:=qo.mk ((by rw [hg];exact nl_ BK101 : gb101 ≠ gb105));have NB105_101:=qo.mk ((by rw [hg];exact ng_ BK101 : gb105 ≠ gb101));replace BK101:=bb_ BK101 hb;replace HB:=hs_ HB hb;clear hb hbox hg;have hnb26:=NB105_101.out;have hnc26:=NB101_105.out;obtain ⟨hcz27_0,hcz27_1,hfz27_0,hfz27_1⟩:=c2f_ BK105.out;obtain ⟨hcz28_0,hcz28_1,hfz28_0,hfz28_1⟩:=c2f_ BK101.out)|((with_reducible refine gate_callee (f:=42) rfl ?_);refine goesL_ (some 42) rfl rfl Try.func42 (by kernel_rfl) rfl #[.int .i64 ((rd_T96 l0_1 x32_3).f0),.int .i64 0,.int .i64 (wrap64 ((l0_0.length : Int) - 1))] rfl sm_ ?_;(with_reducible refine (impl_in.calls ((rd_T96 l0_1 x32_3).f0) 0 (wrap64 ((l0_0.length : Int) - 1)) true _ A18.out).mono ?_);rintro e w' ⟨rfl,⟨nd,rfl⟩⟩;refine ⟨_,rfl,?_⟩))
     go_roundg k3
     case measure=>have:=HJ1.out;have:=HK2.out;have:=HK3.out;omega
     case rel=>exact ⟨(wrap64 (x32_3 + 1)),rs_,H',⟨by have:=HJ1.out;have:=HK2.out;have:=HK3.out;omega⟩,⟨by (with_reducible repeat (first|refine qb ?_ _|refine qe ?_|refine qc ?_ _));refine blk_far ?_ NB101_105.out _;(with_reducible repeat (first|refine qb ?_ _|refine qe ?_|refine qc ?_ _));refine blk_far ?_ NB101_105.out _;(with_reducible repeat (first|refine qb ?_ _|refine qe ?_|refine qc ?_ _));exact BK101.out⟩,⟨hx_⟩⟩
    replace c19:=Bool.eq_false_iff.mpr c19
    subst c19
    have H1 : (some false) = some r:=by rw [if_neg (show ¬ (false = true) by decide)] at H;exact H
    clear H
    have H:=H1
    clear H1
    obtain rfl:=Option.some.inj H
    have p104 : 0 ≤ (x32_3 : Int):=dt_
    have q104 : x32_3 < (l0_1.length : Int):=dt_
    obtain ⟨ad104,e104,hx104_0,hx104_1⟩:=at_T96 HR0_1.out x32_3 p104 q104
    cases e104
    replace hx104_0:=cb_ HB hx104_0
    replace hx104_1:=cb_ HB hx104_1
    replace p104:=eq_true p104
    replace q104:=eq_true q104
    go_wp2_with (first|((with_reducible refine gate_dst (N:=6) rfl ?_);(try (refine gate_guard (by rfl) ?_;dsimp only));refine box_event ?hg (N:=6) ?hd (cs:=#[.int .i64 0,.string (⟨#[]⟩ : ByteArray)]) (t:=96) ?hr ?_;(case hd=>rfl);(case hg=>rfl);(case hr=>first|(go_simp;done)|(go_simp;rfl));intro gb105 hg w29 hbox hb;have BK105:=qo.mk (hbox);have GW105:=hl_ (w:=w) hg;have GE105:=hl_ (w:=w) hg;have NB101_105:=qo.mk ((by rw [hg];exact nl_ BK101 : gb101 ≠ gb105));have NB105_101:=qo.mk ((by rw [hg];exact ng_ BK101 : gb105 ≠ gb101));replace BK101:=bb_ BK101 hb;replace HB:=hs_ HB hb;clear hb hbox hg;have hnb30:=NB105_101.out;have hnc30:=NB101_105.out;obtain ⟨hcz31_0,hcz31_1,hfz31_0,hfz31_1⟩:=c2f_ BK105.out;obtain ⟨hcz32_0,hcz32_1,hfz32_0,hfz32_1⟩:=c2f_ BK101.out)|((with_reducible refine gate_callee (f:=42) rfl ?_);refine goesL_ (some 42) rfl rfl Try.func42 (by kernel_rfl) rfl #[.int .i64 ((rd_T96 l0_1 x32_3).f0),.int .i64 0,.int .i64 (wrap64 ((l0_0.length : Int) - 1))] rfl sm_ ?_;(with_reducible refine (impl_in.calls ((rd_T96 l0_1 x32_3).f0) 0 (wrap64 ((l0_0.length : Int) - 1)) false _ A18.out).mono ?_);rintro e w' ⟨rfl,⟨nd,rfl⟩⟩;refine ⟨_,rfl,?_⟩))
    go_ret
    exact ⟨rt_,hx_⟩
   rw [if_neg c17] at H
   exact absurd H (by simp)
  rw [if_neg c16] at H
  exact absurd H (by simp)
 rw [if_neg c15] at H
 have c15b0 : decide (x32_3 < (l0_1.length : Int)) = false:=decide_eq_false c15
 clear c15
 obtain rfl:=Option.some.inj H
 go_wp2
 go_ret
 exact ⟨rt_,hx_⟩

/-! ### impl_MapOk: function 41 -/
def impl_MapOk.l0 : Nat → List (S69) → List (S69) → Int → Int → Option (Bool)
 | 0,_,_,_,_=>none
 | k + 1,x0,x5,x6,x7=>if x7 < x6 then (if 0 ≤ x7 then (if x7 < (x5.length : Int) then ((impl_in.f (((rd_T69 x5 x7).f0).size : Int) 1 8).bind fun t109=>(if t109 = true then (if (((rd_T69 x5 x7).f1).size : Int) > 40 then (some false) else (if x7 > 0 then (if 0 ≤ (wrap64 (x7 - 1)) then (if (wrap64 (x7 - 1)) < (x0.length : Int) then (if ((Op.bytesLess (((rd_T69 x0 (wrap64 (x7 - 1))).f0).toList) (((rd_T69 x5 x7).f0).toList)) = true) then (impl_MapOk.l0 k x0 x5 x6 (wrap64 (x7 + 1))) else (some false)) else (none)) else (none)) else (impl_MapOk.l0 k x0 x5 x6 (wrap64 (x7 + 1))))) else (some false))) else (none)) else (none)) else (some (decide ((x0.length : Int) ≤ 120)))
def impl_MapOk.f (k : Nat) (l0 : List (S69)) : Option (Bool):=impl_MapOk.l0 k l0 l0 (l0.length : Int) 0
theorem impl_MapOk.mono_l : ∀ k,(∀ y0 y1 y2 y3,LeO (impl_MapOk.l0 k y0 y1 y2 y3) (impl_MapOk.l0 (k + 1) y0 y1 y2 y3))
 | 0=>fun _ _ _ _ r h=>by simp [impl_MapOk.l0] at h
 | k + 1=>by
  have ih0:=impl_MapOk.mono_l k
  intro y0 y1 y2 y3
  unfold impl_MapOk.l0
  repeat' first|(with_reducible first|exact ih0 _ _ _ _|exact LeO.refl _|exact LeO.none _|refine LeO.ite ?_ ?_|refine LeO.bind ?_ (fun _=>?_))|exact ih0 _ _ _ _|exact LeO.none _|refine LeO.ite ?_ ?_|refine LeO.bind ?_ (fun _=>?_)
theorem impl_MapOk.mono : ∀ a0 k,LeO (impl_MapOk.f k a0) (impl_MapOk.f (k + 1) a0):=by
 intro a0 k
 have ih0:=impl_MapOk.mono_l k
 unfold impl_MapOk.f
 repeat' first|(with_reducible first|exact ih0 _ _ _ _|exact LeO.refl _|exact LeO.none _|refine LeO.ite ?_ ?_|refine LeO.bind ?_ (fun _=>?_))|exact ih0 _ _ _ _|exact LeO.none _|refine LeO.ite ?_ ?_|refine LeO.bind ?_ (fun _=>?_)
set_option maxHeartbeats 8000000 in
set_option maxRecDepth 100000 in
theorem impl_MapOk.calls (k : Nat) (A0 : Option Addr) (c0 : Nat) (l0 : List (S69)) (r : Bool) (w : World) (hr0 : Kd.C k69 w A0 l0.length l0) (hc0 : l0.length ≤ c0) (h : impl_MapOk.f k l0 = some r) :
  Calls Try.prog 41 #[.slice A0 l0.length c0] w fun e w'=>e = .returned (.bool r) ∧ Below w.heap.size w w':=by
 have hu69:=Try.underlying69
 have HR0:=qo.mk hr0
 have HC0:=qo.mk hc0
 clear hr0 hc0
 have HB:=qo.mk (Below.refl w.heap.size w)
 have H : (impl_MapOk.l0 k l0 l0 (l0.length : Int) 0) = some r:=h
 clear h
 have H':=qo.mk H
 clear H
 go_enter Try.func41,Try.ntmps41
 go_wp2
 repeat (go_quiet (fail);try go_wp2)
 go_loopg [7] k (fun kq v7 w'=>∃ (x7_1 : Int),v7 = .int .i64 x7_1 ∧ qo (impl_MapOk.l0 kq l0 l0 (l0.length : Int) x7_1 = some r) ∧ qo (kq ≤ k) ∧ qo (Below w.heap.size w w'))
 case atStart=>exact ⟨(0),rs_,H',⟨Nat.le_refl _⟩,⟨hx_⟩⟩
 clear H'
 obtain ⟨x7_1,rfl,HA,HK1,HB⟩:=hrel
 obtain _|k1:=gk
 ·exact absurd HA.out (by simp [impl_MapOk.l0])
 have H:=HA.out
 clear HA
 simp only [impl_MapOk.l0] at H
 by_cases c2 : x7_1 < (l0.length : Int)
 ·rw [if_pos c2] at H
  have c2b0 : decide (x7_1 < (l0.length : Int)) = true:=decide_eq_true c2
  clear c2
  by_cases c3 : 0 ≤ x7_1
  ·rw [if_pos c3] at H
   have c3b0 : decide (0 ≤ x7_1) = true:=decide_eq_true c3
   clear c3
   by_cases c4 : x7_1 < (l0.length : Int)
   ·rw [if_pos c4] at H
    have c4b0 : decide (x7_1 < (l0.length : Int)) = true:=decide_eq_true c4
    clear c4
    replace H:=Option.bind_eq_some_iff.mp H
    obtain ⟨t109,A50,H⟩:=H
    replace H : (if t109 = true then (if (((rd_T69 l0 x7_1).f1).size : Int) > 40 then (some false) else (if x7_1 > 0 then (if 0 ≤ (wrap64 (x7_1 - 1)) then (if (wrap64 (x7_1 - 1)) < (l0.length : Int) then (if ((Op.bytesLess (((rd_T69 l0 (wrap64 (x7_1 - 1))).f0).toList) (((rd_T69 l0 x7_1).f0).toList)) = true) then (impl_MapOk.l0 k1 l0 l0 (l0.length : Int) (wrap64 (x7_1 + 1))) else (some false)) else (none)) else (none)) else (impl_MapOk.l0 k1 l0 l0 (l0.length : Int) (wrap64 (x7_1 + 1))))) else (some false)) = some r:=H
    have A5:=qo.mk A50
    clear A50
    by_cases c6 : t109 = true
    ·subst c6
     have H1 : (if (((rd_T69 l0 x7_1).f1).size : Int) > 40 then (some false) else (if x7_1 > 0 then (if 0 ≤ (wrap64 (x7_1 - 1)) then (if (wrap64 (x7_1 - 1)) < (l0.length : Int) then (if ((Op.bytesLess (((rd_T69 l0 (wrap64 (x7_1 - 1))).f0).toList) (((rd_T69 l0 x7_1).f0).toList)) = true) then (impl_MapOk.l0 k1 l0 l0 (l0.length : Int) (wrap64 (x7_1 + 1))) else (some false)) else (none)) else (none)) else (impl_MapOk.l0 k1 l0 l0 (l0.length : Int) (wrap64 (x7_1 + 1))))) = some r:=by rw [if_pos rfl] at H;exact H
     clear H
     have H:=H1
     clear H1
     by_cases c7 : (((rd_T69 l0 x7_1).f1).size : Int) > 40
     ·rw [if_pos c7] at H
      have c7b0 : decide (40 < (((rd_T69 l0 x7_1).f1).size : Int)) = true:=decide_eq_true c7
      have c7b1 : decide (40 < ((rd_T69 l0 x7_1).f1).size) = true:=decide_eq_true (by omega)
      clear c7
      obtain rfl:=Option.some.inj H
      have p107 : 0 ≤ (x7_1 : Int):=dt_
      have q107 : x7_1 < (l0.length : Int):=dt_
      obtain ⟨ad107,e107,hx107_0,hx107_1⟩:=at_T69 HR0.out x7_1 p107 q107
      cases e107
      replace hx107_0:=cb_ HB hx107_0
      replace hx107_1:=cb_ HB hx107_1
      replace p107:=eq_true p107
      replace q107:=eq_true q107
      go_wp2_with (first|((with_reducible refine gate_dst (N:=4) rfl ?_);(try (refine gate_guard (by rfl) ?_;dsimp only));refine box_event ?hg (N:=4) ?hd (cs:=#[.string (⟨#[]⟩ : ByteArray),.string (⟨#[]⟩ : ByteArray)]) (t:=69) ?hr ?_;(case hd=>rfl);(case hg=>rfl);(case hr=>first|(go_simp;done)|(go_simp;rfl));intro gb108 hg w8 hbox hb;have BK108:=qo.mk (hbox);have GW108:=hl_ (w:=w) hg;have GE108:=hl_ (w:=w) hg;replace HB:=hs_ HB hb;clear hb hbox hg;obtain ⟨hcz9_0,hcz9_1,hfz9_0,hfz9_1⟩:=c2f_ BK108.out)|(go_at_call 42;(with_reducible refine (impl_in.calls (((rd_T69 l0 x7_1).f0).size : Int) 1 8 true _ A5.out).mono ?_);rintro e w' ⟨rfl,⟨nd,rfl⟩⟩;(try first|exact ⟨rfl,_,World.drewN_drewN _ _ _⟩|exact ⟨rfl,_,Eq.trans (World.drewN_drewN _ _ _) (congrArg (World.drewN _) (Nat.add_assoc _ _ _))⟩)))
      repeat (go_quiet (first|((with_reducible refine gate_dst (N:=4) rfl ?_);(try (refine gate_guard (by rfl) ?_;dsimp only));refine box_event ?hg (N:=4) ?hd (cs:=#[.string (⟨#[]⟩ : ByteArray),.string (⟨#[]⟩ : ByteArray)]) (t:=69) ?hr ?_;(case hd=>rfl);(case hg=>rfl);(case hr=>first|(go_simp;done)|(go_simp;rfl));intro gb108 hg w8 hbox hb;have BK108:=qo.mk (hbox);have GW108:=hl_ (w:=w) hg;have GE108:=hl_ (w:=w) hg;replace HB:=hs_ HB hb;clear hb hbox hg;obtain ⟨hcz9_0,hcz9_1,hfz9_0,hfz9_1⟩:=c2f_ BK108.out)|(go_at_call 42;(with_reducible refine (impl_in.calls (((rd_T69 l0 x7_1).f0).size : Int) 1 8 true _ A5.out).mono ?_);rintro e w' ⟨rfl,⟨nd,rfl⟩⟩;(try first|exact ⟨rfl,_,World.drewN_drewN _ _ _⟩|exact ⟨rfl,_,Eq.trans (World.drewN_drewN _ _ _) (congrArg (World.drewN _) (Nat.add_assoc _ _ _))⟩)));try go_wp2_with (first|((with_reducible refine gate_dst (N:=4) rfl ?_);(try (refine gate_guard (by rfl) ?_;dsimp only));refine box_event ?hg (N:=4) ?hd (cs:=#[.string (⟨#[]⟩ : ByteArray),.string (⟨#[]⟩ : ByteArray)]) (t:=69) ?hr ?_;(case hd=>rfl);(case hg=>rfl);(case hr=>first|(go_simp;done)|(go_simp;rfl));intro gb108 hg w8 hbox hb;have BK108:=qo.mk (hbox);have GW108:=hl_ (w:=w) hg;have GE108:=hl_ (w:=w) hg;replace HB:=hs_ HB hb;clear hb hbox hg;obtain ⟨hcz9_0,hcz9_1,hfz9_0,hfz9_1⟩:=c2f_ BK108.out)|(go_at_call 42;(with_reducible refine (impl_in.calls (((rd_T69 l0 x7_1).f0).size : Int) 1 8 true _ A5.out).mono ?_);rintro e w' ⟨rfl,⟨nd,rfl⟩⟩;(try first|exact ⟨rfl,_,World.drewN_drewN _ _ _⟩|exact ⟨rfl,_,Eq.trans (World.drewN_drewN _ _ _) (congrArg (World.drewN _) (Nat.add_assoc _ _ _))⟩))))
      go_ret
      exact ⟨rt_,hx_⟩
     rw [if_neg c7] at H
     have c7b0 : decide (40 < (((rd_T69 l0 x7_1).f1).size : Int)) = false:=decide_eq_false c7
     have c7b1 : decide (40 < ((rd_T69 l0 x7_1).f1).size) = false:=decide_eq_false (by omega)
     clear c7
     by_cases c10 : x7_1 > 0
     ·rw [if_pos c10] at H
      have c10b0 : decide (0 < x7_1) = true:=decide_eq_true c10
      clear c10
      obtain ⟨ji11,hji11⟩ : ∃ j_ : Int,(wrap64 (x7_1 - 1)) = j_:=⟨_,rfl⟩
      replace H : (if 0 ≤ (ji11) then (if (ji11) < (l0.length : Int) then (if ((Op.bytesLess (((rd_T69 l0 (ji11)).f0).toList) (((rd_T69 l0 x7_1).f0).toList)) = true) then (impl_MapOk.l0 k1 l0 l0 (l0.length : Int) (wrap64 (x7_1 + 1))) else (some false)) else (none)) else (none)) = some r:=by first|(rw [hji11] at H;exact H)|(simp only [hji11] at H ⊢;exact H)
      (try rw [hji11] at A5)
      have hji11w : (IntKind.i64.wrap (x7_1 - 1)) = ji11:=(i64_w _).trans hji11
      by_cases c12 : 0 ≤ (ji11)
      ·rw [if_pos c12] at H
       have c12b0 : decide (0 ≤ (ji11)) = true:=decide_eq_true c12
       clear c12
       by_cases c13 : (ji11) < (l0.length : Int)
       ·rw [if_pos c13] at H
        have c13b0 : decide ((ji11) < (l0.length : Int)) = true:=decide_eq_true c13
        clear c13
        by_cases c14 : ((Op.bytesLess (((rd_T69 l0 (ji11)).f0).toList) (((rd_T69 l0 x7_1).f0).toList)) = true)
        ·rw [if_pos c14] at H
         have c14b0 : (Op.bytesLess (((rd_T69 l0 (ji11)).f0).toList) (((rd_T69 l0 x7_1).f0).toList)) = true:=c14
         clear c14
         have H':=qo.mk H
         clear H
         have p107 : 0 ≤ (x7_1 : Int):=dt_
         have q107 : x7_1 < (l0.length : Int):=dt_
         obtain ⟨ad107,e107,hx107_0,hx107_1⟩:=at_T69 HR0.out x7_1 p107 q107
         cases e107
         replace hx107_0:=cb_ HB hx107_0
         replace hx107_1:=cb_ HB hx107_1
         replace p107:=eq_true p107
         replace q107:=eq_true q107
         go_wp2_with (first|((with_reducible refine gate_dst (N:=4) rfl ?_);(try (refine gate_guard (by rfl) ?_;dsimp only));refine box_event ?hg (N:=4) ?hd (cs:=#[.string (⟨#[]⟩ : ByteArray),.string (⟨#[]⟩ : ByteArray)]) (t:=69) ?hr ?_;(case hd=>rfl);(case hg=>rfl);(case hr=>first|(go_simp;done)|(go_simp;rfl));intro gb108 hg w15 hbox hb;have BK108:=qo.mk (hbox);have GW108:=hl_ (w:=w) hg;have GE108:=hl_ (w:=w) hg;replace HB:=hs_ HB hb;clear hb hbox hg;obtain ⟨hcz16_0,hcz16_1,hfz16_0,hfz16_1⟩:=c2f_ BK108.out)|(go_at_call 42;(with_reducible refine (impl_in.calls (((rd_T69 l0 x7_1).f0).size : Int) 1 8 true _ A5.out).mono ?_);rintro e w' ⟨rfl,⟨nd,rfl⟩⟩;(try first|exact ⟨rfl,_,World.drewN_drewN _ _ _⟩|exact ⟨rfl,_,Eq.trans (World.drewN_drewN _ _ _) (congrArg (World.drewN _) (Nat.add_assoc _ _ _))⟩);have p110 : 0 ≤ ((ji11) : Int):=dt_;have q110 : (ji11) < (l0.length : Int):=dt_;obtain ⟨ad110,e110,hx110_0,hx110_1⟩:=at_T69 HR0.out (ji11) p110 q110;obtain rfl : ad107 = ad110:=(by injection e110);have hn110_0 : ad107.block ≠ gb108:=Nat.ne_of_lt (Nat.lt_of_lt_of_le (by have:=World.block_lt_of_cell? _ _ hx110_0;first|rwa [ql] at this|exact this) GW108.out);have hn110_1 : ad107.block ≠ gb108:=Nat.ne_of_lt (Nat.lt_of_lt_of_le (by have:=World.block_lt_of_cell? _ _ hx110_0;first|rwa [ql] at this|exact this) GW108.out);replace hx110_0:=cb_ HB hx110_0;replace hx110_1:=cb_ HB hx110_1;replace hx110_0:=(cell_far (p:=⟨gb108,0,none⟩) (by first|(rw [ql];exact hn110_0)|(show (Addr.add _ _).block ≠ _;rw [ql];exact hn110_0)|exact hn110_0) (.string ((rd_T69 l0 x7_1).f0))).trans hx110_0;replace hx110_1:=(cell_far (p:=⟨gb108,0,none⟩) (by first|(rw [ql];exact hn110_0)|(show (Addr.add _ _).block ≠ _;rw [ql];exact hn110_0)|exact hn110_0) (.string ((rd_T69 l0 x7_1).f0))).trans hx110_1;replace hx110_0:=(cell_far (p:=⟨gb108,1,none⟩) (by first|(rw [ql];exact hn110_1)|(show (Addr.add _ _).block ≠ _;rw [ql];exact hn110_1)|exact hn110_1) (.string ((rd_T69 l0 x7_1).f1))).trans hx110_0;replace hx110_1:=(cell_far (p:=⟨gb108,1,none⟩) (by first|(rw [ql];exact hn110_1)|(show (Addr.add _ _).block ≠ _;rw [ql];exact hn110_1)|exact hn110_1) (.string ((rd_T69 l0 x7_1).f1))).trans hx110_1;(try have hy110_0:=fun (n_ : Nat)=>(show ((((w15.drewN n_).setCell ⟨gb108,0,none⟩ (.string ((rd_T69 l0 x7_1).f0))).setCell ⟨gb108,1,none⟩ (.string ((rd_T69 l0 x7_1).f1)))).cell? _ = some _ from hx110_0));(try have hy110_1:=fun (n_ : Nat)=>(show ((((w15.drewN n_).setCell ⟨gb108,0,none⟩ (.string ((rd_T69 l0 x7_1).f0))).setCell ⟨gb108,1,none⟩ (.string ((rd_T69 l0 x7_1).f1)))).cell? _ = some _ from hx110_1));clear hn110_0;clear hn110_1;replace p110:=eq_true p110;replace q110:=eq_true q110))
         repeat (go_quiet (first|((with_reducible refine gate_dst (N:=4) rfl ?_);(try (refine gate_guard (by rfl) ?_;dsimp only));refine box_event ?hg (N:=4) ?hd (cs:=#[.string (⟨#[]⟩ : ByteArray),.string (⟨#[]⟩ : ByteArray)]) (t:=69) ?hr ?_;(case hd=>rfl);(case hg=>rfl);(case hr=>first|(go_simp;done)|(go_simp;rfl));intro gb108 hg w15 hbox hb;have BK108:=qo.mk (hbox);have GW108:=hl_ (w:=w) hg;have GE108:=hl_ (w:=w) hg;replace HB:=hs_ HB hb;clear hb hbox hg;obtain ⟨hcz16_0,hcz16_1,hfz16_0,hfz16_1⟩:=c2f_ BK108.out)|(go_at_call 42;(with_reducible refine (impl_in.calls (((rd_T69 l0 x7_1).f0).size : Int) 1 8 true _ A5.out).mono ?_);rintro e w' ⟨rfl,⟨nd,rfl⟩⟩;(try first|exact ⟨rfl,_,World.drewN_drewN _ _ _⟩|exact ⟨rfl,_,Eq.trans (World.drewN_drewN _ _ _) (congrArg (World.drewN _) (Nat.add_assoc _ _ _))⟩);have p110 : 0 ≤ ((ji11) : Int):=dt_;have q110 : (ji11) < (l0.length : Int):=dt_;obtain ⟨ad110,e110,hx110_0,hx110_1⟩:=at_T69 HR0.out (ji11) p110 q110;obtain rfl : ad107 = ad110:=(by injection e110);have hn110_0 : ad107.block ≠ gb108:=Nat.ne_of_lt (Nat.lt_of_lt_of_le (by have:=World.block_lt_of_cell? _ _ hx110_0;first|rwa [ql] at this|exact this) GW108.out);have hn110_1 : ad107.block ≠ gb108:=Nat.ne_of_lt (Nat.lt_of_lt_of_le (by have:=World.block_lt_of_cell? _ _ hx110_0;first|rwa [ql] at this|exact this) GW108.out);replace hx110_0:=cb_ HB hx110_0;replace hx110_1:=cb_ HB hx110_1;replace hx110_0:=(cell_far (p:=⟨gb108,0,none⟩) (by first|(rw [ql];exact hn110_0)|(show (Addr.add _ _).block ≠ _;rw [ql];exact hn110_0)|exact hn110_0) (.string ((rd_T69 l0 x7_1).f0))).trans hx110_0;replace hx110_1:=(cell_far (p:=⟨gb108,0,none⟩) (by first|(rw [ql];exact hn110_0)|(show (Addr.add _ _).block ≠ _;rw [ql];exact hn110_0)|exact hn110_0) (.string ((rd_T69 l0 x7_1).f0))).trans hx110_1;replace hx110_0:=(cell_far (p:=⟨gb108,1,none⟩) (by first|(rw [ql];exact hn110_1)|(show (Addr.add _ _).block ≠ _;rw [ql];exact hn110_1)|exact hn110_1) (.string ((rd_T69 l0 x7_1).f1))).trans hx110_0;replace hx110_1:=(cell_far (p:=⟨gb108,1,none⟩) (by first|(rw [ql];exact hn110_1)|(show (Addr.add _ _).block ≠ _;rw [ql];exact hn110_1)|exact hn110_1) (.string ((rd_T69 l0 x7_1).f1))).trans hx110_1;(try have hy110_0:=fun (n_ : Nat)=>(show ((((w15.drewN n_).setCell ⟨gb108,0,none⟩ (.string ((rd_T69 l0 x7_1).f0))).setCell ⟨gb108,1,none⟩ (.string ((rd_T69 l0 x7_1).f1)))).cell? _ = some _ from hx110_0));(try have hy110_1:=fun (n_ : Nat)=>(show ((((w15.drewN n_).setCell ⟨gb108,0,none⟩ (.string ((rd_T69 l0 x7_1).f0))).setCell ⟨gb108,1,none⟩ (.string ((rd_T69 l0 x7_1).f1)))).cell? _ = some _ from hx110_1));clear hn110_0;clear hn110_1;replace p110:=eq_true p110;replace q110:=eq_true q110));try go_wp2_with (first|((with_reducible refine gate_dst (N:=4) rfl ?_);(try (refine gate_guard (by rfl) ?_;dsimp only));refine box_event ?hg (N:=4) ?hd (cs:=#[.string (⟨#[]⟩ : ByteArray),.string (⟨#[]⟩ : ByteArray)]) (t:=69) ?hr ?_;(case hd=>rfl);(case hg=>rfl);(case hr=>first|(go_simp;done)|(go_simp;rfl));intro gb108 hg w15 hbox hb;have BK108:=qo.mk (hbox);have GW108:=hl_ (w:=w) hg;have GE108:=hl_ (w:=w) hg;replace HB:=hs_ HB hb;clear hb hbox hg;obtain ⟨hcz16_0,hcz16_1,hfz16_0,hfz16_1⟩:=c2f_ BK108.out)|(go_at_call 42;(with_reducible refine (impl_in.calls (((rd_T69 l0 x7_1).f0).size : Int) 1 8 true _ A5.out).mono ?_);rintro e w' ⟨rfl,⟨nd,rfl⟩⟩;(try first|exact ⟨rfl,_,World.drewN_drewN _ _ _⟩|exact ⟨rfl,_,Eq.trans (World.drewN_drewN _ _ _) (congrArg (World.drewN _) (Nat.add_assoc _ _ _))⟩);have p110 : 0 ≤ ((ji11) : Int):=dt_;have q110 : (ji11) < (l0.length : Int):=dt_;obtain ⟨ad110,e110,hx110_0,hx110_1⟩:=at_T69 HR0.out (ji11) p110 q110;obtain rfl : ad107 = ad110:=(by injection e110);have hn110_0 : ad107.block ≠ gb108:=Nat.ne_of_lt (Nat.lt_of_lt_of_le (by have:=World.block_lt_of_cell? _ _ hx110_0;first|rwa [ql] at this|exact this) GW108.out);have hn110_1 : ad107.block ≠ gb108:=Nat.ne_of_lt (Nat.lt_of_lt_of_le (by have:=World.block_lt_of_cell? _ _ hx110_0;first|rwa [ql] at this|exact this) GW108.out);replace hx110_0:=cb_ HB hx110_0;replace hx110_1:=cb_ HB hx110_1;replace hx110_0:=(cell_far (p:=⟨gb108,0,none⟩) (by first|(rw [ql];exact hn110_0)|(show (Addr.add _ _).block ≠ _;rw [ql];exact hn110_0)|exact hn110_0) (.string ((rd_T69 l0 x7_1).f0))).trans hx110_0;replace hx110_1:=(cell_far (p:=⟨gb108,0,none⟩) (by first|(rw [ql];exact hn110_0)|(show (Addr.add _ _).block ≠ _;rw [ql];exact hn110_0)|exact hn110_0) (.string ((rd_T69 l0 x7_1).f0))).trans hx110_1;replace hx110_0:=(cell_far (p:=⟨gb108,1,none⟩) (by first|(rw [ql];exact hn110_1)|(show (Addr.add _ _).block ≠ _;rw [ql];exact hn110_1)|exact hn110_1) (.string ((rd_T69 l0 x7_1).f1))).trans hx110_0;replace hx110_1:=(cell_far (p:=⟨gb108,1,none⟩) (by first|(rw [ql];exact hn110_1)|(show (Addr.add _ _).block ≠ _;rw [ql];exact hn110_1)|exact hn110_1) (.string ((rd_T69 l0 x7_1).f1))).trans hx110_1;(try have hy110_0:=fun (n_ : Nat)=>(show ((((w15.drewN n_).setCell ⟨gb108,0,none⟩ (.string ((rd_T69 l0 x7_1).f0))).setCell ⟨gb108,1,none⟩ (.string ((rd_T69 l0 x7_1).f1)))).cell? _ = some _ from hx110_0));(try have hy110_1:=fun (n_ : Nat)=>(show ((((w15.drewN n_).setCell ⟨gb108,0,none⟩ (.string ((rd_T69 l0 x7_1).f0))).setCell ⟨gb108,1,none⟩ (.string ((rd_T69 l0 x7_1).f1)))).cell? _ = some _ from hx110_1));clear hn110_0;clear hn110_1;replace p110:=eq_true p110;replace q110:=eq_true q110)))
         go_roundg k1
         case measure=>have:=HK1.out;omega
         case rel=>exact ⟨(wrap64 (x7_1 + 1)),rs_,H',⟨by have:=HK1.out;omega⟩,⟨hx_⟩⟩
        rw [if_neg c14] at H
        have c14b0 : (Op.bytesLess (((rd_T69 l0 (ji11)).f0).toList) (((rd_T69 l0 x7_1).f0).toList)) = false:=by simpa using c14
        clear c14
        obtain rfl:=Option.some.inj H
        have p107 : 0 ≤ (x7_1 : Int):=dt_
        have q107 : x7_1 < (l0.length : Int):=dt_
        obtain ⟨ad107,e107,hx107_0,hx107_1⟩:=at_T69 HR0.out x7_1 p107 q107
        cases e107
        replace hx107_0:=cb_ HB hx107_0
        replace hx107_1:=cb_ HB hx107_1
        replace p107:=eq_true p107
        replace q107:=eq_true q107
        go_wp2_with (first|((with_reducible refine gate_dst (N:=4) rfl ?_);(try (refine gate_guard (by rfl) ?_;dsimp only));refine box_event ?hg (N:=4) ?hd (cs:=#[.string (⟨#[]⟩ : ByteArray),.string (⟨#[]⟩ : ByteArray)]) (t:=69) ?hr ?_;(case hd=>rfl);(case hg=>rfl);(case hr=>first|(go_simp;done)|(go_simp;rfl));intro gb108 hg w17 hbox hb;have BK108:=qo.mk (hbox);have GW108:=hl_ (w:=w) hg;have GE108:=hl_ (w:=w) hg;replace HB:=hs_ HB hb;clear hb hbox hg;obtain ⟨hcz18_0,hcz18_1,hfz18_0,hfz18_1⟩:=c2f_ BK108.out)|(go_at_call 42;(with_reducible refine (impl_in.calls (((rd_T69 l0 x7_1).f0).size : Int) 1 8 true _ A5.out).mono ?_);rintro e w' ⟨rfl,⟨nd,rfl⟩⟩;(try first|exact ⟨rfl,_,World.drewN_drewN _ _ _⟩|exact ⟨rfl,_,Eq.trans (World.drewN_drewN _ _ _) (congrArg (World.drewN _) (Nat.add_assoc _ _ _))⟩);have p110 : 0 ≤ ((ji11) : Int):=dt_;have q110 : (ji11) < (l0.length : Int):=dt_;obtain ⟨ad110,e110,hx110_0,hx110_1⟩:=at_T69 HR0.out (ji11) p110 q110;obtain rfl : ad107 = ad110:=(by injection e110);have hn110_0 : ad107.block ≠ gb108:=Nat.ne_of_lt (Nat.lt_of_lt_of_le (by have:=World.block_lt_of_cell? _ _ hx110_0;first|rwa [ql] at this|exact this) GW108.out);have hn110_1 : ad107.block ≠ gb108:=Nat.ne_of_lt (Nat.lt_of_lt_of_le (by have:=World.block_lt_of_cell? _ _ hx110_0;first|rwa [ql] at this|exact this) GW108.out);replace hx110_0:=cb_ HB hx110_0;replace hx110_1:=cb_ HB hx110_1;replace hx110_0:=(cell_far (p:=⟨gb108,0,none⟩) (by first|(rw [ql];exact hn110_0)|(show (Addr.add _ _).block ≠ _;rw [ql];exact hn110_0)|exact hn110_0) (.string ((rd_T69 l0 x7_1).f0))).trans hx110_0;replace hx110_1:=(cell_far (p:=⟨gb108,0,none⟩) (by first|(rw [ql];exact hn110_0)|(show (Addr.add _ _).block ≠ _;rw [ql];exact hn110_0)|exact hn110_0) (.string ((rd_T69 l0 x7_1).f0))).trans hx110_1;replace hx110_0:=(cell_far (p:=⟨gb108,1,none⟩) (by first|(rw [ql];exact hn110_1)|(show (Addr.add _ _).block ≠ _;rw [ql];exact hn110_1)|exact hn110_1) (.string ((rd_T69 l0 x7_1).f1))).trans hx110_0;replace hx110_1:=(cell_far (p:=⟨gb108,1,none⟩) (by first|(rw [ql];exact hn110_1)|(show (Addr.add _ _).block ≠ _;rw [ql];exact hn110_1)|exact hn110_1) (.string ((rd_T69 l0 x7_1).f1))).trans hx110_1;(try have hy110_0:=fun (n_ : Nat)=>(show ((((w17.drewN n_).setCell ⟨gb108,0,none⟩ (.string ((rd_T69 l0 x7_1).f0))).setCell ⟨gb108,1,none⟩ (.string ((rd_T69 l0 x7_1).f1)))).cell? _ = some _ from hx110_0));(try have hy110_1:=fun (n_ : Nat)=>(show ((((w17.drewN n_).setCell ⟨gb108,0,none⟩ (.string ((rd_T69 l0 x7_1).f0))).setCell ⟨gb108,1,none⟩ (.string ((rd_T69 l0 x7_1).f1)))).cell? _ = some _ from hx110_1));clear hn110_0;clear hn110_1;replace p110:=eq_true p110;replace q110:=eq_true q110))
        repeat (go_quiet (first|((with_reducible refine gate_dst (N:=4) rfl ?_);(try (refine gate_guard (by rfl) ?_;dsimp only));refine box_event ?hg (N:=4) ?hd (cs:=#[.string (⟨#[]⟩ : ByteArray),.string (⟨#[]⟩ : ByteArray)]) (t:=69) ?hr ?_;(case hd=>rfl);(case hg=>rfl);(case hr=>first|(go_simp;done)|(go_simp;rfl));intro gb108 hg w17 hbox hb;have BK108:=qo.mk (hbox);have GW108:=hl_ (w:=w) hg;have GE108:=hl_ (w:=w) hg;replace HB:=hs_ HB hb;clear hb hbox hg;obtain ⟨hcz18_0,hcz18_1,hfz18_0,hfz18_1⟩:=c2f_ BK108.out)|(go_at_call 42;(with_reducible refine (impl_in.calls (((rd_T69 l0 x7_1).f0).size : Int) 1 8 true _ A5.out).mono ?_);rintro e w' ⟨rfl,⟨nd,rfl⟩⟩;(try first|exact ⟨rfl,_,World.drewN_drewN _ _ _⟩|exact ⟨rfl,_,Eq.trans (World.drewN_drewN _ _ _) (congrArg (World.drewN _) (Nat.add_assoc _ _ _))⟩);have p110 : 0 ≤ ((ji11) : Int):=dt_;have q110 : (ji11) < (l0.length : Int):=dt_;obtain ⟨ad110,e110,hx110_0,hx110_1⟩:=at_T69 HR0.out (ji11) p110 q110;obtain rfl : ad107 = ad110:=(by injection e110);have hn110_0 : ad107.block ≠ gb108:=Nat.ne_of_lt (Nat.lt_of_lt_of_le (by have:=World.block_lt_of_cell? _ _ hx110_0;first|rwa [ql] at this|exact this) GW108.out);have hn110_1 : ad107.block ≠ gb108:=Nat.ne_of_lt (Nat.lt_of_lt_of_le (by have:=World.block_lt_of_cell? _ _ hx110_0;first|rwa [ql] at this|exact this) GW108.out);replace hx110_0:=cb_ HB hx110_0;replace hx110_1:=cb_ HB hx110_1;replace hx110_0:=(cell_far (p:=⟨gb108,0,none⟩) (by first|(rw [ql];exact hn110_0)|(show (Addr.add _ _).block ≠ _;rw [ql];exact hn110_0)|exact hn110_0) (.string ((rd_T69 l0 x7_1).f0))).trans hx110_0;replace hx110_1:=(cell_far (p:=⟨gb108,0,none⟩) (by first|(rw [ql];exact hn110_0)|(show (Addr.add _ _).block ≠ _;rw [ql];exact hn110_0)|exact hn110_0) (.string ((rd_T69 l0 x7_1).f0))).trans hx110_1;replace hx110_0:=(cell_far (p:=⟨gb108,1,none⟩) (by first|(rw [ql];exact hn110_1)|(show (Addr.add _ _).block ≠ _;rw [ql];exact hn110_1)|exact hn110_1) (.string ((rd_T69 l0 x7_1).f1))).trans hx110_0;replace hx110_1:=(cell_far (p:=⟨gb108,1,none⟩) (by first|(rw [ql];exact hn110_1)|(show (Addr.add _ _).block ≠ _;rw [ql];exact hn110_1)|exact hn110_1) (.string ((rd_T69 l0 x7_1).f1))).trans hx110_1;(try have hy110_0:=fun (n_ : Nat)=>(show ((((w17.drewN n_).setCell ⟨gb108,0,none⟩ (.string ((rd_T69 l0 x7_1).f0))).setCell ⟨gb108,1,none⟩ (.string ((rd_T69 l0 x7_1).f1)))).cell? _ = some _ from hx110_0));(try have hy110_1:=fun (n_ : Nat)=>(show ((((w17.drewN n_).setCell ⟨gb108,0,none⟩ (.string ((rd_T69 l0 x7_1).f0))).setCell ⟨gb108,1,none⟩ (.string ((rd_T69 l0 x7_1).f1)))).cell? _ = some _ from hx110_1));clear hn110_0;clear hn110_1;replace p110:=eq_true p110;replace q110:=eq_true q110));try go_wp2_with (first|((with_reducible refine gate_dst (N:=4) rfl ?_);(try (refine gate_guard (by rfl) ?_;dsimp only));refine box_event ?hg (N:=4) ?hd (cs:=#[.string (⟨#[]⟩ : ByteArray),.string (⟨#[]⟩ : ByteArray)]) (t:=69) ?hr ?_;(case hd=>rfl);(case hg=>rfl);(case hr=>first|(go_simp;done)|(go_simp;rfl));intro gb108 hg w17 hbox hb;have BK108:=qo.mk (hbox);have GW108:=hl_ (w:=w) hg;have GE108:=hl_ (w:=w) hg;replace HB:=hs_ HB hb;clear hb hbox hg;obtain ⟨hcz18_0,hcz18_1,hfz18_0,hfz18_1⟩:=c2f_ BK108.out)|(go_at_call 42;(with_reducible refine (impl_in.calls (((rd_T69 l0 x7_1).f0).size : Int) 1 8 true _ A5.out).mono ?_);rintro e w' ⟨rfl,⟨nd,rfl⟩⟩;(try first|exact ⟨rfl,_,World.drewN_drewN _ _ _⟩|exact ⟨rfl,_,Eq.trans (World.drewN_drewN _ _ _) (congrArg (World.drewN _) (Nat.add_assoc _ _ _))⟩);have p110 : 0 ≤ ((ji11) : Int):=dt_;have q110 : (ji11) < (l0.length : Int):=dt_;obtain ⟨ad110,e110,hx110_0,hx110_1⟩:=at_T69 HR0.out (ji11) p110 q110;obtain rfl : ad107 = ad110:=(by injection e110);have hn110_0 : ad107.block ≠ gb108:=Nat.ne_of_lt (Nat.lt_of_lt_of_le (by have:=World.block_lt_of_cell? _ _ hx110_0;first|rwa [ql] at this|exact this) GW108.out);have hn110_1 : ad107.block ≠ gb108:=Nat.ne_of_lt (Nat.lt_of_lt_of_le (by have:=World.block_lt_of_cell? _ _ hx110_0;first|rwa [ql] at this|exact this) GW108.out);replace hx110_0:=cb_ HB hx110_0;replace hx110_1:=cb_ HB hx110_1;replace hx110_0:=(cell_far (p:=⟨gb108,0,none⟩) (by first|(rw [ql];exact hn110_0)|(show (Addr.add _ _).block ≠ _;rw [ql];exact hn110_0)|exact hn110_0) (.string ((rd_T69 l0 x7_1).f0))).trans hx110_0;replace hx110_1:=(cell_far (p:=⟨gb108,0,none⟩) (by first|(rw [ql];exact hn110_0)|(show (Addr.add _ _).block ≠ _;rw [ql];exact hn110_0)|exact hn110_0) (.string ((rd_T69 l0 x7_1).f0))).trans hx110_1;replace hx110_0:=(cell_far (p:=⟨gb108,1,none⟩) (by first|(rw [ql];exact hn110_1)|(show (Addr.add _ _).block ≠ _;rw [ql];exact hn110_1)|exact hn110_1) (.string ((rd_T69 l0 x7_1).f1))).trans hx110_0;replace hx110_1:=(cell_far (p:=⟨gb108,1,none⟩) (by first|(rw [ql];exact hn110_1)|(show (Addr.add _ _).block ≠ _;rw [ql];exact hn110_1)|exact hn110_1) (.string ((rd_T69 l0 x7_1).f1))).trans hx110_1;(try have hy110_0:=fun (n_ : Nat)=>(show ((((w17.drewN n_).setCell ⟨gb108,0,none⟩ (.string ((rd_T69 l0 x7_1).f0))).setCell ⟨gb108,1,none⟩ (.string ((rd_T69 l0 x7_1).f1)))).cell? _ = some _ from hx110_0));(try have hy110_1:=fun (n_ : Nat)=>(show ((((w17.drewN n_).setCell ⟨gb108,0,none⟩ (.string ((rd_T69 l0 x7_1).f0))).setCell ⟨gb108,1,none⟩ (.string ((rd_T69 l0 x7_1).f1)))).cell? _ = some _ from hx110_1));clear hn110_0;clear hn110_1;replace p110:=eq_true p110;replace q110:=eq_true q110)))
        go_ret
        exact ⟨by first|rfl|(simp [errW_none,errW_some] <;> rfl)|(simp only [← hji11];first|rfl|(simp [errW_none,errW_some] <;> rfl))|(simp [*,errW_none,errW_some] <;> rfl),hx_⟩
       rw [if_neg c13] at H
       exact absurd H (by simp)
      rw [if_neg c12] at H
      exact absurd H (by simp)
     rw [if_neg c10] at H
     have c10b0 : decide (0 < x7_1) = false:=decide_eq_false c10
     clear c10
     have H':=qo.mk H
     clear H
     have p107 : 0 ≤ (x7_1 : Int):=dt_
     have q107 : x7_1 < (l0.length : Int):=dt_
     obtain ⟨ad107,e107,hx107_0,hx107_1⟩:=at_T69 HR0.out x7_1 p107 q107
     cases e107
     replace hx107_0:=cb_ HB hx107_0
     replace hx107_1:=cb_ HB hx107_1
     replace p107:=eq_true p107
     replace q107:=eq_true q107
     go_wp2_with (first|((with_reducible refine gate_dst (N:=4) rfl ?_);(try (refine gate_guard (by rfl) ?_;dsimp only));refine box_event ?hg (N:=4) ?hd (cs:=#[.string (⟨#[]⟩ : ByteArray),.string (⟨#[]⟩ : ByteArray)]) (t:=69) ?hr ?_;(case hd=>rfl);(case hg=>rfl);(case hr=>first|(go_simp;done)|(go_simp;rfl));intro gb108 hg w19 hbox hb;have BK108:=qo.mk (hbox);have GW108:=hl_ (w:=w) hg;have GE108:=hl_ (w:=w) hg;replace HB:=hs_ HB hb;clear hb hbox hg;obtain ⟨hcz20_0,hcz20_1,hfz20_0,hfz20_1⟩:=c2f_ BK108.out)|(go_at_call 42;(with_reducible refine (impl_in.calls (((rd_T69 l0 x7_1).f0).size : Int) 1 8 true _ A5.out).mono ?_);rintro e w' ⟨rfl,⟨nd,rfl⟩⟩;(try first|exact ⟨rfl,_,World.drewN_drewN _ _ _⟩|exact ⟨rfl,_,Eq.trans (World.drewN_drewN _ _ _) (congrArg (World.drewN _) (Nat.add_assoc _ _ _))⟩)))
     repeat (go_quiet (first|((with_reducible refine gate_dst (N:=4) rfl ?_);(try (refine gate_guard (by rfl) ?_;dsimp only));refine box_event ?hg (N:=4) ?hd (cs:=#[.string (⟨#[]⟩ : ByteArray),.string (⟨#[]⟩ : ByteArray)]) (t:=69) ?hr ?_;(case hd=>rfl);(case hg=>rfl);(case hr=>first|(go_simp;done)|(go_simp;rfl));intro gb108 hg w19 hbox hb;have BK108:=qo.mk (hbox);have GW108:=hl_ (w:=w) hg;have GE108:=hl_ (w:=w) hg;replace HB:=hs_ HB hb;clear hb hbox hg;obtain ⟨hcz20_0,hcz20_1,hfz20_0,hfz20_1⟩:=c2f_ BK108.out)|(go_at_call 42;(with_reducible refine (impl_in.calls (((rd_T69 l0 x7_1).f0).size : Int) 1 8 true _ A5.out).mono ?_);rintro e w' ⟨rfl,⟨nd,rfl⟩⟩;(try first|exact ⟨rfl,_,World.drewN_drewN _ _ _⟩|exact ⟨rfl,_,Eq.trans (World.drewN_drewN _ _ _) (congrArg (World.drewN _) (Nat.add_assoc _ _ _))⟩)));try go_wp2_with (first|((with_reducible refine gate_dst (N:=4) rfl ?_);(try (refine gate_guard (by rfl) ?_;dsimp only));refine box_event ?hg (N:=4) ?hd (cs:=#[.string (⟨#[]⟩ : ByteArray),.string (⟨#[]⟩ : ByteArray)]) (t:=69) ?hr ?_;(case hd=>rfl);(case hg=>rfl);(case hr=>first|(go_simp;done)|(go_simp;rfl));intro gb108 hg w19 hbox hb;have BK108:=qo.mk (hbox);have GW108:=hl_ (w:=w) hg;have GE108:=hl_ (w:=w) hg;replace HB:=hs_ HB hb;clear hb hbox hg;obtain ⟨hcz20_0,hcz20_1,hfz20_0,hfz20_1⟩:=c2f_ BK108.out)|(go_at_call 42;(with_reducible refine (impl_in.calls (((rd_T69 l0 x7_1).f0).size : Int) 1 8 true _ A5.out).mono ?_);rintro e w' ⟨rfl,⟨nd,rfl⟩⟩;(try first|exact ⟨rfl,_,World.drewN_drewN _ _ _⟩|exact ⟨rfl,_,Eq.trans (World.drewN_drewN _ _ _) (congrArg (World.drewN _) (Nat.add_assoc _ _ _))⟩))))
     go_roundg k1
     case measure=>have:=HK1.out;omega
     case rel=>exact ⟨(wrap64 (x7_1 + 1)),rs_,H',⟨by have:=HK1.out;omega⟩,⟨hx_⟩⟩
    replace c6:=Bool.eq_false_iff.mpr c6
    subst c6
    have H1 : (some false) = some r:=by rw [if_neg (show ¬ (false = true) by decide)] at H;exact H
    clear H
    have H:=H1
    clear H1
    obtain rfl:=Option.some.inj H
    have p107 : 0 ≤ (x7_1 : Int):=dt_
    have q107 : x7_1 < (l0.length : Int):=dt_
    obtain ⟨ad107,e107,hx107_0,hx107_1⟩:=at_T69 HR0.out x7_1 p107 q107
    cases e107
    replace hx107_0:=cb_ HB hx107_0
    replace hx107_1:=cb_ HB hx107_1
    replace p107:=eq_true p107
    replace q107:=eq_true q107
    go_wp2_with (first|((with_reducible refine gate_dst (N:=4) rfl ?_);(try (refine gate_guard (by rfl) ?_;dsimp only));refine box_event ?hg (N:=4) ?hd (cs:=#[.string (⟨#[]⟩ : ByteArray),.string (⟨#[]⟩ : ByteArray)]) (t:=69) ?hr ?_;(case hd=>rfl);(case hg=>rfl);(case hr=>first|(go_simp;done)|(go_simp;rfl));intro gb108 hg w21 hbox hb;have BK108:=qo.mk (hbox);have GW108:=hl_ (w:=w) hg;have GE108:=hl_ (w:=w) hg;replace HB:=hs_ HB hb;clear hb hbox hg;obtain ⟨hcz22_0,hcz22_1,hfz22_0,hfz22_1⟩:=c2f_ BK108.out)|(go_at_call 42;(with_reducible refine (impl_in.calls (((rd_T69 l0 x7_1).f0).size : Int) 1 8 false _ A5.out).mono ?_);rintro e w' ⟨rfl,⟨nd,rfl⟩⟩;(try first|exact ⟨rfl,_,World.drewN_drewN _ _ _⟩|exact ⟨rfl,_,Eq.trans (World.drewN_drewN _ _ _) (congrArg (World.drewN _) (Nat.add_assoc _ _ _))⟩)))
    repeat (go_quiet (first|((with_reducible refine gate_dst (N:=4) rfl ?_);(try (refine gate_guard (by rfl) ?_;dsimp only));refine box_event ?hg (N:=4) ?hd (cs:=#[.string (⟨#[]⟩ : ByteArray),.string (⟨#[]⟩ : ByteArray)]) (t:=69) ?hr ?_;(case hd=>rfl);(case hg=>rfl);(case hr=>first|(go_simp;done)|(go_simp;rfl));intro gb108 hg w21 hbox hb;have BK108:=qo.mk (hbox);have GW108:=hl_ (w:=w) hg;have GE108:=hl_ (w:=w) hg;replace HB:=hs_ HB hb;clear hb hbox hg;obtain ⟨hcz22_0,hcz22_1,hfz22_0,hfz22_1⟩:=c2f_ BK108.out)|(go_at_call 42;(with_reducible refine (impl_in.calls (((rd_T69 l0 x7_1).f0).size : Int) 1 8 false _ A5.out).mono ?_);rintro e w' ⟨rfl,⟨nd,rfl⟩⟩;(try first|exact ⟨rfl,_,World.drewN_drewN _ _ _⟩|exact ⟨rfl,_,Eq.trans (World.drewN_drewN _ _ _) (congrArg (World.drewN _) (Nat.add_assoc _ _ _))⟩)));try go_wp2_with (first|((with_reducible refine gate_dst (N:=4) rfl ?_);(try (refine gate_guard (by rfl) ?_;dsimp only));refine box_event ?hg (N:=4) ?hd (cs:=#[.string (⟨#[]⟩ : ByteArray),.string (⟨#[]⟩ : ByteArray)]) (t:=69) ?hr ?_;(case hd=>rfl);(case hg=>rfl);(case hr=>first|(go_simp;done)|(go_simp;rfl));intro gb108 hg w21 hbox hb;have BK108:=qo.mk (hbox);have GW108:=hl_ (w:=w) hg;have GE108:=hl_ (w:=w) hg;replace HB:=hs_ HB hb;clear hb hbox hg;obtain ⟨hcz22_0,hcz22_1,hfz22_0,hfz22_1⟩:=c2f_ BK108.out)|(go_at_call 42;(with_reducible refine (impl_in.calls (((rd_T69 l0 x7_1).f0).size : Int) 1 8 false _ A5.out).mono ?_);rintro e w' ⟨rfl,⟨nd,rfl⟩⟩;(try first|exact ⟨rfl,_,World.drewN_drewN _ _ _⟩|exact ⟨rfl,_,Eq.trans (World.drewN_drewN _ _ _) (congrArg (World.drewN _) (Nat.add_assoc _ _ _))⟩))))
    go_ret
    exact ⟨rt_,hx_⟩
   rw [if_neg c4] at H
   exact absurd H (by simp)
  rw [if_neg c3] at H
  exact absurd H (by simp)
 rw [if_neg c2] at H
 have c2b0 : decide (x7_1 < (l0.length : Int)) = false:=decide_eq_false c2
 clear c2
 obtain rfl:=Option.some.inj H
 go_wp2
 repeat (go_quiet (fail);try go_wp2)
 go_ret
 exact ⟨rt_,hx_⟩

/-! ### impl_copyDevice: function 43 -/
def impl_copyDevice.f (l0_0 : List ByteArray) (l0_1 : List (S96)) : Option (List ByteArray × (List (S96))):=if ([] : List ByteArray).length + l0_0.length < 8796093022208 then (if ([] : List (S96)).length + l0_1.length < 5864062014805 then (some ((([] : List ByteArray) ++ l0_0),(([] : List (S96)) ++ l0_1))) else (none)) else (none)
def impl_copyDevice.T1 : Bool × List (List Nat × List Nat):=(true,[([],[]),([0],[0]),([1],[1]),([],[]),([3],[3]),([4,2],[4]),([2,5],[2,5]),([6,5,0,1,2,3,4,5,6],[6])])
def impl_copyDevice.B1 : List Nat:=[0,1,3,0,8,31,63,127]
theorem impl_copyDevice.tab1 : rtab .any (opsOf Try.f43 1) = impl_copyDevice.T1:=by kernel_rfl
theorem impl_copyDevice.bits1 : waitsOk impl_copyDevice.T1.2 impl_copyDevice.B1 = true:=by kernel_rfl
set_option maxHeartbeats 8000000 in
set_option maxRecDepth 100000 in
theorem impl_copyDevice.calls (A0_0 : Option Addr) (c0_0 : Nat) (l0_0 : List ByteArray) (A0_1 : Option Addr) (c0_1 : Nat) (l0_1 : List (S96)) (r1 : List ByteArray) (r2 : List (S96)) (w : World) (hr0_0 : Kd.C Kd.string w A0_0 l0_0.length l0_0) (hc0_0 : l0_0.length ≤ c0_0) (hr0_1 : Kd.C k96 w A0_1 l0_1.length l0_1) (hc0_1 : l0_1.length ≤ c0_1) (h : impl_copyDevice.f l0_0 l0_1 = some (r1,r2)) :
  Calls Try.prog 43 #[.agg #[.slice A0_0 l0_0.length c0_0,.slice A0_1 l0_1.length c0_1]] w fun e w'=>∃ v0_ v1_ : Value,e = .returned (.agg #[v0_,v1_]) ∧ Kd.R Kd.string 9 w' w.heap.size (fun _=>True) v0_ r1 ∧ Kd.R k96 96 w' w.heap.size (fun _=>True) v1_ r2 ∧ Below w.heap.size w w':=by
 have hu32:=Try.underlying32
 have HR0_0:=qo.mk hr0_0
 have HC0_0:=qo.mk hc0_0
 clear hr0_0 hc0_0
 have HR0_1:=qo.mk hr0_1
 have HC0_1:=qo.mk hc0_1
 clear hr0_1 hc0_1
 have HB:=qo.mk (Below.refl w.heap.size w)
 have H : (if ([] : List ByteArray).length + l0_0.length < 8796093022208 then (if ([] : List (S96)).length + l0_1.length < 5864062014805 then (some ((([] : List ByteArray) ++ l0_0),(([] : List (S96)) ++ l0_1))) else (none)) else (none)) = some (r1,r2):=h
 clear h
 by_cases c2 : ([] : List ByteArray).length + l0_0.length < 8796093022208
 ·rw [if_pos c2] at H
  have LMc2:=qo.mk c2
  clear c2
  obtain ⟨y113,hy113⟩ : ∃ y_ : List ByteArray,y_ = (([] : List ByteArray) ++ l0_0):=⟨_,rfl⟩
  replace H : (if ([] : List (S96)).length + l0_1.length < 5864062014805 then (some (y113,(([] : List (S96)) ++ l0_1))) else (none)) = some (r1,r2):=by first|(rw [hy113];with_reducible exact H)|(have H2_:=(Option.bind_some _ _).symm.trans H;rw [hy113];with_reducible exact H2_)|(have H2_:=(Option.bind_some _ _).symm.trans H;with_reducible exact H2_)|with_reducible exact H|(rw [hy113];exact H)|exact H
  have Ny113:=qo.mk hy113
  clear hy113
  by_cases c3 : ([] : List (S96)).length + l0_1.length < 5864062014805
  ·rw [if_pos c3] at H
   have LMc3:=qo.mk c3
   clear c3
   obtain ⟨y116,hy116⟩ : ∃ y_ : List (S96),y_ = (([] : List (S96)) ++ l0_1):=⟨_,rfl⟩
   replace H : (some (y113,y116)) = some (r1,r2):=by first|(rw [hy116];with_reducible exact H)|(have H2_:=(Option.bind_some _ _).symm.trans H;rw [hy116];with_reducible exact H2_)|(have H2_:=(Option.bind_some _ _).symm.trans H;with_reducible exact H2_)|with_reducible exact H|(rw [hy116];exact H)|exact H
   have Ny116:=qo.mk hy116
   clear hy116
   simp only [Option.some.injEq,Prod.mk.injEq] at H
   obtain ⟨rfl,rfl⟩:=H
   go_enter Try.func43,Try.ntmps43
   try go_wp2_with (first|((with_reducible refine gate_dst (N:=1) rfl ?_);refine box_event ?hg (N:=1) ?hd (cs:=#[.slice A0_0 l0_0.length c0_0,.slice A0_1 l0_1.length c0_1]) (t:=32) ?hr ?_;(case hd=>rfl);(case hg=>rfl);(case hr=>first|(go_simp;done)|(go_simp;rfl));intro gb111 hg w4 hbox hb;have BK111:=qo.mk (hbox);have GW111:=hl_ (w:=w) hg;have GE111:=hl_ (w:=w) hg;replace HB:=hs_ HB hb;clear hb hbox hg)|((with_reducible refine gate_dst (N:=2) rfl ?_);refine box_event ?hg (N:=2) ?hd (cs:=#[.slice none 0 0,.slice none 0 0]) (t:=32) ?hr ?_;(case hd=>rfl);(case hg=>rfl);(case hr=>first|(go_simp;done)|(go_simp;rfl));intro gb112 hg w5 hbox hb;have BK112:=qo.mk (hbox);have GW112:=hl_ (w:=w) hg;have GE112:=hl_ (w:=w) hg;have NB111_112:=qo.mk ((by rw [hg];exact nl_ BK111 : gb111 ≠ gb112));have NB112_111:=qo.mk ((by rw [hg];exact ng_ BK111 : gb112 ≠ gb111));replace BK111:=bb_ BK111 hb;replace HB:=hs_ HB hb;clear hb hbox hg))
   replace BK111:=qo.mk (qe BK111.out);replace BK112:=qo.mk (qe BK112.out);replace HB:=qo.mk (qd HB.out)
   refine start_ (n:=8) (S:=fun w'=>w'.cell? ⟨gb111,0,none⟩ = some (.slice A0_0 l0_0.length c0_0) ∧ w'.cell? ⟨gb111,1,none⟩ = some (.slice A0_1 l0_1.length c0_1)) (ds:=[]) (Array.replicate 8 false) (by kernel_rfl) rfl rfl ⟨(qh BK111.out 0).trans rfl,(qh BK111.out 1).trans rfl⟩ (fun hHeld=>?_);refine with_tabW impl_copyDevice.tab1 impl_copyDevice.bits1 (fun HT_ HW_=>?_)
   generalize w5.drew = w6 at BK111 BK112 HB hHeld ⊢
   refine pt_ 0 3 (bz_ 8 1) ?_
   refine pt_ 3 6 (bz_ 8 9) ?_
   refine tt_ 1 4 (bz_ 8 11) hHeld (hy:=Or.inl ⟨by rfl,by rintro w' ⟨s0,s1⟩;go_simp;with_reducible rfl⟩) (h:=?_)
   refine tt_ 4 7 (bz_ 8 27) hHeld (hy:=Or.inl ⟨by rfl,by rintro w' ⟨s0,s1⟩;go_simp;with_reducible rfl⟩) (h:=?_)
   refine one_ (i:=2) (N:=some 5) (bz_ 8 31) rfl rfl (one_of HT_.out (by kernel_rfl)) (by decide) (fun K hK=>?_)
   refine Kd.R_append_rows_step Kd.string (w0:=w) w.heap.size (by rfl) (.const (.slice none 0 0)) (.tmp 4) 22 9 (.string ⟨#[]⟩) 16 rfl Try.underlying22 info9 rfl (by decide) (by omega) (.slice none 0 0) ([] : List ByteArray) l0_0 _ _ _ (fun _=>True) (fun _=>False) rfl rfl ?aO ?aR (fun _ _ h=>h) (fun _ h=>h.elim) ?aF ?aB ?aS ?aL ?_
   (case aR=>repeat (first|exact (Kd.C_below HR0_0.out HB.out)|(with_reducible refine Kd.C_alloc ?_ _)|(with_reducible refine Kd.C_drewN ?_ _)|(with_reducible refine Kd.C_drew ?_)))
   (case aB=>exact hx_)
   (case aF=>exact (fun _ _=>trivial))
   (case aO=>exact ((Kd.R_nil _ _ _ _ (fun _=>True))))
   (case aS=>exact (qk hx_))
   (case aL=>have:=LMc2.out;omega)
   intro v114 w7 ho hb hg hat
   rw [← Ny113.out] at ho
   replace BK111:=qo.mk (blk_grown (g:=gb111) (o:=.cells #[.slice A0_0 l0_0.length c0_0,.slice A0_1 l0_1.length c0_1] 32 (0,0)) (bx_ BK111).out hg (by simp [Value.ownBlock]));replace BK112:=qo.mk (blk_grown (g:=gb112) (o:=.cells #[.slice none 0 0,.slice none 0 0] 32 (0,0)) (bx_ BK112).out hg (by simp [Value.ownBlock]));replace HB:=qo.mk (hb);have HO115:=qo.mk (ho)
   clear ho hb hg hat
   refine hK.out _ _ ⟨(qh BK111.out 0).trans rfl,(qh BK111.out 1).trans rfl⟩ (fun hHeld=>?_)
   clear hK K
   refine norm_ (a':=?_) ?_ ?_
   rotate_left
   ·show Act.put _ (some 5) _ = _
    simp only [Act.put,List.setIfInBounds_toArray,List.set_cons_zero,List.set_cons_succ,i64_w,i32_w]
    rfl
   refine one_ (i:=5) (N:=some 8) (bz_ 8 63) rfl rfl (one_of HT_.out (by kernel_rfl)) (by decide) (fun K hK=>?_)
   refine Kd.R_append_rows_step k96 (w0:=w) w.heap.size (by rfl) (.const (.slice none 0 0)) (.tmp 7) 30 96 (.agg #[(.int .i64 0),(.string ⟨#[]⟩)]) 24 rfl Try.underlying30 info96 rfl (by decide) (by omega) (.slice none 0 0) ([] : List (S96)) l0_1 _ _ _ (fun _=>True) (fun _=>False) rfl rfl ?aO ?aR (fun _ _ h=>h) (fun _ h=>h.elim) ?aF ?aB ?aS ?aL ?_
   (case aR=>repeat (first|exact (Kd.C_below HR0_1.out HB.out)|(with_reducible refine Kd.C_alloc ?_ _)|(with_reducible refine Kd.C_drewN ?_ _)|(with_reducible refine Kd.C_drew ?_)))
   (case aB=>exact hx_)
   (case aF=>exact (fun _ _=>trivial))
   (case aO=>exact ((Kd.R_nil _ _ _ _ (fun _=>True))))
   (case aS=>exact (qk hx_))
   (case aL=>have:=LMc3.out;omega)
   intro v117 w8 ho hb hg hat
   rw [← Ny116.out] at ho
   replace BK111:=qo.mk (blk_grown (g:=gb111) (o:=.cells #[.slice A0_0 l0_0.length c0_0,.slice A0_1 l0_1.length c0_1] 32 (0,0)) (bx_ BK111).out hg (by simp [Value.ownBlock]));replace BK112:=qo.mk (blk_grown (g:=gb112) (o:=.cells #[.slice none 0 0,.slice none 0 0] 32 (0,0)) (bx_ BK112).out hg (by simp [Value.ownBlock]));replace HO115:=qo.mk (Kd.R_grown (by (with_reducible repeat (first|apply Kd.R_alloc|apply Kd.R_drewN|apply Kd.R_drew));exact HO115.out) hg (fun _ _=>by simp [Value.ownBlock]));replace HB:=qo.mk (hb);have HO118:=qo.mk (ho)
   clear ho hb hg hat
   obtain ⟨Ao9,co9,eo9⟩:=Kd.R_slice HO118.out
   (first|subst eo9|(injection eo9 with f1_ f2_ f3_;have f4_:=f1_.symm;have f5_:=f3_.symm;clear f1_ f2_ f3_;subst f4_;subst f5_))
   obtain ⟨Ao10,co10,eo10⟩:=Kd.R_slice HO115.out
   (first|subst eo10|(injection eo10 with f1_ f2_ f3_;have f4_:=f1_.symm;have f5_:=f3_.symm;clear f1_ f2_ f3_;subst f4_;subst f5_))
   refine hK.out _ _ ⟨(qh BK111.out 0).trans rfl,(qh BK111.out 1).trans rfl⟩ (fun hHeld=>?_)
   clear hK K
   refine norm_ (a':=?_) ?_ ?_
   rotate_left
   ·show Act.put _ (some 8) _ = _
    simp only [Act.put,List.setIfInBounds_toArray,List.set_cons_zero,List.set_cons_succ,i64_w,i32_w]
    rfl
   refine pt_ 6 9 (bz_ 8 127) ?_
   refine one_ (i:=7) (N:=none) (bz_ 8 255) rfl rfl (one_of HT_.out (by kernel_rfl)) (by decide) (fun K hK=>?_)
   have hs11 : w8.cell? ⟨gb112,0,none⟩ = some (.slice none 0 0):=(qh BK112.out 0).trans rfl
   have hfs11:=qj BK112.out 0
   have hns11_0:=NB111_112.out
   have hms11_0:=NB112_111.out
   have hs12 : w8.cell? ⟨gb112,1,none⟩ = some (.slice none 0 0):=(qh BK112.out 1).trans rfl
   have hfs12:=qj BK112.out 1
   have hns12_0:=NB111_112.out
   have hms12_0:=NB112_111.out
   refine skip_ (w1:=?_) (by rfl) rfl ?_ ?_
   rotate_left
   ·go_simp
    rfl
   refine hK.out _ _ ⟨((cell_far (p:=⟨gb112,_,none⟩) NB111_112.out _).trans (((cell_far (p:=⟨gb112,_,none⟩) NB111_112.out _).trans (hHeld.1)))),((cell_far (p:=⟨gb112,_,none⟩) NB111_112.out _).trans (((cell_far (p:=⟨gb112,_,none⟩) NB111_112.out _).trans (hHeld.2))))⟩ (fun hHeld=>?_)
   clear hK K
   refine done_ (done_of HT_.out (by kernel_rfl)) ?_
   try go_wp2
   refine bodyPost_ret (results_cell_row rfl _ _ gb112 32 #[.slice Ao10 y113.length co10,.slice Ao9 y116.length co9] (0,0) _ rfl (by (with_reducible repeat (first|refine qb ?_ _|refine qe ?_|refine qc ?_ _));refine blk_put (cs:=#[.slice Ao10 y113.length co10,.slice none 0 0]) ?_ 1 _ rfl;(with_reducible repeat (first|refine qb ?_ _|refine qe ?_|refine qc ?_ _));refine blk_put (cs:=#[.slice none 0 0,.slice none 0 0]) ?_ 0 _ rfl;(with_reducible repeat (first|refine qb ?_ _|refine qe ?_|refine qc ?_ _));exact BK112.out) Try.underlying32 rfl (by kernel_rfl)) rfl ?_
   exact ⟨_,_,rt_,by (with_reducible repeat (first|apply Kd.R_alloc|apply Kd.R_drewN|apply Kd.R_drew));exact Kd.R_mono (Kd.R_far (p:=⟨gb112,1,none⟩) (Kd.R_far (p:=⟨gb112,0,none⟩) (Kd.R_types HO115.out BK112.out (by decide)) (fun _ hk=>hk.2) (.slice Ao10 y113.length co10)) (fun _ hk=>hk.2) (.slice Ao9 y116.length co9)) (fun _ hk=>trivial),by (with_reducible repeat (first|apply Kd.R_alloc|apply Kd.R_drewN|apply Kd.R_drew));exact Kd.R_mono (Kd.R_far (p:=⟨gb112,1,none⟩) (Kd.R_far (p:=⟨gb112,0,none⟩) (Kd.R_types HO118.out BK112.out (by decide)) (fun _ hk=>hk.2) (.slice Ao10 y113.length co10)) (fun _ hk=>hk.2) (.slice Ao9 y116.length co9)) (fun _ hk=>trivial),hx_⟩
  rw [if_neg c3] at H
  exact absurd H (by simp)
 rw [if_neg c2] at H
 exact absurd H (by simp)

end Go.Proofs.Ytcnoccefdejphaa.QFnTrees
