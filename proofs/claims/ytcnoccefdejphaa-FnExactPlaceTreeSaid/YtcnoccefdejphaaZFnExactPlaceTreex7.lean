/- Lean functions for the Go functions that the law FnExactPlaceTree reaches, and that each Go function comes to just its Lean function's answer; by a program of this session. -/
import Derived.Test.YtcnoccefdejphaaZFnExactPlaceTreex0
namespace Go.Proofs.Ytcnoccefdejphaa.QFnExactPlaceTree
open Go.RowKit Go.Proofs.YtcnoccefdejphaaW.PrintWords Go.Proofs.YtcnoccefdejphaaW.PrintLast Go.Proofs.YtcnoccefdejphaaW.PrintMore
attribute [local go_sem] max2_int min2_int max_two min_two max_three min_three max_four min_four   -- for this text's walks alone
set_option linter.unusedVariables false
set_option linter.unusedSimpArgs false

/-! ### spec_l03In: function 65 -/
def spec_l03In.l0 : Nat → List Int → Int → Int → Option (Bool)
 | 0,_,_,_=>none
 | k + 1,x0,x1,x5=>if x5 < (x0.length : Int) then (if 0 ≤ x5 then (if (rd x0 x5) = x1 then (some true) else (spec_l03In.l0 k x0 x1 (wrap64 (x5 + 1)))) else (none)) else (some false)
def spec_l03In.f (k : Nat) (l0 : List Int) (a1 : Int) : Option (Bool):=spec_l03In.l0 k l0 a1 0
theorem spec_l03In.mono_l : ∀ k,(∀ y0 y1 y2,LeO (spec_l03In.l0 k y0 y1 y2) (spec_l03In.l0 (k + 1) y0 y1 y2))
 | 0=>fun _ _ _ r h=>by simp [spec_l03In.l0] at h
 | k + 1=>by
  have ih0:=spec_l03In.mono_l k
  intro y0 y1 y2
  unfold spec_l03In.l0
  repeat' first|(with_reducible first|exact ih0 _ _ _|exact LeO.refl _|exact LeO.none _|refine LeO.ite ?_ ?_|refine LeO.bind ?_ (fun _=>?_))|exact ih0 _ _ _|exact LeO.none _|refine LeO.ite ?_ ?_|refine LeO.bind ?_ (fun _=>?_)
theorem spec_l03In.mono : ∀ a0 a1 k,LeO (spec_l03In.f k a0 a1) (spec_l03In.f (k + 1) a0 a1):=by
 intro a0 a1 k
 have ih0:=spec_l03In.mono_l k
 unfold spec_l03In.f
 repeat' first|(with_reducible first|exact ih0 _ _ _|exact LeO.refl _|exact LeO.none _|refine LeO.ite ?_ ?_|refine LeO.bind ?_ (fun _=>?_))|exact ih0 _ _ _|exact LeO.none _|refine LeO.ite ?_ ?_|refine LeO.bind ?_ (fun _=>?_)
set_option maxHeartbeats 8000000 in
set_option maxRecDepth 100000 in
theorem spec_l03In.calls (k : Nat) (A0 : Option Addr) (c0 : Nat) (l0 : List Int) (a1 : Int) (r : Bool) (w : World) (hr0 : Kd.C (Kd.int .i64) w A0 l0.length l0) (hc0 : l0.length ≤ c0) (h : spec_l03In.f k l0 a1 = some r) :
  Calls Try.prog 65 #[.slice A0 l0.length c0,.int .i64 a1] w fun e w'=>e = .returned (.bool r) ∧ Drawn0 w w':=by
 have HR0:=qo.mk hr0
 have HC0:=qo.mk hc0
 clear hr0 hc0
 have H : (spec_l03In.l0 k l0 a1 0) = some r:=h
 clear h
 have H':=qo.mk H
 clear H
 go_enter Try.func65,Try.ntmps65
 go_wp2
 go_loopg [5] k (fun kq v5 w'=>∃ (x5_1 : Int),v5 = .int .i64 x5_1 ∧ qo (spec_l03In.l0 kq l0 a1 x5_1 = some r) ∧ qo (kq ≤ k) ∧ Drawn0 w w')
 case atStart=>exact ⟨(0),rs_,H',⟨Nat.le_refl _⟩,by repeat (first|exact Drawn0.refl _|apply Drawn0.step)⟩
 clear H'
 try clear p2
 obtain ⟨x5_1,rfl,HA,HK1,⟨m1,rfl⟩⟩:=hrel
 obtain _|k1:=gk
 ·exact absurd HA.out (by simp [spec_l03In.l0])
 have H:=HA.out
 clear HA
 simp only [spec_l03In.l0] at H
 by_cases c3 : x5_1 < (l0.length : Int)
 ·rw [if_pos c3] at H
  have c3b0 : decide (x5_1 < (l0.length : Int)) = true:=decide_eq_true c3
  clear c3
  by_cases c4 : 0 ≤ x5_1
  ·rw [if_pos c4] at H
   have c4b0 : decide (0 ≤ x5_1) = true:=decide_eq_true c4
   clear c4
   by_cases c5 : (rd l0 x5_1) = a1
   ·rw [if_pos c5] at H
    have c5b0 : ((rd l0 x5_1) == a1) = true:=beq_iff_eq.mpr c5
    have c5b1 : ((rd l0 x5_1) != a1) = false:=bne_eq_false_iff_eq.mpr c5
    clear c5
    obtain rfl:=Option.some.inj H
    have p226 : 0 ≤ (x5_1 : Int):=dt_
    have q226 : x5_1 < (l0.length : Int):=dt_
    obtain ⟨ad226,e226,hx226_0⟩:=Kd.at_int HR0.out x5_1 p226 q226
    cases e226
    replace p226:=eq_true p226
    replace q226:=eq_true q226
    go_wp2
    go_ret
    exact ⟨by first|rfl|(simp;done)|(simp [*];done),by repeat (first|exact Drawn0.refl _|apply Drawn0.step)⟩
   rw [if_neg c5] at H
   have c5b0 : ((rd l0 x5_1) == a1) = false:=beq_eq_false_iff_ne.mpr c5
   have c5b1 : ((rd l0 x5_1) != a1) = true:=bne_iff_ne.mpr c5
   have H':=qo.mk H
   clear H
   have p226 : 0 ≤ (x5_1 : Int):=dt_
   have q226 : x5_1 < (l0.length : Int):=dt_
   obtain ⟨ad226,e226,hx226_0⟩:=Kd.at_int HR0.out x5_1 p226 q226
   cases e226
   replace p226:=eq_true p226
   replace q226:=eq_true q226
   go_wp2
   go_roundg k1
   case measure=>have:=HK1.out;omega
   case rel=>exact ⟨(wrap64 (x5_1 + 1)),rs_,H',⟨by have:=HK1.out;omega⟩,by repeat (first|exact Drawn0.refl _|apply Drawn0.step)⟩
  rw [if_neg c4] at H
  exact absurd H (by simp)
 rw [if_neg c3] at H
 have c3b0 : decide (x5_1 < (l0.length : Int)) = false:=decide_eq_false c3
 clear c3
 obtain rfl:=Option.some.inj H
 go_wp2
 go_ret
 exact ⟨by first|rfl|(simp;done)|(simp [*];done),by repeat (first|exact Drawn0.refl _|apply Drawn0.step)⟩

/-! ### spec_l03Read: function 66 -/
def spec_l03Read.l0 : Nat → Int → ByteArray → Int → List ByteArray → List (S96) → Option (ByteArray)
 | 0,_,_,_,_,_=>none
 | k + 1,x1,x5,x6,x228000,x228001=>if x6 < (x228001.length : Int) then (if 0 ≤ x6 then (if ((rd_T96 x228001 x6).f0) = x1 then (spec_l03Read.l0 k x1 ((rd_T96 x228001 x6).f1) (wrap64 (x6 + 1)) x228000 x228001) else (spec_l03Read.l0 k x1 x5 (wrap64 (x6 + 1)) x228000 x228001)) else (none)) else (some x5)
def spec_l03Read.f (k : Nat) (l0_0 : List ByteArray) (l0_1 : List (S96)) (a1 : Int) : Option (ByteArray):=if 0 ≤ a1 then (if a1 < (l0_0.length : Int) then (spec_l03Read.l0 k a1 (rdOf ByteArray.empty l0_0 a1) 0 l0_0 l0_1) else (none)) else (none)
theorem spec_l03Read.mono_l : ∀ k,(∀ y0 y1 y2 y3 y4,LeO (spec_l03Read.l0 k y0 y1 y2 y3 y4) (spec_l03Read.l0 (k + 1) y0 y1 y2 y3 y4))
 | 0=>fun _ _ _ _ _ r h=>by simp [spec_l03Read.l0] at h
 | k + 1=>by
  have ih0:=spec_l03Read.mono_l k
  intro y0 y1 y2 y3 y4
  unfold spec_l03Read.l0
  repeat' first|(with_reducible first|exact ih0 _ _ _ _ _|exact LeO.refl _|exact LeO.none _|refine LeO.ite ?_ ?_|refine LeO.bind ?_ (fun _=>?_))|exact ih0 _ _ _ _ _|exact LeO.none _|refine LeO.ite ?_ ?_|refine LeO.bind ?_ (fun _=>?_)
theorem spec_l03Read.mono : ∀ a0 a1 a2 k,LeO (spec_l03Read.f k a0 a1 a2) (spec_l03Read.f (k + 1) a0 a1 a2):=by
 intro a0 a1 a2 k
 have ih0:=spec_l03Read.mono_l k
 unfold spec_l03Read.f
 repeat' first|(with_reducible first|exact ih0 _ _ _ _ _|exact LeO.refl _|exact LeO.none _|refine LeO.ite ?_ ?_|refine LeO.bind ?_ (fun _=>?_))|exact ih0 _ _ _ _ _|exact LeO.none _|refine LeO.ite ?_ ?_|refine LeO.bind ?_ (fun _=>?_)
set_option maxHeartbeats 8000000 in
set_option maxRecDepth 100000 in
theorem spec_l03Read.calls (k : Nat) (A0_0 : Option Addr) (c0_0 : Nat) (l0_0 : List ByteArray) (A0_1 : Option Addr) (c0_1 : Nat) (l0_1 : List (S96)) (a1 : Int) (r : ByteArray) (w : World) (hr0_0 : Kd.C Kd.string w A0_0 l0_0.length l0_0) (hc0_0 : l0_0.length ≤ c0_0) (hr0_1 : Kd.C k96 w A0_1 l0_1.length l0_1) (hc0_1 : l0_1.length ≤ c0_1) (h : spec_l03Read.f k l0_0 l0_1 a1 = some r) :
  Calls Try.prog 66 #[.agg #[.slice A0_0 l0_0.length c0_0,.slice A0_1 l0_1.length c0_1],.int .i64 a1] w fun e w'=>e = .returned (.string r) ∧ Below w.heap.size w w':=by
 have hu32:=Try.underlying32
 have HR0_0:=qo.mk hr0_0
 have HC0_0:=qo.mk hc0_0
 clear hr0_0 hc0_0
 have HR0_1:=qo.mk hr0_1
 have HC0_1:=qo.mk hc0_1
 clear hr0_1 hc0_1
 have HB:=qo.mk (Below.refl w.heap.size w)
 have H : (if 0 ≤ a1 then (if a1 < (l0_0.length : Int) then (spec_l03Read.l0 k a1 (rdOf ByteArray.empty l0_0 a1) 0 l0_0 l0_1) else (none)) else (none)) = some r:=h
 clear h
 by_cases c3 : 0 ≤ a1
 ·rw [if_pos c3] at H
  have c3b0 : decide (0 ≤ a1) = true:=decide_eq_true c3
  clear c3
  by_cases c4 : a1 < (l0_0.length : Int)
  ·rw [if_pos c4] at H
   have c4b0 : decide (a1 < (l0_0.length : Int)) = true:=decide_eq_true c4
   clear c4
   have H':=qo.mk H
   clear H
   go_enter Try.func66,Try.ntmps66
   go_wp2_with (first|((with_reducible refine gate_dst (N:=2) rfl ?_);refine box_event ?hg (N:=2) ?hd (cs:=#[.slice A0_0 l0_0.length c0_0,.slice A0_1 l0_1.length c0_1]) (t:=32) ?hr ?_;(case hd=>rfl);(case hg=>rfl);(case hr=>first|(go_simp;done)|(go_simp;rfl));intro gb227 hg w5 hbox hb;have BK227:=qo.mk (hbox);have GW227:=hl_ (w:=w) hg;have GE227:=hl_ (w:=w) hg;replace HB:=hs_ HB hb;clear hb hbox hg;obtain ⟨hcz6_0,hcz6_1,hfz6_0,hfz6_1⟩:=c2f_ BK227.out;have p228 : 0 ≤ (a1 : Int):=dt_;have q228 : a1 < (l0_0.length : Int):=dt_;obtain ⟨ad228,e228,hx228_0⟩:=Kd.at_string HR0_0.out a1 p228 q228;cases e228;replace hx228_0:=cb_ HB hx228_0;replace p228:=eq_true p228;replace q228:=eq_true q228))
   go_loopg [5,6] k (fun kq v5 v6 w'=>∃ (x5_1 : ByteArray) (x6_1 : Int),v5 = .string x5_1 ∧ v6 = .int .i64 x6_1 ∧ qo (spec_l03Read.l0 kq a1 x5_1 x6_1 l0_0 l0_1 = some r) ∧ qo (kq ≤ k) ∧ qo (w'.heap[gb227]? = some (.cells #[(.slice (some ad228) l0_0.length c0_0),(.slice A0_1 l0_1.length c0_1)] 32 (0,0))) ∧ qo (Below w.heap.size w w'))
   case atStart=>exact ⟨(rdOf ByteArray.empty l0_0 a1),(0),rs_,rs_,H',⟨Nat.le_refl _⟩,(bx_ BK227),⟨hx_⟩⟩
   clear H'
   try clear p2
   try clear q2
   try clear hx2
   try clear c3
   try clear c3b0
   try clear c4
   try clear c4b0
   try clear c6
   try clear hcz6_0
   try clear hcz6_1
   try clear hfz6_0
   try clear hfz6_1
   try clear hx228_0
   try clear p228
   try clear q228
   obtain ⟨x5_1,x6_1,rfl,rfl,HA,HK1,BK227,HB⟩:=hrel
   obtain _|k1:=gk
   ·exact absurd HA.out (by simp [spec_l03Read.l0])
   have H:=HA.out
   clear HA
   simp only [spec_l03Read.l0] at H
   by_cases c7 : x6_1 < (l0_1.length : Int)
   ·rw [if_pos c7] at H
    have c7b0 : decide (x6_1 < (l0_1.length : Int)) = true:=decide_eq_true c7
    clear c7
    by_cases c8 : 0 ≤ x6_1
    ·rw [if_pos c8] at H
     have c8b0 : decide (0 ≤ x6_1) = true:=decide_eq_true c8
     clear c8
     by_cases c9 : ((rd_T96 l0_1 x6_1).f0) = a1
     ·rw [if_pos c9] at H
      have c9b0 : (((rd_T96 l0_1 x6_1).f0) == a1) = true:=beq_iff_eq.mpr c9
      have c9b1 : (((rd_T96 l0_1 x6_1).f0) != a1) = false:=bne_eq_false_iff_eq.mpr c9
      clear c9
      have H':=qo.mk H
      clear H
      obtain ⟨hcz10_0,hcz10_1,hfz10_0,hfz10_1⟩:=c2f_ BK227.out
      have p229 : 0 ≤ (x6_1 : Int):=dt_
      have q229 : x6_1 < (l0_1.length : Int):=dt_
      obtain ⟨ad229,e229,hx229_0,hx229_1⟩:=at_T96 HR0_1.out x6_1 p229 q229
      cases e229
      replace hx229_0:=cb_ HB hx229_0
      replace hx229_1:=cb_ HB hx229_1
      replace p229:=eq_true p229
      replace q229:=eq_true q229
      have p230 : 0 ≤ (x6_1 : Int):=dt_
      have q230 : x6_1 < (l0_1.length : Int):=dt_
      obtain ⟨ad230,e230,hx230_0,hx230_1⟩:=at_T96 HR0_1.out x6_1 p230 q230
      obtain rfl : ad229 = ad230:=(by injection e230)
      replace hx230_0:=cb_ HB hx230_0
      replace hx230_1:=cb_ HB hx230_1
      replace p230:=eq_true p230
      replace q230:=eq_true q230
      go_wp2
      go_roundg k1
      case measure=>have:=HK1.out;omega
      case rel=>exact ⟨((rd_T96 l0_1 x6_1).f1),(wrap64 (x6_1 + 1)),rs_,rs_,H',⟨by have:=HK1.out;omega⟩,(bx_ BK227),⟨hx_⟩⟩
     rw [if_neg c9] at H
     have c9b0 : (((rd_T96 l0_1 x6_1).f0) == a1) = false:=beq_eq_false_iff_ne.mpr c9
     have c9b1 : (((rd_T96 l0_1 x6_1).f0) != a1) = true:=bne_iff_ne.mpr c9
     have H':=qo.mk H
     clear H
     obtain ⟨hcz11_0,hcz11_1,hfz11_0,hfz11_1⟩:=c2f_ BK227.out
     have p229 : 0 ≤ (x6_1 : Int):=dt_
     have q229 : x6_1 < (l0_1.length : Int):=dt_
     obtain ⟨ad229,e229,hx229_0,hx229_1⟩:=at_T96 HR0_1.out x6_1 p229 q229
     cases e229
     replace hx229_0:=cb_ HB hx229_0
     replace hx229_1:=cb_ HB hx229_1
     replace p229:=eq_true p229
     replace q229:=eq_true q229
     go_wp2
     go_roundg k1
     case measure=>have:=HK1.out;omega
     case rel=>exact ⟨(x5_1),(wrap64 (x6_1 + 1)),rs_,rs_,H',⟨by have:=HK1.out;omega⟩,(bx_ BK227),⟨hx_⟩⟩
    rw [if_neg c8] at H
    exact absurd H (by simp)
   rw [if_neg c7] at H
   have c7b0 : decide (x6_1 < (l0_1.length : Int)) = false:=decide_eq_false c7
   clear c7
   obtain rfl:=Option.some.inj H
   obtain ⟨hcz12_0,hcz12_1,hfz12_0,hfz12_1⟩:=c2f_ BK227.out
   go_wp2
   go_ret
   exact ⟨rt_,hx_⟩
  rw [if_neg c4] at H
  exact absurd H (by simp)
 rw [if_neg c3] at H
 exact absurd H (by simp)

/-! ### spec_l05With: function 67 -/
mutual
def spec_l05With.l0 : Nat → List Int → Int → List Int → Int → Option (List Int)
 | 0,_,_,_,_=>none
 | k + 1,x0,x1,x5,x6=>if x6 < (x0.length : Int) then (if 0 ≤ x6 then (if (rd x0 x6) < x1 then (if x5.length < 17592186044416 then (spec_l05With.l0 k x0 x1 (x5 ++ [rd x0 x6]) (wrap64 (x6 + 1))) else (none)) else (spec_l05With.l0 k x0 x1 x5 (wrap64 (x6 + 1)))) else (none)) else (if x5.length < 17592186044416 then (spec_l05With.l1 k x0 x1 (x5 ++ [x1]) 0) else (none))
def spec_l05With.l1 : Nat → List Int → Int → List Int → Int → Option (List Int)
 | 0,_,_,_,_=>none
 | k + 1,x0,x1,x5,x7=>if x7 < (x0.length : Int) then (if 0 ≤ x7 then (if (rd x0 x7) > x1 then (if x5.length < 17592186044416 then (spec_l05With.l1 k x0 x1 (x5 ++ [rd x0 x7]) (wrap64 (x7 + 1))) else (none)) else (spec_l05With.l1 k x0 x1 x5 (wrap64 (x7 + 1)))) else (none)) else (some x5)
end
def spec_l05With.f (k : Nat) (l0 : List Int) (a1 : Int) : Option (List Int):=spec_l05With.l0 k l0 a1 (([] : List Int)) 0
theorem spec_l05With.mono_l : ∀ k,(∀ y0 y1 y2 y3,LeO (spec_l05With.l0 k y0 y1 y2 y3) (spec_l05With.l0 (k + 1) y0 y1 y2 y3)) ∧ (∀ y0 y1 y2 y3,LeO (spec_l05With.l1 k y0 y1 y2 y3) (spec_l05With.l1 (k + 1) y0 y1 y2 y3))
 | 0=>⟨fun _ _ _ _ r h=>by simp [spec_l05With.l0] at h,fun _ _ _ _ r h=>by simp [spec_l05With.l1] at h⟩
 | k + 1=>by
  obtain ⟨ih0,ih1⟩:=spec_l05With.mono_l k
  refine ⟨?_,?_⟩ <;> intros <;> first|unfold spec_l05With.l0|unfold spec_l05With.l1
  all_goals repeat' first|(with_reducible first|exact ih0 _ _ _ _|exact ih1 _ _ _ _|exact LeO.refl _|exact LeO.none _|refine LeO.ite ?_ ?_|refine LeO.bind ?_ (fun _=>?_))|exact ih0 _ _ _ _|exact ih1 _ _ _ _|exact LeO.none _|refine LeO.ite ?_ ?_|refine LeO.bind ?_ (fun _=>?_)
theorem spec_l05With.mono : ∀ a0 a1 k,LeO (spec_l05With.f k a0 a1) (spec_l05With.f (k + 1) a0 a1):=by
 intro a0 a1 k
 obtain ⟨ih0,ih1⟩:=spec_l05With.mono_l k
 unfold spec_l05With.f
 repeat' first|(with_reducible first|exact ih0 _ _ _ _|exact ih1 _ _ _ _|exact LeO.refl _|exact LeO.none _|refine LeO.ite ?_ ?_|refine LeO.bind ?_ (fun _=>?_))|exact ih0 _ _ _ _|exact ih1 _ _ _ _|exact LeO.none _|refine LeO.ite ?_ ?_|refine LeO.bind ?_ (fun _=>?_)
set_option maxHeartbeats 8000000 in
set_option maxRecDepth 100000 in
theorem spec_l05With.calls (k : Nat) (A0 : Option Addr) (c0 : Nat) (l0 : List Int) (a1 : Int) (r : List Int) (w : World) (hr0 : Kd.C (Kd.int .i64) w A0 l0.length l0) (hc0 : l0.length ≤ c0) (h : spec_l05With.f k l0 a1 = some r) :
  Calls Try.prog 67 #[.slice A0 l0.length c0,.int .i64 a1] w fun e w'=>∃ v0_ : Value,e = .returned (v0_) ∧ Kd.R (Kd.int .i64) 3 w' w.heap.size (fun _=>True) v0_ r ∧ Below w.heap.size w w':=by
 have HR0:=qo.mk hr0
 have HC0:=qo.mk hc0
 clear hr0 hc0
 have HB:=qo.mk (Below.refl w.heap.size w)
 have H : (spec_l05With.l0 k l0 a1 (([] : List Int)) 0) = some r:=h
 clear h
 obtain ⟨y231,hy231⟩ : ∃ y_ : List Int,y_ = (([] : List Int)):=⟨_,rfl⟩
 replace H : (spec_l05With.l0 k l0 a1 y231 0) = some r:=by first|(rw [hy231];with_reducible exact H)|(have H2_:=(Option.bind_some _ _).symm.trans H;rw [hy231];with_reducible exact H2_)|(have H2_:=(Option.bind_some _ _).symm.trans H;with_reducible exact H2_)|with_reducible exact H|(rw [hy231];exact H)|exact H
 have Ny231:=qo.mk hy231
 clear hy231
 have H':=qo.mk H
 clear H
 go_enter Try.func67,Try.ntmps67
 go_wp2_with (first|((with_reducible refine gate_dst (N:=8) rfl ?_);refine Kd.R_lit (Kd.int .i64) _ 3 ?hg (N:=8) ?hd (xs:=([] : List Int)) (inner:=[]) (ok:=fun _=>True) (okp:=fun _=>True) ?hr ?hp (fun _ hk=>hk) trivial (Below.refl _ _) (Nat.le_refl _) (by simp) ?_;(case hd=>rfl);(case hg=>rfl);(case hr=>first|(go_simp;done)|(go_simp;rfl));(case hp=>exact (Reps.none _ _));intro v232 w3 ho4 hb hg_ hnew_;clear hg_ hnew_;(first|rw [← Ny231.out] at ho4|(simp only [Int.reduceToNat] at ho4;rw [← Ny231.out] at ho4));have HO233:=qo.mk (Kd.R_lower ho4 (qk hx_));replace HB:=hs_ HB hb;clear hb ho4))
 go_loopg [5,6] k (fun kq v5 v6 w'=>∃ (x5_1 : List Int) (x6_1 : Int),v6 = .int .i64 x6_1 ∧ qo (spec_l05With.l0 kq l0 a1 x5_1 x6_1 = some r) ∧ qo (kq ≤ k) ∧ qo (Kd.R (Kd.int .i64) 3 w' w.heap.size (fun _=>True) v5 x5_1) ∧ qo (Below w.heap.size w w'))
 case atStart=>exact ⟨(y231),(0),rs_,H',⟨Nat.le_refl _⟩,⟨by (with_reducible repeat (first|apply Kd.R_alloc|apply Kd.R_drewN|apply Kd.R_drew));exact HO233.out⟩,⟨hx_⟩⟩
 clear H'
 try clear p2
 obtain ⟨x5_1,x6_1,rfl,HA,HK1,HO_5,HB⟩:=hrel
 obtain _|k1:=gk
 ·exact absurd HA.out (by simp [spec_l05With.l0])
 have H:=HA.out
 clear HA
 simp only [spec_l05With.l0] at H
 by_cases c5 : x6_1 < (l0.length : Int)
 ·rw [if_pos c5] at H
  have c5b0 : decide (x6_1 < (l0.length : Int)) = true:=decide_eq_true c5
  clear c5
  by_cases c6 : 0 ≤ x6_1
  ·rw [if_pos c6] at H
   have c6b0 : decide (0 ≤ x6_1) = true:=decide_eq_true c6
   clear c6
   by_cases c7 : (rd l0 x6_1) < a1
   ·rw [if_pos c7] at H
    have c7b0 : decide ((rd l0 x6_1) < a1) = true:=decide_eq_true c7
    clear c7
    by_cases c8 : x5_1.length < 17592186044416
    ·rw [if_pos c8] at H
     have LMc8:=qo.mk c8
     clear c8
     obtain ⟨y236,hy236⟩ : ∃ y_ : List Int,y_ = (x5_1 ++ [rd l0 x6_1]):=⟨_,rfl⟩
     replace H : (spec_l05With.l0 k1 l0 a1 y236 (wrap64 (x6_1 + 1))) = some r:=by first|(rw [hy236];with_reducible exact H)|(have H2_:=(Option.bind_some _ _).symm.trans H;rw [hy236];with_reducible exact H2_)|(have H2_:=(Option.bind_some _ _).symm.trans H;with_reducible exact H2_)|with_reducible exact H|(rw [hy236];exact H)|exact H
     have Ny236:=qo.mk hy236
     clear hy236
     have H':=qo.mk H
     clear H
     have p234 : 0 ≤ (x6_1 : Int):=dt_
     have q234 : x6_1 < (l0.length : Int):=dt_
     obtain ⟨ad234,e234,hx234_0⟩:=Kd.at_int HR0.out x6_1 p234 q234
     cases e234
     replace hx234_0:=cb_ HB hx234_0
     replace p234:=eq_true p234
     replace q234:=eq_true q234
     have p235 : 0 ≤ (x6_1 : Int):=dt_
     have q235 : x6_1 < (l0.length : Int):=dt_
     obtain ⟨ad235,e235,hx235_0⟩:=Kd.at_int HR0.out x6_1 p235 q235
     obtain rfl : ad234 = ad235:=(by injection e235)
     replace hx235_0:=cb_ HB hx235_0
     replace p235:=eq_true p235
     replace q235:=eq_true q235
     go_wp2_with (first|((with_reducible refine gate_builtin (b:=.append) (xs:=#[.tmp 21,.tmp 26]) rfl ?_);at_builtin;refine Kd.R_append (Kd.int .i64) (w0:=w) w.heap.size rfl (.tmp 21) (.tmp 26) 26 3 (.int .i64 0) 8 rfl Try.underlying26 info3 rfl (by decide) (by omega) u5 x5_1 (rd l0 x6_1) [.int .i64 (rd l0 x6_1)] (fun _=>True) (fun _=>False) rfl rfl ?aP (fun _ hk=>hk.elim) ?aF ?aO ?aB ?aS ?aL ?_;(case aP=>exact rfl);(case aB=>exact hx_);(case aF=>exact (fun _ _=>trivial));(case aO=>exact (by (with_reducible repeat (first|apply Kd.R_alloc|apply Kd.R_drewN|apply Kd.R_drew));exact HO_5.out));(case aS=>exact (qk hx_));(case aL=>have:=LMc8.out;omega);intro v237 w9 ho hb hg hat;rw [← Ny236.out] at ho;replace HB:=qo.mk (hb);have HO238:=qo.mk (ho);clear HO_5;clear ho hb hg hat))
     go_roundg k1
     case measure=>have:=HK1.out;omega
     case rel=>exact ⟨(y236),(wrap64 (x6_1 + 1)),rs_,H',⟨by have:=HK1.out;omega⟩,⟨by (with_reducible repeat (first|apply Kd.R_alloc|apply Kd.R_drewN|apply Kd.R_drew));exact HO238.out⟩,⟨hx_⟩⟩
    rw [if_neg c8] at H
    exact absurd H (by simp)
   rw [if_neg c7] at H
   have c7b0 : decide ((rd l0 x6_1) < a1) = false:=decide_eq_false c7
   clear c7
   have H':=qo.mk H
   clear H
   have p234 : 0 ≤ (x6_1 : Int):=dt_
   have q234 : x6_1 < (l0.length : Int):=dt_
   obtain ⟨ad234,e234,hx234_0⟩:=Kd.at_int HR0.out x6_1 p234 q234
   cases e234
   replace hx234_0:=cb_ HB hx234_0
   replace p234:=eq_true p234
   replace q234:=eq_true q234
   go_wp2
   go_roundg k1
   case measure=>have:=HK1.out;omega
   case rel=>exact ⟨(x5_1),(wrap64 (x6_1 + 1)),rs_,H',⟨by have:=HK1.out;omega⟩,⟨by (with_reducible repeat (first|apply Kd.R_alloc|apply Kd.R_drewN|apply Kd.R_drew));exact HO_5.out⟩,⟨hx_⟩⟩
  rw [if_neg c6] at H
  exact absurd H (by simp)
 rw [if_neg c5] at H
 have c5b0 : decide (x6_1 < (l0.length : Int)) = false:=decide_eq_false c5
 clear c5
 by_cases c10 : x5_1.length < 17592186044416
 ·rw [if_pos c10] at H
  have LMc10:=qo.mk c10
  clear c10
  obtain ⟨y239,hy239⟩ : ∃ y_ : List Int,y_ = (x5_1 ++ [a1]):=⟨_,rfl⟩
  replace H : (spec_l05With.l1 k1 l0 a1 y239 0) = some r:=by first|(rw [hy239];with_reducible exact H)|(have H2_:=(Option.bind_some _ _).symm.trans H;rw [hy239];with_reducible exact H2_)|(have H2_:=(Option.bind_some _ _).symm.trans H;with_reducible exact H2_)|with_reducible exact H|(rw [hy239];exact H)|exact H
  have Ny239:=qo.mk hy239
  clear hy239
  have H':=qo.mk H
  clear H
  go_wp2_with (first|((with_reducible refine gate_builtin (b:=.append) (xs:=#[.tmp 28,.tmp 30]) rfl ?_);at_builtin;refine Kd.R_append (Kd.int .i64) (w0:=w) w.heap.size rfl (.tmp 28) (.tmp 30) 26 3 (.int .i64 0) 8 rfl Try.underlying26 info3 rfl (by decide) (by omega) u5 x5_1 a1 [.int .i64 a1] (fun _=>True) (fun _=>False) rfl rfl ?aP (fun _ hk=>hk.elim) ?aF ?aO ?aB ?aS ?aL ?_;(case aP=>exact rfl);(case aB=>exact hx_);(case aF=>exact (fun _ _=>trivial));(case aO=>exact (by (with_reducible repeat (first|apply Kd.R_alloc|apply Kd.R_drewN|apply Kd.R_drew));exact HO_5.out));(case aS=>exact (qk hx_));(case aL=>have:=LMc10.out;omega);intro v240 w11 ho hb hg hat;rw [← Ny239.out] at ho;replace HB:=qo.mk (hb);have HO241:=qo.mk (ho);clear HO_5;clear ho hb hg hat))
  go_loopg [5,7] k1 (fun kq v5 v7 w'=>∃ (x5_2 : List Int) (x7_2 : Int),v7 = .int .i64 x7_2 ∧ qo (spec_l05With.l1 kq l0 a1 x5_2 x7_2 = some r) ∧ qo (kq ≤ k1) ∧ qo (Kd.R (Kd.int .i64) 3 w' w.heap.size (fun _=>True) v5 x5_2) ∧ qo (Below w.heap.size w w'))
  case atStart=>exact ⟨(y239),(0),rs_,H',⟨Nat.le_refl _⟩,⟨by (with_reducible repeat (first|apply Kd.R_alloc|apply Kd.R_drewN|apply Kd.R_drew));exact HO241.out⟩,⟨hx_⟩⟩
  clear H'
  try clear c1
  try clear p2
  try clear q2
  try clear hx2
  try clear c5
  try clear c5b0
  try clear c6
  try clear c6b0
  try clear p6
  try clear c7
  try clear c7b0
  try clear c8
  try clear c10
  try clear hx234_0
  try clear hx235_0
  try clear p2
  try clear p234
  try clear p235
  try clear q234
  try clear q235
  obtain ⟨x5_2,x7_2,rfl,HA,HK2,HO_5,HB⟩:=hrel
  obtain _|k2:=gk
  ·exact absurd HA.out (by simp [spec_l05With.l1])
  have H:=HA.out
  clear HA
  simp only [spec_l05With.l1] at H
  by_cases c12 : x7_2 < (l0.length : Int)
  ·rw [if_pos c12] at H
   have c12b0 : decide (x7_2 < (l0.length : Int)) = true:=decide_eq_true c12
   clear c12
   by_cases c13 : 0 ≤ x7_2
   ·rw [if_pos c13] at H
    have c13b0 : decide (0 ≤ x7_2) = true:=decide_eq_true c13
    clear c13
    by_cases c14 : (rd l0 x7_2) > a1
    ·rw [if_pos c14] at H
     have c14b0 : decide (a1 < (rd l0 x7_2)) = true:=decide_eq_true c14
     clear c14
     by_cases c15 : x5_2.length < 17592186044416
     ·rw [if_pos c15] at H
      have LMc15:=qo.mk c15
      clear c15
      obtain ⟨y244,hy244⟩ : ∃ y_ : List Int,y_ = (x5_2 ++ [rd l0 x7_2]):=⟨_,rfl⟩
      replace H : (spec_l05With.l1 k2 l0 a1 y244 (wrap64 (x7_2 + 1))) = some r:=by first|(rw [hy244];with_reducible exact H)|(have H2_:=(Option.bind_some _ _).symm.trans H;rw [hy244];with_reducible exact H2_)|(have H2_:=(Option.bind_some _ _).symm.trans H;with_reducible exact H2_)|with_reducible exact H|(rw [hy244];exact H)|exact H
      have Ny244:=qo.mk hy244
      clear hy244
      have H':=qo.mk H
      clear H
      have p242 : 0 ≤ (x7_2 : Int):=dt_
      have q242 : x7_2 < (l0.length : Int):=dt_
      obtain ⟨ad242,e242,hx242_0⟩:=Kd.at_int HR0.out x7_2 p242 q242
      cases e242
      replace hx242_0:=cb_ HB hx242_0
      replace p242:=eq_true p242
      replace q242:=eq_true q242
      have p243 : 0 ≤ (x7_2 : Int):=dt_
      have q243 : x7_2 < (l0.length : Int):=dt_
      obtain ⟨ad243,e243,hx243_0⟩:=Kd.at_int HR0.out x7_2 p243 q243
      obtain rfl : ad242 = ad243:=(by injection e243)
      replace hx243_0:=cb_ HB hx243_0
      replace p243:=eq_true p243
      replace q243:=eq_true q243
      go_wp2_with (first|((with_reducible refine gate_builtin (b:=.append) (xs:=#[.tmp 44,.tmp 49]) rfl ?_);at_builtin;refine Kd.R_append (Kd.int .i64) (w0:=w) w.heap.size rfl (.tmp 44) (.tmp 49) 26 3 (.int .i64 0) 8 rfl Try.underlying26 info3 rfl (by decide) (by omega) u5 x5_2 (rd l0 x7_2) [.int .i64 (rd l0 x7_2)] (fun _=>True) (fun _=>False) rfl rfl ?aP (fun _ hk=>hk.elim) ?aF ?aO ?aB ?aS ?aL ?_;(case aP=>exact rfl);(case aB=>exact hx_);(case aF=>exact (fun _ _=>trivial));(case aO=>exact (by (with_reducible repeat (first|apply Kd.R_alloc|apply Kd.R_drewN|apply Kd.R_drew));exact HO_5.out));(case aS=>exact (qk hx_));(case aL=>have:=LMc15.out;omega);intro v245 w16 ho hb hg hat;rw [← Ny244.out] at ho;replace HB:=qo.mk (hb);have HO246:=qo.mk (ho);clear HO_5;clear ho hb hg hat))
      go_roundg k2
      case measure=>have:=HK1.out;have:=HK2.out;omega
      case rel=>exact ⟨(y244),(wrap64 (x7_2 + 1)),rs_,H',⟨by have:=HK1.out;have:=HK2.out;omega⟩,⟨by (with_reducible repeat (first|apply Kd.R_alloc|apply Kd.R_drewN|apply Kd.R_drew));exact HO246.out⟩,⟨hx_⟩⟩
     rw [if_neg c15] at H
     exact absurd H (by simp)
    rw [if_neg c14] at H
    have c14b0 : decide (a1 < (rd l0 x7_2)) = false:=decide_eq_false c14
    clear c14
    have H':=qo.mk H
    clear H
    have p242 : 0 ≤ (x7_2 : Int):=dt_
    have q242 : x7_2 < (l0.length : Int):=dt_
    obtain ⟨ad242,e242,hx242_0⟩:=Kd.at_int HR0.out x7_2 p242 q242
    cases e242
    replace hx242_0:=cb_ HB hx242_0
    replace p242:=eq_true p242
    replace q242:=eq_true q242
    go_wp2
    go_roundg k2
    case measure=>have:=HK1.out;have:=HK2.out;omega
    case rel=>exact ⟨(x5_2),(wrap64 (x7_2 + 1)),rs_,H',⟨by have:=HK1.out;have:=HK2.out;omega⟩,⟨by (with_reducible repeat (first|apply Kd.R_alloc|apply Kd.R_drewN|apply Kd.R_drew));exact HO_5.out⟩,⟨hx_⟩⟩
   rw [if_neg c13] at H
   exact absurd H (by simp)
  rw [if_neg c12] at H
  have c12b0 : decide (x7_2 < (l0.length : Int)) = false:=decide_eq_false c12
  clear c12
  obtain rfl:=Option.some.inj H
  go_wp2
  go_ret
  exact ⟨_,rt_,by (with_reducible repeat (first|apply Kd.R_alloc|apply Kd.R_drewN|apply Kd.R_drew));exact HO_5.out,hx_⟩
 rw [if_neg c10] at H
 exact absurd H (by simp)

end Go.Proofs.Ytcnoccefdejphaa.QFnExactPlaceTree
