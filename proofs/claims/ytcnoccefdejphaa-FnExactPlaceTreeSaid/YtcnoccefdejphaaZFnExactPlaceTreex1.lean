/- Lean functions for the Go functions that the law FnExactPlaceTree reaches, and that each Go function comes to just its Lean function's answer; by a program of this session. -/
import Derived.Test.YtcnoccefdejphaaZFnExactPlaceTreex0
namespace Go.Proofs.Ytcnoccefdejphaa.QFnExactPlaceTree
open Go.RowKit Go.Proofs.YtcnoccefdejphaaW.PrintWords Go.Proofs.YtcnoccefdejphaaW.PrintLast Go.Proofs.YtcnoccefdejphaaW.PrintMore
attribute [local go_sem] max2_int min2_int max_two min_two max_three min_three max_four min_four   -- for this text's walks alone
set_option linter.unusedVariables false
set_option linter.unusedSimpArgs false

/-! ### laws_szStringS: function 28 -/
def laws_szStringS.l0 : Nat → List ByteArray → Int → Int → Option (Int)
 | 0,_,_,_=>none
 | k + 1,x0,x1,x5=>if x5 < (x0.length : Int) then (if 0 ≤ x5 then (if (wrap64 (x1 - ((rdOf ByteArray.empty x0 x5).size : Int))) < 0 then (some (-1)) else (laws_szStringS.l0 k x0 (wrap64 (x1 - ((rdOf ByteArray.empty x0 x5).size : Int))) (wrap64 (x5 + 1)))) else (none)) else (some x1)
def laws_szStringS.f (k : Nat) (l0 : List ByteArray) (a1 : Int) : Option (Int):=if (wrap64 (a1 - (l0.length : Int))) < 0 then (some (-1)) else (laws_szStringS.l0 k l0 (wrap64 (a1 - (l0.length : Int))) 0)
theorem laws_szStringS.mono_l : ∀ k,(∀ y0 y1 y2,LeO (laws_szStringS.l0 k y0 y1 y2) (laws_szStringS.l0 (k + 1) y0 y1 y2))
 | 0=>fun _ _ _ r h=>by simp [laws_szStringS.l0] at h
 | k + 1=>by
  have ih0:=laws_szStringS.mono_l k
  intro y0 y1 y2
  unfold laws_szStringS.l0
  repeat' first|(with_reducible first|exact ih0 _ _ _|exact LeO.refl _|exact LeO.none _|refine LeO.ite ?_ ?_|refine LeO.bind ?_ (fun _=>?_))|exact ih0 _ _ _|exact LeO.none _|refine LeO.ite ?_ ?_|refine LeO.bind ?_ (fun _=>?_)
theorem laws_szStringS.mono : ∀ a0 a1 k,LeO (laws_szStringS.f k a0 a1) (laws_szStringS.f (k + 1) a0 a1):=by
 intro a0 a1 k
 have ih0:=laws_szStringS.mono_l k
 unfold laws_szStringS.f
 repeat' first|(with_reducible first|exact ih0 _ _ _|exact LeO.refl _|exact LeO.none _|refine LeO.ite ?_ ?_|refine LeO.bind ?_ (fun _=>?_))|exact ih0 _ _ _|exact LeO.none _|refine LeO.ite ?_ ?_|refine LeO.bind ?_ (fun _=>?_)
set_option maxHeartbeats 8000000 in
set_option maxRecDepth 100000 in
theorem laws_szStringS.calls (k : Nat) (A0 : Option Addr) (c0 : Nat) (l0 : List ByteArray) (a1 : Int) (r : Int) (w : World) (hr0 : Kd.C Kd.string w A0 l0.length l0) (hc0 : l0.length ≤ c0) (h : laws_szStringS.f k l0 a1 = some r) :
  Calls Try.prog 28 #[.slice A0 l0.length c0,.int .i64 a1] w fun e w'=>e = .returned (.int .i64 r) ∧ Drawn0 w w':=by
 have HR0:=qo.mk hr0
 have HC0:=qo.mk hc0
 clear hr0 hc0
 have H : (if (wrap64 (a1 - (l0.length : Int))) < 0 then (some (-1)) else (laws_szStringS.l0 k l0 (wrap64 (a1 - (l0.length : Int))) 0)) = some r:=h
 clear h
 by_cases c3 : (wrap64 (a1 - (l0.length : Int))) < 0
 ·rw [if_pos c3] at H
  have c3b0 : decide ((wrap64 (a1 - (l0.length : Int))) < 0) = true:=decide_eq_true c3
  clear c3
  obtain rfl:=Option.some.inj H
  go_enter Try.func28,Try.ntmps28
  go_wp2
  go_ret
  exact ⟨by first|rfl|(simp;done)|(simp [*];done),by repeat (first|exact Drawn0.refl _|apply Drawn0.step)⟩
 rw [if_neg c3] at H
 have c3b0 : decide ((wrap64 (a1 - (l0.length : Int))) < 0) = false:=decide_eq_false c3
 clear c3
 have H':=qo.mk H
 clear H
 go_enter Try.func28,Try.ntmps28
 go_wp2
 go_loopg [1,5] k (fun kq v1 v5 w'=>∃ (x1_1 : Int) (x5_1 : Int),v1 = .int .i64 x1_1 ∧ v5 = .int .i64 x5_1 ∧ qo (laws_szStringS.l0 kq l0 x1_1 x5_1 = some r) ∧ qo (kq ≤ k) ∧ Drawn0 w w')
 case atStart=>exact ⟨(wrap64 (a1 - (l0.length : Int))),(0),rs_,rs_,H',⟨Nat.le_refl _⟩,by repeat (first|exact Drawn0.refl _|apply Drawn0.step)⟩
 clear H'
 try clear c2
 try clear p2
 try clear c3
 try clear c3b0
 obtain ⟨x1_1,x5_1,rfl,rfl,HA,HK1,⟨m1,rfl⟩⟩:=hrel
 obtain _|k1:=gk
 ·exact absurd HA.out (by simp [laws_szStringS.l0])
 have H:=HA.out
 clear HA
 simp only [laws_szStringS.l0] at H
 by_cases c4 : x5_1 < (l0.length : Int)
 ·rw [if_pos c4] at H
  have c4b0 : decide (x5_1 < (l0.length : Int)) = true:=decide_eq_true c4
  clear c4
  by_cases c5 : 0 ≤ x5_1
  ·rw [if_pos c5] at H
   have c5b0 : decide (0 ≤ x5_1) = true:=decide_eq_true c5
   clear c5
   by_cases c6 : (wrap64 (x1_1 - ((rdOf ByteArray.empty l0 x5_1).size : Int))) < 0
   ·rw [if_pos c6] at H
    have c6b0 : decide ((wrap64 (x1_1 - ((rdOf ByteArray.empty l0 x5_1).size : Int))) < 0) = true:=decide_eq_true c6
    clear c6
    obtain rfl:=Option.some.inj H
    have p101 : 0 ≤ (x5_1 : Int):=dt_
    have q101 : x5_1 < (l0.length : Int):=dt_
    obtain ⟨ad101,e101,hx101_0⟩:=Kd.at_string HR0.out x5_1 p101 q101
    cases e101
    replace p101:=eq_true p101
    replace q101:=eq_true q101
    go_wp2
    go_ret
    exact ⟨by first|rfl|(simp;done)|(simp [*];done),by repeat (first|exact Drawn0.refl _|apply Drawn0.step)⟩
   rw [if_neg c6] at H
   have c6b0 : decide ((wrap64 (x1_1 - ((rdOf ByteArray.empty l0 x5_1).size : Int))) < 0) = false:=decide_eq_false c6
   clear c6
   have H':=qo.mk H
   clear H
   have p101 : 0 ≤ (x5_1 : Int):=dt_
   have q101 : x5_1 < (l0.length : Int):=dt_
   obtain ⟨ad101,e101,hx101_0⟩:=Kd.at_string HR0.out x5_1 p101 q101
   cases e101
   replace p101:=eq_true p101
   replace q101:=eq_true q101
   go_wp2
   go_roundg k1
   case measure=>have:=HK1.out;omega
   case rel=>exact ⟨(wrap64 (x1_1 - ((rdOf ByteArray.empty l0 x5_1).size : Int))),(wrap64 (x5_1 + 1)),rs_,rs_,H',⟨by have:=HK1.out;omega⟩,by repeat (first|exact Drawn0.refl _|apply Drawn0.step)⟩
  rw [if_neg c5] at H
  exact absurd H (by simp)
 rw [if_neg c4] at H
 have c4b0 : decide (x5_1 < (l0.length : Int)) = false:=decide_eq_false c4
 clear c4
 obtain rfl:=Option.some.inj H
 go_wp2
 go_ret
 exact ⟨by first|rfl|(simp;done)|(simp [*];done),by repeat (first|exact Drawn0.refl _|apply Drawn0.step)⟩

/-! ### laws_szPut: function 60 -/
def laws_szPut.f (a0_0 : Int) (a0_1 : ByteArray) (a1 : Int) : Option (Int):=if (wrap64 (a1 - (a0_1.size : Int))) < 0 then (some (-1)) else (some (wrap64 (a1 - (a0_1.size : Int))))
set_option maxHeartbeats 8000000 in
set_option maxRecDepth 100000 in
theorem laws_szPut.calls (a0_0 : Int) (a0_1 : ByteArray) (a1 : Int) (r : Int) (w : World) (h : laws_szPut.f a0_0 a0_1 a1 = some r) :
  Calls Try.prog 60 #[.agg #[.int .i64 a0_0,.string a0_1],.int .i64 a1] w fun e w'=>e = .returned (.int .i64 r) ∧ Below w.heap.size w w':=by
 have hu102:=Try.underlying102
 have HB:=qo.mk (Below.refl w.heap.size w)
 have H : (if (wrap64 (a1 - (a0_1.size : Int))) < 0 then (some (-1)) else (some (wrap64 (a1 - (a0_1.size : Int))))) = some r:=h
 clear h
 by_cases c3 : (wrap64 (a1 - (a0_1.size : Int))) < 0
 ·rw [if_pos c3] at H
  have c3b0 : decide ((wrap64 (a1 - (a0_1.size : Int))) < 0) = true:=decide_eq_true c3
  clear c3
  obtain rfl:=Option.some.inj H
  go_enter Try.func60,Try.ntmps60
  go_wp2_with (first|((with_reducible refine gate_dst (N:=2) rfl ?_);refine box_event ?hg (N:=2) ?hd (cs:=#[.int .i64 a0_0,.string a0_1]) (t:=102) ?hr ?_;(case hd=>rfl);(case hg=>rfl);(case hr=>first|(go_simp;done)|(go_simp;rfl));intro gb102 hg w4 hbox hb;have BK102:=qo.mk (hbox);have GW102:=hl_ (w:=w) hg;have GE102:=hl_ (w:=w) hg;replace HB:=hs_ HB hb;clear hb hbox hg;obtain ⟨hcz5_0,hcz5_1,hfz5_0,hfz5_1⟩:=c2f_ BK102.out))
  go_ret
  exact ⟨rt_,hx_⟩
 rw [if_neg c3] at H
 have c3b0 : decide ((wrap64 (a1 - (a0_1.size : Int))) < 0) = false:=decide_eq_false c3
 clear c3
 obtain rfl:=Option.some.inj H
 go_enter Try.func60,Try.ntmps60
 go_wp2_with (first|((with_reducible refine gate_dst (N:=2) rfl ?_);refine box_event ?hg (N:=2) ?hd (cs:=#[.int .i64 a0_0,.string a0_1]) (t:=102) ?hr ?_;(case hd=>rfl);(case hg=>rfl);(case hr=>first|(go_simp;done)|(go_simp;rfl));intro gb102 hg w6 hbox hb;have BK102:=qo.mk (hbox);have GW102:=hl_ (w:=w) hg;have GE102:=hl_ (w:=w) hg;replace HB:=hs_ HB hb;clear hb hbox hg;obtain ⟨hcz7_0,hcz7_1,hfz7_0,hfz7_1⟩:=c2f_ BK102.out))
 go_ret
 exact ⟨rt_,hx_⟩

/-! ### laws_szPutS: function 29 -/
def laws_szPutS.l0 : Nat → List (S102) → Int → Int → Option (Int)
 | 0,_,_,_=>none
 | k + 1,x0,x1,x5=>if x5 < (x0.length : Int) then (if 0 ≤ x5 then ((laws_szPut.f ((rd_T102 x0 x5).f0) ((rd_T102 x0 x5).f1) x1).bind fun t104=>(if t104 < 0 then (some (-1)) else (laws_szPutS.l0 k x0 t104 (wrap64 (x5 + 1))))) else (none)) else (some x1)
def laws_szPutS.f (k : Nat) (l0 : List (S102)) (a1 : Int) : Option (Int):=if (wrap64 (a1 - (l0.length : Int))) < 0 then (some (-1)) else (laws_szPutS.l0 k l0 (wrap64 (a1 - (l0.length : Int))) 0)
theorem laws_szPutS.mono_l : ∀ k,(∀ y0 y1 y2,LeO (laws_szPutS.l0 k y0 y1 y2) (laws_szPutS.l0 (k + 1) y0 y1 y2))
 | 0=>fun _ _ _ r h=>by simp [laws_szPutS.l0] at h
 | k + 1=>by
  have ih0:=laws_szPutS.mono_l k
  intro y0 y1 y2
  unfold laws_szPutS.l0
  repeat' first|(with_reducible first|exact ih0 _ _ _|exact LeO.refl _|exact LeO.none _|refine LeO.ite ?_ ?_|refine LeO.bind ?_ (fun _=>?_))|exact ih0 _ _ _|exact LeO.none _|refine LeO.ite ?_ ?_|refine LeO.bind ?_ (fun _=>?_)
theorem laws_szPutS.mono : ∀ a0 a1 k,LeO (laws_szPutS.f k a0 a1) (laws_szPutS.f (k + 1) a0 a1):=by
 intro a0 a1 k
 have ih0:=laws_szPutS.mono_l k
 unfold laws_szPutS.f
 repeat' first|(with_reducible first|exact ih0 _ _ _|exact LeO.refl _|exact LeO.none _|refine LeO.ite ?_ ?_|refine LeO.bind ?_ (fun _=>?_))|exact ih0 _ _ _|exact LeO.none _|refine LeO.ite ?_ ?_|refine LeO.bind ?_ (fun _=>?_)
set_option maxHeartbeats 8000000 in
set_option maxRecDepth 100000 in
theorem laws_szPutS.calls (k : Nat) (A0 : Option Addr) (c0 : Nat) (l0 : List (S102)) (a1 : Int) (r : Int) (w : World) (hr0 : Kd.C k102 w A0 l0.length l0) (hc0 : l0.length ≤ c0) (h : laws_szPutS.f k l0 a1 = some r) :
  Calls Try.prog 29 #[.slice A0 l0.length c0,.int .i64 a1] w fun e w'=>e = .returned (.int .i64 r) ∧ Below w.heap.size w w':=by
 have hu102:=Try.underlying102
 have HR0:=qo.mk hr0
 have HC0:=qo.mk hc0
 clear hr0 hc0
 have HB:=qo.mk (Below.refl w.heap.size w)
 have H : (if (wrap64 (a1 - (l0.length : Int))) < 0 then (some (-1)) else (laws_szPutS.l0 k l0 (wrap64 (a1 - (l0.length : Int))) 0)) = some r:=h
 clear h
 by_cases c3 : (wrap64 (a1 - (l0.length : Int))) < 0
 ·rw [if_pos c3] at H
  have c3b0 : decide ((wrap64 (a1 - (l0.length : Int))) < 0) = true:=decide_eq_true c3
  clear c3
  obtain rfl:=Option.some.inj H
  go_enter Try.func29,Try.ntmps29
  go_wp2
  go_ret
  exact ⟨rt_,hx_⟩
 rw [if_neg c3] at H
 have c3b0 : decide ((wrap64 (a1 - (l0.length : Int))) < 0) = false:=decide_eq_false c3
 clear c3
 have H':=qo.mk H
 clear H
 go_enter Try.func29,Try.ntmps29
 go_wp2
 go_loopg [1,5] k (fun kq v1 v5 w'=>∃ (x1_1 : Int) (x5_1 : Int),v1 = .int .i64 x1_1 ∧ v5 = .int .i64 x5_1 ∧ qo (laws_szPutS.l0 kq l0 x1_1 x5_1 = some r) ∧ qo (kq ≤ k) ∧ qo (Below w.heap.size w w'))
 case atStart=>exact ⟨(wrap64 (a1 - (l0.length : Int))),(0),rs_,rs_,H',⟨Nat.le_refl _⟩,⟨hx_⟩⟩
 clear H'
 try clear c2
 try clear p2
 try clear c3
 try clear c3b0
 obtain ⟨x1_1,x5_1,rfl,rfl,HA,HK1,HB⟩:=hrel
 obtain _|k1:=gk
 ·exact absurd HA.out (by simp [laws_szPutS.l0])
 have H:=HA.out
 clear HA
 simp only [laws_szPutS.l0] at H
 by_cases c4 : x5_1 < (l0.length : Int)
 ·rw [if_pos c4] at H
  have c4b0 : decide (x5_1 < (l0.length : Int)) = true:=decide_eq_true c4
  clear c4
  by_cases c5 : 0 ≤ x5_1
  ·rw [if_pos c5] at H
   have c5b0 : decide (0 ≤ x5_1) = true:=decide_eq_true c5
   clear c5
   replace H:=Option.bind_eq_some_iff.mp H
   obtain ⟨t104,A60,H⟩:=H
   replace H : (if t104 < 0 then (some (-1)) else (laws_szPutS.l0 k1 l0 t104 (wrap64 (x5_1 + 1)))) = some r:=H
   have A6:=qo.mk A60
   clear A60
   by_cases c7 : t104 < 0
   ·rw [if_pos c7] at H
    have c7b0 : decide (t104 < 0) = true:=decide_eq_true c7
    clear c7
    obtain rfl:=Option.some.inj H
    have p103 : 0 ≤ (x5_1 : Int):=dt_
    have q103 : x5_1 < (l0.length : Int):=dt_
    obtain ⟨ad103,e103,hx103_0,hx103_1⟩:=at_T102 HR0.out x5_1 p103 q103
    cases e103
    replace hx103_0:=cb_ HB hx103_0
    replace hx103_1:=cb_ HB hx103_1
    replace p103:=eq_true p103
    replace q103:=eq_true q103
    go_wp2_with (first|((with_reducible refine gate_callee (f:=60) rfl ?_);refine goesL_ (some 23) rfl rfl Try.func60 (by kernel_rfl) rfl #[.agg #[.int .i64 ((rd_T102 l0 x5_1).f0),.string ((rd_T102 l0 x5_1).f1)],.int .i64 x1_1] rfl sm_ ?_;(with_reducible refine (laws_szPut.calls ((rd_T102 l0 x5_1).f0) ((rd_T102 l0 x5_1).f1) x1_1 t104 _ A6.out).mono ?_);rintro e w8 ⟨rfl,hb⟩;refine ⟨_,rfl,?_⟩;replace HB:=hs_ HB hb;(try clear hb);(try clear hb2);(try clear hk);(try clear hi)))
    go_ret
    exact ⟨rt_,hx_⟩
   rw [if_neg c7] at H
   have c7b0 : decide (t104 < 0) = false:=decide_eq_false c7
   clear c7
   have H':=qo.mk H
   clear H
   have p103 : 0 ≤ (x5_1 : Int):=dt_
   have q103 : x5_1 < (l0.length : Int):=dt_
   obtain ⟨ad103,e103,hx103_0,hx103_1⟩:=at_T102 HR0.out x5_1 p103 q103
   cases e103
   replace hx103_0:=cb_ HB hx103_0
   replace hx103_1:=cb_ HB hx103_1
   replace p103:=eq_true p103
   replace q103:=eq_true q103
   go_wp2_with (first|((with_reducible refine gate_callee (f:=60) rfl ?_);refine goesL_ (some 23) rfl rfl Try.func60 (by kernel_rfl) rfl #[.agg #[.int .i64 ((rd_T102 l0 x5_1).f0),.string ((rd_T102 l0 x5_1).f1)],.int .i64 x1_1] rfl sm_ ?_;(with_reducible refine (laws_szPut.calls ((rd_T102 l0 x5_1).f0) ((rd_T102 l0 x5_1).f1) x1_1 t104 _ A6.out).mono ?_);rintro e w9 ⟨rfl,hb⟩;refine ⟨_,rfl,?_⟩;replace HB:=hs_ HB hb;(try clear hb);(try clear hb2);(try clear hk);(try clear hi)))
   go_roundg k1
   case measure=>have:=HK1.out;omega
   case rel=>exact ⟨(t104),(wrap64 (x5_1 + 1)),rs_,rs_,H',⟨by have:=HK1.out;omega⟩,⟨hx_⟩⟩
  rw [if_neg c5] at H
  exact absurd H (by simp)
 rw [if_neg c4] at H
 have c4b0 : decide (x5_1 < (l0.length : Int)) = false:=decide_eq_false c4
 clear c4
 obtain rfl:=Option.some.inj H
 go_wp2
 go_ret
 exact ⟨rt_,hx_⟩

/-! ### laws_szDevice: function 5 -/
def laws_szDevice.f (k : Nat) (l0_0 : List ByteArray) (l0_1 : List (S102)) (a1 : Int) : Option (Int):=(laws_szStringS.f k l0_0 a1).bind fun t106=>(if t106 < 0 then (some (-1)) else ((laws_szPutS.f k l0_1 t106).bind fun t107=>(if t107 < 0 then (some (-1)) else (some t107))))
theorem laws_szDevice.mono : ∀ a0 a1 a2 k,LeO (laws_szDevice.f k a0 a1 a2) (laws_szDevice.f (k + 1) a0 a1 a2):=by
 intro a0 a1 a2 k
 unfold laws_szDevice.f
 repeat' first|(with_reducible first|exact laws_szPutS.mono _ _ _|exact laws_szStringS.mono _ _ _|exact LeO.refl _|exact LeO.none _|refine LeO.ite ?_ ?_|refine LeO.bind ?_ (fun _=>?_))|exact laws_szPutS.mono _ _ _|exact laws_szStringS.mono _ _ _|exact LeO.none _|refine LeO.ite ?_ ?_|refine LeO.bind ?_ (fun _=>?_)
set_option maxHeartbeats 8000000 in
set_option maxRecDepth 100000 in
theorem laws_szDevice.calls (k : Nat) (A0_0 : Option Addr) (c0_0 : Nat) (l0_0 : List ByteArray) (A0_1 : Option Addr) (c0_1 : Nat) (l0_1 : List (S102)) (a1 : Int) (r : Int) (w : World) (hr0_0 : Kd.C Kd.string w A0_0 l0_0.length l0_0) (hc0_0 : l0_0.length ≤ c0_0) (hr0_1 : Kd.C k102 w A0_1 l0_1.length l0_1) (hc0_1 : l0_1.length ≤ c0_1) (h : laws_szDevice.f k l0_0 l0_1 a1 = some r) :
  Calls Try.prog 5 #[.agg #[.slice A0_0 l0_0.length c0_0,.slice A0_1 l0_1.length c0_1],.int .i64 a1] w fun e w'=>e = .returned (.int .i64 r) ∧ Below w.heap.size w w':=by
 have hu25:=Try.underlying25
 have HR0_0:=qo.mk hr0_0
 have HC0_0:=qo.mk hc0_0
 clear hr0_0 hc0_0
 have HR0_1:=qo.mk hr0_1
 have HC0_1:=qo.mk hc0_1
 clear hr0_1 hc0_1
 have HB:=qo.mk (Below.refl w.heap.size w)
 have H : ((laws_szStringS.f k l0_0 a1).bind fun t106=>(if t106 < 0 then (some (-1)) else ((laws_szPutS.f k l0_1 t106).bind fun t107=>(if t107 < 0 then (some (-1)) else (some t107))))) = some r:=h
 clear h
 replace H:=Option.bind_eq_some_iff.mp H
 obtain ⟨t106,A30,H⟩:=H
 replace H : (if t106 < 0 then (some (-1)) else ((laws_szPutS.f k l0_1 t106).bind fun t107=>(if t107 < 0 then (some (-1)) else (some t107)))) = some r:=H
 have A3:=qo.mk A30
 clear A30
 by_cases c4 : t106 < 0
 ·rw [if_pos c4] at H
  have c4b0 : decide (t106 < 0) = true:=decide_eq_true c4
  clear c4
  obtain rfl:=Option.some.inj H
  go_enter Try.func5,Try.ntmps5
  go_wp2_with (first|((with_reducible refine gate_dst (N:=2) rfl ?_);refine box_event ?hg (N:=2) ?hd (cs:=#[.slice A0_0 l0_0.length c0_0,.slice A0_1 l0_1.length c0_1]) (t:=25) ?hr ?_;(case hd=>rfl);(case hg=>rfl);(case hr=>first|(go_simp;done)|(go_simp;rfl));intro gb105 hg w5 hbox hb;have BK105:=qo.mk (hbox);have GW105:=hl_ (w:=w) hg;have GE105:=hl_ (w:=w) hg;replace HB:=hs_ HB hb;clear hb hbox hg;obtain ⟨hcz6_0,hcz6_1,hfz6_0,hfz6_1⟩:=c2f_ BK105.out)|((with_reducible refine gate_callee (f:=28) rfl ?_);refine goesL_ (some 8) rfl rfl Try.func28 (by kernel_rfl) rfl #[.slice A0_0 l0_0.length c0_0,.int .i64 a1] rfl sm_ ?_;(with_reducible refine (laws_szStringS.calls k _ _ l0_0 a1 t106 _ ?side1 ?side2 A3.out).mono ?_);(case side1=>repeat (first|exact (Kd.C_below HR0_0.out HB.out)|(with_reducible refine Kd.C_alloc ?_ _)|(with_reducible refine Kd.C_drewN ?_ _)|(with_reducible refine Kd.C_drew ?_)));(case side2=>exact HC0_0.out);rintro e w' ⟨rfl,⟨nd,rfl⟩⟩;refine ⟨_,rfl,?_⟩))
  go_ret
  exact ⟨rt_,hx_⟩
 rw [if_neg c4] at H
 have c4b0 : decide (t106 < 0) = false:=decide_eq_false c4
 clear c4
 replace H:=Option.bind_eq_some_iff.mp H
 obtain ⟨t107,A70,H⟩:=H
 replace H : (if t107 < 0 then (some (-1)) else (some t107)) = some r:=H
 have A7:=qo.mk A70
 clear A70
 by_cases c8 : t107 < 0
 ·rw [if_pos c8] at H
  have c8b0 : decide (t107 < 0) = true:=decide_eq_true c8
  clear c8
  obtain rfl:=Option.some.inj H
  go_enter Try.func5,Try.ntmps5
  go_wp2_with (first|((with_reducible refine gate_dst (N:=2) rfl ?_);refine box_event ?hg (N:=2) ?hd (cs:=#[.slice A0_0 l0_0.length c0_0,.slice A0_1 l0_1.length c0_1]) (t:=25) ?hr ?_;(case hd=>rfl);(case hg=>rfl);(case hr=>first|(go_simp;done)|(go_simp;rfl));intro gb105 hg w9 hbox hb;have BK105:=qo.mk (hbox);have GW105:=hl_ (w:=w) hg;have GE105:=hl_ (w:=w) hg;replace HB:=hs_ HB hb;clear hb hbox hg;obtain ⟨hcz10_0,hcz10_1,hfz10_0,hfz10_1⟩:=c2f_ BK105.out)|((with_reducible refine gate_callee (f:=28) rfl ?_);refine goesL_ (some 8) rfl rfl Try.func28 (by kernel_rfl) rfl #[.slice A0_0 l0_0.length c0_0,.int .i64 a1] rfl sm_ ?_;(with_reducible refine (laws_szStringS.calls k _ _ l0_0 a1 t106 _ ?side1 ?side2 A3.out).mono ?_);(case side1=>repeat (first|exact (Kd.C_below HR0_0.out HB.out)|(with_reducible refine Kd.C_alloc ?_ _)|(with_reducible refine Kd.C_drewN ?_ _)|(with_reducible refine Kd.C_drew ?_)));(case side2=>exact HC0_0.out);rintro e w' ⟨rfl,⟨nd,rfl⟩⟩;refine ⟨_,rfl,?_⟩)|((with_reducible refine gate_callee (f:=29) rfl ?_);refine goesL_ (some 14) rfl rfl Try.func29 (by kernel_rfl) rfl #[.slice A0_1 l0_1.length c0_1,.int .i64 t106] rfl sm_ ?_;(with_reducible refine (laws_szPutS.calls k _ _ l0_1 t106 t107 _ ?side1 ?side2 A7.out).mono ?_);(case side1=>repeat (first|exact (Kd.C_below HR0_1.out hx_)|(with_reducible refine Kd.C_alloc ?_ _)|(with_reducible refine Kd.C_drewN ?_ _)|(with_reducible refine Kd.C_drew ?_)));(case side2=>exact HC0_1.out);rintro e w11 ⟨rfl,hb⟩;refine ⟨_,rfl,?_⟩;replace BK105:=bb_ BK105 hb;replace HB:=hs_ HB hb;(try clear hb);(try clear hb2);(try clear hk);(try clear hi)))
  go_ret
  exact ⟨rt_,hx_⟩
 rw [if_neg c8] at H
 have c8b0 : decide (t107 < 0) = false:=decide_eq_false c8
 clear c8
 obtain rfl:=Option.some.inj H
 go_enter Try.func5,Try.ntmps5
 go_wp2_with (first|((with_reducible refine gate_dst (N:=2) rfl ?_);refine box_event ?hg (N:=2) ?hd (cs:=#[.slice A0_0 l0_0.length c0_0,.slice A0_1 l0_1.length c0_1]) (t:=25) ?hr ?_;(case hd=>rfl);(case hg=>rfl);(case hr=>first|(go_simp;done)|(go_simp;rfl));intro gb105 hg w12 hbox hb;have BK105:=qo.mk (hbox);have GW105:=hl_ (w:=w) hg;have GE105:=hl_ (w:=w) hg;replace HB:=hs_ HB hb;clear hb hbox hg;obtain ⟨hcz13_0,hcz13_1,hfz13_0,hfz13_1⟩:=c2f_ BK105.out)|((with_reducible refine gate_callee (f:=28) rfl ?_);refine goesL_ (some 8) rfl rfl Try.func28 (by kernel_rfl) rfl #[.slice A0_0 l0_0.length c0_0,.int .i64 a1] rfl sm_ ?_;(with_reducible refine (laws_szStringS.calls k _ _ l0_0 a1 t106 _ ?side1 ?side2 A3.out).mono ?_);(case side1=>repeat (first|exact (Kd.C_below HR0_0.out HB.out)|(with_reducible refine Kd.C_alloc ?_ _)|(with_reducible refine Kd.C_drewN ?_ _)|(with_reducible refine Kd.C_drew ?_)));(case side2=>exact HC0_0.out);rintro e w' ⟨rfl,⟨nd,rfl⟩⟩;refine ⟨_,rfl,?_⟩)|((with_reducible refine gate_callee (f:=29) rfl ?_);refine goesL_ (some 14) rfl rfl Try.func29 (by kernel_rfl) rfl #[.slice A0_1 l0_1.length c0_1,.int .i64 t106] rfl sm_ ?_;(with_reducible refine (laws_szPutS.calls k _ _ l0_1 t106 t107 _ ?side1 ?side2 A7.out).mono ?_);(case side1=>repeat (first|exact (Kd.C_below HR0_1.out hx_)|(with_reducible refine Kd.C_alloc ?_ _)|(with_reducible refine Kd.C_drewN ?_ _)|(with_reducible refine Kd.C_drew ?_)));(case side2=>exact HC0_1.out);rintro e w14 ⟨rfl,hb⟩;refine ⟨_,rfl,?_⟩;replace BK105:=bb_ BK105 hb;replace HB:=hs_ HB hb;(try clear hb);(try clear hb2);(try clear hk);(try clear hi)))
 go_ret
 exact ⟨rt_,hx_⟩

/-! ### laws_szPair: function 30 -/
def laws_szPair.f (a0_0 : ByteArray) (a0_1 : ByteArray) (a1 : Int) : Option (Int):=if (wrap64 (a1 - (a0_0.size : Int))) < 0 then (some (-1)) else (if (wrap64 ((wrap64 (a1 - (a0_0.size : Int))) - (a0_1.size : Int))) < 0 then (some (-1)) else (some (wrap64 ((wrap64 (a1 - (a0_0.size : Int))) - (a0_1.size : Int)))))
set_option maxHeartbeats 8000000 in
set_option maxRecDepth 100000 in
theorem laws_szPair.calls (a0_0 : ByteArray) (a0_1 : ByteArray) (a1 : Int) (r : Int) (w : World) (h : laws_szPair.f a0_0 a0_1 a1 = some r) :
  Calls Try.prog 30 #[.agg #[.string a0_0,.string a0_1],.int .i64 a1] w fun e w'=>e = .returned (.int .i64 r) ∧ Below w.heap.size w w':=by
 have hu60:=Try.underlying60
 have HB:=qo.mk (Below.refl w.heap.size w)
 have H : (if (wrap64 (a1 - (a0_0.size : Int))) < 0 then (some (-1)) else (if (wrap64 ((wrap64 (a1 - (a0_0.size : Int))) - (a0_1.size : Int))) < 0 then (some (-1)) else (some (wrap64 ((wrap64 (a1 - (a0_0.size : Int))) - (a0_1.size : Int)))))) = some r:=h
 clear h
 by_cases c3 : (wrap64 (a1 - (a0_0.size : Int))) < 0
 ·rw [if_pos c3] at H
  have c3b0 : decide ((wrap64 (a1 - (a0_0.size : Int))) < 0) = true:=decide_eq_true c3
  clear c3
  obtain rfl:=Option.some.inj H
  go_enter Try.func30,Try.ntmps30
  go_wp2_with (first|((with_reducible refine gate_dst (N:=2) rfl ?_);refine box_event ?hg (N:=2) ?hd (cs:=#[.string a0_0,.string a0_1]) (t:=60) ?hr ?_;(case hd=>rfl);(case hg=>rfl);(case hr=>first|(go_simp;done)|(go_simp;rfl));intro gb108 hg w4 hbox hb;have BK108:=qo.mk (hbox);have GW108:=hl_ (w:=w) hg;have GE108:=hl_ (w:=w) hg;replace HB:=hs_ HB hb;clear hb hbox hg;obtain ⟨hcz5_0,hcz5_1,hfz5_0,hfz5_1⟩:=c2f_ BK108.out))
  go_ret
  exact ⟨rt_,hx_⟩
 rw [if_neg c3] at H
 have c3b0 : decide ((wrap64 (a1 - (a0_0.size : Int))) < 0) = false:=decide_eq_false c3
 clear c3
 by_cases c6 : (wrap64 ((wrap64 (a1 - (a0_0.size : Int))) - (a0_1.size : Int))) < 0
 ·rw [if_pos c6] at H
  have c6b0 : decide ((wrap64 ((wrap64 (a1 - (a0_0.size : Int))) - (a0_1.size : Int))) < 0) = true:=decide_eq_true c6
  clear c6
  obtain rfl:=Option.some.inj H
  go_enter Try.func30,Try.ntmps30
  go_wp2_with (first|((with_reducible refine gate_dst (N:=2) rfl ?_);refine box_event ?hg (N:=2) ?hd (cs:=#[.string a0_0,.string a0_1]) (t:=60) ?hr ?_;(case hd=>rfl);(case hg=>rfl);(case hr=>first|(go_simp;done)|(go_simp;rfl));intro gb108 hg w7 hbox hb;have BK108:=qo.mk (hbox);have GW108:=hl_ (w:=w) hg;have GE108:=hl_ (w:=w) hg;replace HB:=hs_ HB hb;clear hb hbox hg;obtain ⟨hcz8_0,hcz8_1,hfz8_0,hfz8_1⟩:=c2f_ BK108.out))
  go_ret
  exact ⟨rt_,hx_⟩
 rw [if_neg c6] at H
 have c6b0 : decide ((wrap64 ((wrap64 (a1 - (a0_0.size : Int))) - (a0_1.size : Int))) < 0) = false:=decide_eq_false c6
 clear c6
 obtain rfl:=Option.some.inj H
 go_enter Try.func30,Try.ntmps30
 go_wp2_with (first|((with_reducible refine gate_dst (N:=2) rfl ?_);refine box_event ?hg (N:=2) ?hd (cs:=#[.string a0_0,.string a0_1]) (t:=60) ?hr ?_;(case hd=>rfl);(case hg=>rfl);(case hr=>first|(go_simp;done)|(go_simp;rfl));intro gb108 hg w9 hbox hb;have BK108:=qo.mk (hbox);have GW108:=hl_ (w:=w) hg;have GE108:=hl_ (w:=w) hg;replace HB:=hs_ HB hb;clear hb hbox hg;obtain ⟨hcz10_0,hcz10_1,hfz10_0,hfz10_1⟩:=c2f_ BK108.out))
 go_ret
 exact ⟨rt_,hx_⟩

/-! ### laws_szPairS: function 6 -/
def laws_szPairS.l0 : Nat → List (S60) → Int → Int → Option (Int)
 | 0,_,_,_=>none
 | k + 1,x0,x1,x5=>if x5 < (x0.length : Int) then (if 0 ≤ x5 then ((laws_szPair.f ((rd_T60 x0 x5).f0) ((rd_T60 x0 x5).f1) x1).bind fun t110=>(if t110 < 0 then (some (-1)) else (laws_szPairS.l0 k x0 t110 (wrap64 (x5 + 1))))) else (none)) else (some x1)
def laws_szPairS.f (k : Nat) (l0 : List (S60)) (a1 : Int) : Option (Int):=if (wrap64 (a1 - (l0.length : Int))) < 0 then (some (-1)) else (laws_szPairS.l0 k l0 (wrap64 (a1 - (l0.length : Int))) 0)
theorem laws_szPairS.mono_l : ∀ k,(∀ y0 y1 y2,LeO (laws_szPairS.l0 k y0 y1 y2) (laws_szPairS.l0 (k + 1) y0 y1 y2))
 | 0=>fun _ _ _ r h=>by simp [laws_szPairS.l0] at h
 | k + 1=>by
  have ih0:=laws_szPairS.mono_l k
  intro y0 y1 y2
  unfold laws_szPairS.l0
  repeat' first|(with_reducible first|exact ih0 _ _ _|exact LeO.refl _|exact LeO.none _|refine LeO.ite ?_ ?_|refine LeO.bind ?_ (fun _=>?_))|exact ih0 _ _ _|exact LeO.none _|refine LeO.ite ?_ ?_|refine LeO.bind ?_ (fun _=>?_)
theorem laws_szPairS.mono : ∀ a0 a1 k,LeO (laws_szPairS.f k a0 a1) (laws_szPairS.f (k + 1) a0 a1):=by
 intro a0 a1 k
 have ih0:=laws_szPairS.mono_l k
 unfold laws_szPairS.f
 repeat' first|(with_reducible first|exact ih0 _ _ _|exact LeO.refl _|exact LeO.none _|refine LeO.ite ?_ ?_|refine LeO.bind ?_ (fun _=>?_))|exact ih0 _ _ _|exact LeO.none _|refine LeO.ite ?_ ?_|refine LeO.bind ?_ (fun _=>?_)
set_option maxHeartbeats 8000000 in
set_option maxRecDepth 100000 in
theorem laws_szPairS.calls (k : Nat) (A0 : Option Addr) (c0 : Nat) (l0 : List (S60)) (a1 : Int) (r : Int) (w : World) (hr0 : Kd.C k60 w A0 l0.length l0) (hc0 : l0.length ≤ c0) (h : laws_szPairS.f k l0 a1 = some r) :
  Calls Try.prog 6 #[.slice A0 l0.length c0,.int .i64 a1] w fun e w'=>e = .returned (.int .i64 r) ∧ Below w.heap.size w w':=by
 have hu60:=Try.underlying60
 have HR0:=qo.mk hr0
 have HC0:=qo.mk hc0
 clear hr0 hc0
 have HB:=qo.mk (Below.refl w.heap.size w)
 have H : (if (wrap64 (a1 - (l0.length : Int))) < 0 then (some (-1)) else (laws_szPairS.l0 k l0 (wrap64 (a1 - (l0.length : Int))) 0)) = some r:=h
 clear h
 by_cases c3 : (wrap64 (a1 - (l0.length : Int))) < 0
 ·rw [if_pos c3] at H
  have c3b0 : decide ((wrap64 (a1 - (l0.length : Int))) < 0) = true:=decide_eq_true c3
  clear c3
  obtain rfl:=Option.some.inj H
  go_enter Try.func6,Try.ntmps6
  go_wp2
  go_ret
  exact ⟨rt_,hx_⟩
 rw [if_neg c3] at H
 have c3b0 : decide ((wrap64 (a1 - (l0.length : Int))) < 0) = false:=decide_eq_false c3
 clear c3
 have H':=qo.mk H
 clear H
 go_enter Try.func6,Try.ntmps6
 go_wp2
 go_loopg [1,5] k (fun kq v1 v5 w'=>∃ (x1_1 : Int) (x5_1 : Int),v1 = .int .i64 x1_1 ∧ v5 = .int .i64 x5_1 ∧ qo (laws_szPairS.l0 kq l0 x1_1 x5_1 = some r) ∧ qo (kq ≤ k) ∧ qo (Below w.heap.size w w'))
 case atStart=>exact ⟨(wrap64 (a1 - (l0.length : Int))),(0),rs_,rs_,H',⟨Nat.le_refl _⟩,⟨hx_⟩⟩
 clear H'
 try clear p2
 try clear c3
 try clear c3b0
 obtain ⟨x1_1,x5_1,rfl,rfl,HA,HK1,HB⟩:=hrel
 obtain _|k1:=gk
 ·exact absurd HA.out (by simp [laws_szPairS.l0])
 have H:=HA.out
 clear HA
 simp only [laws_szPairS.l0] at H
 by_cases c4 : x5_1 < (l0.length : Int)
 ·rw [if_pos c4] at H
  have c4b0 : decide (x5_1 < (l0.length : Int)) = true:=decide_eq_true c4
  clear c4
  by_cases c5 : 0 ≤ x5_1
  ·rw [if_pos c5] at H
   have c5b0 : decide (0 ≤ x5_1) = true:=decide_eq_true c5
   clear c5
   replace H:=Option.bind_eq_some_iff.mp H
   obtain ⟨t110,A60,H⟩:=H
   replace H : (if t110 < 0 then (some (-1)) else (laws_szPairS.l0 k1 l0 t110 (wrap64 (x5_1 + 1)))) = some r:=H
   have A6:=qo.mk A60
   clear A60
   by_cases c7 : t110 < 0
   ·rw [if_pos c7] at H
    have c7b0 : decide (t110 < 0) = true:=decide_eq_true c7
    clear c7
    obtain rfl:=Option.some.inj H
    have p109 : 0 ≤ (x5_1 : Int):=dt_
    have q109 : x5_1 < (l0.length : Int):=dt_
    obtain ⟨ad109,e109,hx109_0,hx109_1⟩:=at_T60 HR0.out x5_1 p109 q109
    cases e109
    replace hx109_0:=cb_ HB hx109_0
    replace hx109_1:=cb_ HB hx109_1
    replace p109:=eq_true p109
    replace q109:=eq_true q109
    go_wp2_with (first|((with_reducible refine gate_callee (f:=30) rfl ?_);refine goesL_ (some 23) rfl rfl Try.func30 (by kernel_rfl) rfl #[.agg #[.string ((rd_T60 l0 x5_1).f0),.string ((rd_T60 l0 x5_1).f1)],.int .i64 x1_1] rfl sm_ ?_;(with_reducible refine (laws_szPair.calls ((rd_T60 l0 x5_1).f0) ((rd_T60 l0 x5_1).f1) x1_1 t110 _ A6.out).mono ?_);rintro e w8 ⟨rfl,hb⟩;refine ⟨_,rfl,?_⟩;replace HB:=hs_ HB hb;(try clear hb);(try clear hb2);(try clear hk);(try clear hi)))
    go_ret
    exact ⟨rt_,hx_⟩
   rw [if_neg c7] at H
   have c7b0 : decide (t110 < 0) = false:=decide_eq_false c7
   clear c7
   have H':=qo.mk H
   clear H
   have p109 : 0 ≤ (x5_1 : Int):=dt_
   have q109 : x5_1 < (l0.length : Int):=dt_
   obtain ⟨ad109,e109,hx109_0,hx109_1⟩:=at_T60 HR0.out x5_1 p109 q109
   cases e109
   replace hx109_0:=cb_ HB hx109_0
   replace hx109_1:=cb_ HB hx109_1
   replace p109:=eq_true p109
   replace q109:=eq_true q109
   go_wp2_with (first|((with_reducible refine gate_callee (f:=30) rfl ?_);refine goesL_ (some 23) rfl rfl Try.func30 (by kernel_rfl) rfl #[.agg #[.string ((rd_T60 l0 x5_1).f0),.string ((rd_T60 l0 x5_1).f1)],.int .i64 x1_1] rfl sm_ ?_;(with_reducible refine (laws_szPair.calls ((rd_T60 l0 x5_1).f0) ((rd_T60 l0 x5_1).f1) x1_1 t110 _ A6.out).mono ?_);rintro e w9 ⟨rfl,hb⟩;refine ⟨_,rfl,?_⟩;replace HB:=hs_ HB hb;(try clear hb);(try clear hb2);(try clear hk);(try clear hi)))
   go_roundg k1
   case measure=>have:=HK1.out;omega
   case rel=>exact ⟨(t110),(wrap64 (x5_1 + 1)),rs_,rs_,H',⟨by have:=HK1.out;omega⟩,⟨hx_⟩⟩
  rw [if_neg c5] at H
  exact absurd H (by simp)
 rw [if_neg c4] at H
 have c4b0 : decide (x5_1 < (l0.length : Int)) = false:=decide_eq_false c4
 clear c4
 obtain rfl:=Option.some.inj H
 go_wp2
 go_ret
 exact ⟨rt_,hx_⟩

/-! ### spec_l01In: function 33 -/
def spec_l01In.f (a0 : Int) (a1 : Int) (a2 : Int) : Option (Bool):=if a0 ≥ a1 then (some (decide (a0 ≤ a2))) else (some false)
set_option maxHeartbeats 8000000 in
set_option maxRecDepth 100000 in
theorem spec_l01In.calls (a0 : Int) (a1 : Int) (a2 : Int) (r : Bool) (w : World) (h : spec_l01In.f a0 a1 a2 = some r) :
  Calls Try.prog 33 #[.int .i64 a0,.int .i64 a1,.int .i64 a2] w fun e w'=>e = .returned (.bool r) ∧ Drawn0 w w':=by
 have H : (if a0 ≥ a1 then (some (decide (a0 ≤ a2))) else (some false)) = some r:=h
 clear h
 by_cases c4 : a0 ≥ a1
 ·rw [if_pos c4] at H
  have c4b0 : decide (a1 ≤ a0) = true:=decide_eq_true c4
  clear c4
  obtain rfl:=Option.some.inj H
  go_enter Try.func33,Try.ntmps33
  go_wp2
  go_ret
  exact ⟨by first|rfl|(simp;done)|(simp [*];done),by repeat (first|exact Drawn0.refl _|apply Drawn0.step)⟩
 rw [if_neg c4] at H
 have c4b0 : decide (a1 ≤ a0) = false:=decide_eq_false c4
 clear c4
 obtain rfl:=Option.some.inj H
 go_enter Try.func33,Try.ntmps33
 go_wp2
 go_ret
 exact ⟨by first|rfl|(simp;done)|(simp [*];done),by repeat (first|exact Drawn0.refl _|apply Drawn0.step)⟩

/-! ### spec_l03Put: function 61 -/
def spec_l03Put.f (l0_0 : List ByteArray) (l0_1 : List (S96)) (a1_0 : Int) (a1_1 : ByteArray) : Option (Bool):=(spec_l01In.f a1_0 0 (wrap64 ((l0_0.length : Int) - 1))).bind fun t113=>(if t113 = true then (some (decide ((a1_1.size : Int) ≤ 64))) else (some false))
set_option maxHeartbeats 8000000 in
set_option maxRecDepth 100000 in
theorem spec_l03Put.calls (A0_0 : Option Addr) (c0_0 : Nat) (l0_0 : List ByteArray) (A0_1 : Option Addr) (c0_1 : Nat) (l0_1 : List (S96)) (a1_0 : Int) (a1_1 : ByteArray) (r : Bool) (w : World) (hr0_0 : Kd.C Kd.string w A0_0 l0_0.length l0_0) (hc0_0 : l0_0.length ≤ c0_0) (hr0_1 : Kd.C k96 w A0_1 l0_1.length l0_1) (hc0_1 : l0_1.length ≤ c0_1) (h : spec_l03Put.f l0_0 l0_1 a1_0 a1_1 = some r) :
  Calls Try.prog 61 #[.agg #[.slice A0_0 l0_0.length c0_0,.slice A0_1 l0_1.length c0_1],.agg #[.int .i64 a1_0,.string a1_1]] w fun e w'=>e = .returned (.bool r) ∧ Below w.heap.size w w':=by
 have hu32:=Try.underlying32
 have hu96:=Try.underlying96
 have HR0_0:=qo.mk hr0_0
 have HC0_0:=qo.mk hc0_0
 clear hr0_0 hc0_0
 have HR0_1:=qo.mk hr0_1
 have HC0_1:=qo.mk hc0_1
 clear hr0_1 hc0_1
 have HB:=qo.mk (Below.refl w.heap.size w)
 have H : ((spec_l01In.f a1_0 0 (wrap64 ((l0_0.length : Int) - 1))).bind fun t113=>(if t113 = true then (some (decide ((a1_1.size : Int) ≤ 64))) else (some false))) = some r:=h
 clear h
 replace H:=Option.bind_eq_some_iff.mp H
 obtain ⟨t113,A30,H⟩:=H
 replace H : (if t113 = true then (some (decide ((a1_1.size : Int) ≤ 64))) else (some false)) = some r:=H
 have A3:=qo.mk A30
 clear A30
 by_cases c4 : t113 = true
 ·subst c4
  have H1 : (some (decide ((a1_1.size : Int) ≤ 64))) = some r:=by rw [if_pos rfl] at H;exact H
  clear H
  have H:=H1
  clear H1
  obtain rfl:=Option.some.inj H
  go_enter Try.func61,Try.ntmps61
  go_wp2_with (first|((with_reducible refine gate_dst (N:=2) rfl ?_);(try (refine gate_guard (by rfl) ?_;dsimp only));refine box_event ?hg (N:=2) ?hd (cs:=#[.slice A0_0 l0_0.length c0_0,.slice A0_1 l0_1.length c0_1]) (t:=32) ?hr ?_;(case hd=>rfl);(case hg=>rfl);(case hr=>first|(go_simp;done)|(go_simp;rfl));intro gb111 hg w5 hbox hb;have BK111:=qo.mk (hbox);have GW111:=hl_ (w:=w) hg;have GE111:=hl_ (w:=w) hg;replace HB:=hs_ HB hb;clear hb hbox hg)|((with_reducible refine gate_dst (N:=3) rfl ?_);(try (refine gate_guard (by rfl) ?_;dsimp only));refine box_event ?hg (N:=3) ?hd (cs:=#[.int .i64 a1_0,.string a1_1]) (t:=96) ?hr ?_;(case hd=>rfl);(case hg=>rfl);(case hr=>first|(go_simp;done)|(go_simp;rfl));intro gb112 hg w6 hbox hb;have BK112:=qo.mk (hbox);have GW112:=hl_ (w:=w) hg;have GE112:=hl_ (w:=w) hg;have NB111_112:=qo.mk ((by rw [hg];exact nl_ BK111 : gb111 ≠ gb112));have NB112_111:=qo.mk ((by rw [hg];exact ng_ BK111 : gb112 ≠ gb111));replace BK111:=bb_ BK111 hb;replace HB:=hs_ HB hb;clear hb hbox hg;have hnb7:=NB112_111.out;have hnc7:=NB111_112.out;obtain ⟨hcz8_0,hcz8_1,hfz8_0,hfz8_1⟩:=c2f_ BK112.out;obtain ⟨hcz9_0,hcz9_1,hfz9_0,hfz9_1⟩:=c2f_ BK111.out)|((with_reducible refine gate_callee (f:=33) rfl ?_);refine goesL_ (some 11) rfl rfl Try.func33 (by kernel_rfl) rfl #[.int .i64 a1_0,.int .i64 0,.int .i64 (wrap64 ((l0_0.length : Int) - 1))] rfl sm_ ?_;(with_reducible refine (spec_l01In.calls a1_0 0 (wrap64 ((l0_0.length : Int) - 1)) true _ A3.out).mono ?_);rintro e w' ⟨rfl,⟨nd,rfl⟩⟩;refine ⟨_,rfl,?_⟩))
  go_ret
  exact ⟨rt_,hx_⟩
 replace c4:=Bool.eq_false_iff.mpr c4
 subst c4
 have H1 : (some false) = some r:=by rw [if_neg (show ¬ (false = true) by decide)] at H;exact H
 clear H
 have H:=H1
 clear H1
 obtain rfl:=Option.some.inj H
 go_enter Try.func61,Try.ntmps61
 go_wp2_with (first|((with_reducible refine gate_dst (N:=2) rfl ?_);(try (refine gate_guard (by rfl) ?_;dsimp only));refine box_event ?hg (N:=2) ?hd (cs:=#[.slice A0_0 l0_0.length c0_0,.slice A0_1 l0_1.length c0_1]) (t:=32) ?hr ?_;(case hd=>rfl);(case hg=>rfl);(case hr=>first|(go_simp;done)|(go_simp;rfl));intro gb111 hg w10 hbox hb;have BK111:=qo.mk (hbox);have GW111:=hl_ (w:=w) hg;have GE111:=hl_ (w:=w) hg;replace HB:=hs_ HB hb;clear hb hbox hg)|((with_reducible refine gate_dst (N:=3) rfl ?_);(try (refine gate_guard (by rfl) ?_;dsimp only));refine box_event ?hg (N:=3) ?hd (cs:=#[.int .i64 a1_0,.string a1_1]) (t:=96) ?hr ?_;(case hd=>rfl);(case hg=>rfl);(case hr=>first|(go_simp;done)|(go_simp;rfl));intro gb112 hg w11 hbox hb;have BK112:=qo.mk (hbox);have GW112:=hl_ (w:=w) hg;have GE112:=hl_ (w:=w) hg;have NB111_112:=qo.mk ((by rw [hg];exact nl_ BK111 : gb111 ≠ gb112));have NB112_111:=qo.mk ((by rw [hg];exact ng_ BK111 : gb112 ≠ gb111));replace BK111:=bb_ BK111 hb;replace HB:=hs_ HB hb;clear hb hbox hg;have hnb12:=NB112_111.out;have hnc12:=NB111_112.out;obtain ⟨hcz13_0,hcz13_1,hfz13_0,hfz13_1⟩:=c2f_ BK112.out;obtain ⟨hcz14_0,hcz14_1,hfz14_0,hfz14_1⟩:=c2f_ BK111.out)|((with_reducible refine gate_callee (f:=33) rfl ?_);refine goesL_ (some 11) rfl rfl Try.func33 (by kernel_rfl) rfl #[.int .i64 a1_0,.int .i64 0,.int .i64 (wrap64 ((l0_0.length : Int) - 1))] rfl sm_ ?_;(with_reducible refine (spec_l01In.calls a1_0 0 (wrap64 ((l0_0.length : Int) - 1)) false _ A3.out).mono ?_);rintro e w' ⟨rfl,⟨nd,rfl⟩⟩;refine ⟨_,rfl,?_⟩))
 go_ret
 exact ⟨rt_,hx_⟩

end Go.Proofs.Ytcnoccefdejphaa.QFnExactPlaceTree
