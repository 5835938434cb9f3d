/- Lean functions for the Go functions that the law FnExactPlaceTree reaches, and that each Go function comes to just its Lean function's answer; by a program of this session. -/
import Derived.Test.YtcnoccefdejphaaZFnExactPlaceTreex0
namespace Go.Proofs.Ytcnoccefdejphaa.QFnExactPlaceTree
open Go.RowKit Go.Proofs.YtcnoccefdejphaaW.PrintWords Go.Proofs.YtcnoccefdejphaaW.PrintLast Go.Proofs.YtcnoccefdejphaaW.PrintMore
attribute [local go_sem] max2_int min2_int max_two min_two max_three min_three max_four min_four   -- for this text's walks alone
set_option linter.unusedVariables false
set_option linter.unusedSimpArgs false

/-! ### laws_eqStringS: function 46 -/
def laws_eqStringS.l0 : Nat → List ByteArray → List ByteArray → Int → Option (Bool)
 | 0,_,_,_=>none
 | k + 1,x0,x1,x5=>if x5 < (x0.length : Int) then (if 0 ≤ x5 then (if x5 < (x1.length : Int) then (if (rdOf ByteArray.empty x0 x5).toList = (rdOf ByteArray.empty x1 x5).toList then (laws_eqStringS.l0 k x0 x1 (wrap64 (x5 + 1))) else (some false)) else (none)) else (none)) else (some true)
def laws_eqStringS.f (k : Nat) (l0 : List ByteArray) (l1 : List ByteArray) : Option (Bool):=if (l0.length : Int) = (l1.length : Int) then (laws_eqStringS.l0 k l0 l1 0) else (some false)
theorem laws_eqStringS.mono_l : ∀ k,(∀ y0 y1 y2,LeO (laws_eqStringS.l0 k y0 y1 y2) (laws_eqStringS.l0 (k + 1) y0 y1 y2))
 | 0=>fun _ _ _ r h=>by simp [laws_eqStringS.l0] at h
 | k + 1=>by
  have ih0:=laws_eqStringS.mono_l k
  intro y0 y1 y2
  unfold laws_eqStringS.l0
  repeat' first|(with_reducible first|exact ih0 _ _ _|exact LeO.refl _|exact LeO.none _|refine LeO.ite ?_ ?_|refine LeO.bind ?_ (fun _=>?_))|exact ih0 _ _ _|exact LeO.none _|refine LeO.ite ?_ ?_|refine LeO.bind ?_ (fun _=>?_)
theorem laws_eqStringS.mono : ∀ a0 a1 k,LeO (laws_eqStringS.f k a0 a1) (laws_eqStringS.f (k + 1) a0 a1):=by
 intro a0 a1 k
 have ih0:=laws_eqStringS.mono_l k
 unfold laws_eqStringS.f
 repeat' first|(with_reducible first|exact ih0 _ _ _|exact LeO.refl _|exact LeO.none _|refine LeO.ite ?_ ?_|refine LeO.bind ?_ (fun _=>?_))|exact ih0 _ _ _|exact LeO.none _|refine LeO.ite ?_ ?_|refine LeO.bind ?_ (fun _=>?_)
set_option maxHeartbeats 8000000 in
set_option maxRecDepth 100000 in
theorem laws_eqStringS.calls (k : Nat) (A0 : Option Addr) (c0 : Nat) (l0 : List ByteArray) (A1 : Option Addr) (c1 : Nat) (l1 : List ByteArray) (r : Bool) (w : World) (hr0 : Kd.C Kd.string w A0 l0.length l0) (hc0 : l0.length ≤ c0) (hr1 : Kd.C Kd.string w A1 l1.length l1) (hc1 : l1.length ≤ c1) (h : laws_eqStringS.f k l0 l1 = some r) :
  Calls Try.prog 46 #[.slice A0 l0.length c0,.slice A1 l1.length c1] w fun e w'=>e = .returned (.bool r) ∧ Drawn0 w w':=by
 have HR0:=qo.mk hr0
 have HC0:=qo.mk hc0
 clear hr0 hc0
 have HR1:=qo.mk hr1
 have HC1:=qo.mk hc1
 clear hr1 hc1
 have H : (if (l0.length : Int) = (l1.length : Int) then (laws_eqStringS.l0 k l0 l1 0) else (some false)) = some r:=h
 clear h
 by_cases c3 : (l0.length : Int) = (l1.length : Int)
 ·rw [if_pos c3] at H
  have c3b0 : ((l0.length : Int) == (l1.length : Int)) = true:=beq_iff_eq.mpr c3
  have c3b1 : ((l0.length : Int) != (l1.length : Int)) = false:=bne_eq_false_iff_eq.mpr c3
  have c3b2 : (l0.length == l1.length) = true:=by first|simpa using c3|(simp at c3 ⊢;omega)
  clear c3
  have H':=qo.mk H
  clear H
  go_enter Try.func46,Try.ntmps46
  go_wp2
  repeat (go_quiet (fail);try go_wp2)
  go_loopg [5] k (fun kq v5 w'=>∃ (x5_1 : Int),v5 = .int .i64 x5_1 ∧ qo (laws_eqStringS.l0 kq l0 l1 x5_1 = some r) ∧ qo (kq ≤ k) ∧ Drawn0 w w')
  case atStart=>exact ⟨(0),rs_,H',⟨Nat.le_refl _⟩,by repeat (first|exact Drawn0.refl _|apply Drawn0.step)⟩
  clear H'
  try clear c1
  try clear p2
  try clear c3
  try clear c3b0
  try clear c3b1
  try clear c3b2
  obtain ⟨x5_1,rfl,HA,HK1,⟨m1,rfl⟩⟩:=hrel
  obtain _|k1:=gk
  ·exact absurd HA.out (by simp [laws_eqStringS.l0])
  have H:=HA.out
  clear HA
  simp only [laws_eqStringS.l0] at H
  by_cases c4 : x5_1 < (l0.length : Int)
  ·rw [if_pos c4] at H
   have c4b0 : decide (x5_1 < (l0.length : Int)) = true:=decide_eq_true c4
   clear c4
   by_cases c5 : 0 ≤ x5_1
   ·rw [if_pos c5] at H
    have c5b0 : decide (0 ≤ x5_1) = true:=decide_eq_true c5
    clear c5
    by_cases c6 : x5_1 < (l1.length : Int)
    ·rw [if_pos c6] at H
     have c6b0 : decide (x5_1 < (l1.length : Int)) = true:=decide_eq_true c6
     clear c6
     by_cases c7 : (rdOf ByteArray.empty l0 x5_1).toList = (rdOf ByteArray.empty l1 x5_1).toList
     ·rw [if_pos c7] at H
      have c7b0 : ((rdOf ByteArray.empty l0 x5_1).toList == (rdOf ByteArray.empty l1 x5_1).toList) = true:=beq_iff_eq.mpr c7
      have c7b1 : ((rdOf ByteArray.empty l0 x5_1).toList != (rdOf ByteArray.empty l1 x5_1).toList) = false:=bne_eq_false_iff_eq.mpr c7
      clear c7
      have H':=qo.mk H
      clear H
      have p518 : 0 ≤ (x5_1 : Int):=dt_
      have q518 : x5_1 < (l0.length : Int):=dt_
      obtain ⟨ad518,e518,hx518_0⟩:=Kd.at_string HR0.out x5_1 p518 q518
      cases e518
      replace p518:=eq_true p518
      replace q518:=eq_true q518
      have p519 : 0 ≤ (x5_1 : Int):=dt_
      have q519 : x5_1 < (l1.length : Int):=dt_
      obtain ⟨ad519,e519,hx519_0⟩:=Kd.at_string HR1.out x5_1 p519 q519
      cases e519
      replace p519:=eq_true p519
      replace q519:=eq_true q519
      go_wp2
      repeat (go_quiet (fail);try go_wp2)
      go_roundg k1
      case measure=>have:=HK1.out;omega
      case rel=>exact ⟨(wrap64 (x5_1 + 1)),rs_,H',⟨by have:=HK1.out;omega⟩,by repeat (first|exact Drawn0.refl _|apply Drawn0.step)⟩
     rw [if_neg c7] at H
     have c7b0 : ((rdOf ByteArray.empty l0 x5_1).toList == (rdOf ByteArray.empty l1 x5_1).toList) = false:=beq_eq_false_iff_ne.mpr c7
     have c7b1 : ((rdOf ByteArray.empty l0 x5_1).toList != (rdOf ByteArray.empty l1 x5_1).toList) = true:=bne_iff_ne.mpr c7
     obtain rfl:=Option.some.inj H
     have p518 : 0 ≤ (x5_1 : Int):=dt_
     have q518 : x5_1 < (l0.length : Int):=dt_
     obtain ⟨ad518,e518,hx518_0⟩:=Kd.at_string HR0.out x5_1 p518 q518
     cases e518
     replace p518:=eq_true p518
     replace q518:=eq_true q518
     have p519 : 0 ≤ (x5_1 : Int):=dt_
     have q519 : x5_1 < (l1.length : Int):=dt_
     obtain ⟨ad519,e519,hx519_0⟩:=Kd.at_string HR1.out x5_1 p519 q519
     cases e519
     replace p519:=eq_true p519
     replace q519:=eq_true q519
     go_wp2
     repeat (go_quiet (fail);try go_wp2)
     go_ret
     exact ⟨by first|rfl|(simp;done)|(simp [*];done),by repeat (first|exact Drawn0.refl _|apply Drawn0.step)⟩
    rw [if_neg c6] at H
    exact absurd H (by simp)
   rw [if_neg c5] at H
   exact absurd H (by simp)
  rw [if_neg c4] at H
  have c4b0 : decide (x5_1 < (l0.length : Int)) = false:=decide_eq_false c4
  clear c4
  obtain rfl:=Option.some.inj H
  go_wp2
  repeat (go_quiet (fail);try go_wp2)
  go_ret
  exact ⟨by first|rfl|(simp;done)|(simp [*];done),by repeat (first|exact Drawn0.refl _|apply Drawn0.step)⟩
 rw [if_neg c3] at H
 have c3b0 : ((l0.length : Int) == (l1.length : Int)) = false:=beq_eq_false_iff_ne.mpr c3
 have c3b1 : ((l0.length : Int) != (l1.length : Int)) = true:=bne_iff_ne.mpr c3
 have c3b2 : (l0.length == l1.length) = false:=by first|simpa using c3|(simp at c3 ⊢;omega)
 obtain rfl:=Option.some.inj H
 go_enter Try.func46,Try.ntmps46
 go_wp2
 repeat (go_quiet (fail);try go_wp2)
 go_ret
 exact ⟨by first|rfl|(simp;done)|(simp [*];done),by repeat (first|exact Drawn0.refl _|apply Drawn0.step)⟩

/-! ### laws_eqPut: function 75 -/
def laws_eqPut.f (a0_0 : Int) (a0_1 : ByteArray) (a1_0 : Int) (a1_1 : ByteArray) : Option (Bool):=if a0_0 = a1_0 then (if a0_1.toList = a1_1.toList then (some true) else (some false)) else (some false)
set_option maxHeartbeats 8000000 in
set_option maxRecDepth 100000 in
theorem laws_eqPut.calls (a0_0 : Int) (a0_1 : ByteArray) (a1_0 : Int) (a1_1 : ByteArray) (r : Bool) (w : World) (h : laws_eqPut.f a0_0 a0_1 a1_0 a1_1 = some r) :
  Calls Try.prog 75 #[.agg #[.int .i64 a0_0,.string a0_1],.agg #[.int .i64 a1_0,.string a1_1]] w fun e w'=>e = .returned (.bool r) ∧ Below w.heap.size w w':=by
 have hu96:=Try.underlying96
 have HB:=qo.mk (Below.refl w.heap.size w)
 have H : (if a0_0 = a1_0 then (if a0_1.toList = a1_1.toList then (some true) else (some false)) else (some false)) = some r:=h
 clear h
 by_cases c3 : a0_0 = a1_0
 ·rw [if_pos c3] at H
  have c3b0 : (a0_0 == a1_0) = true:=beq_iff_eq.mpr c3
  have c3b1 : (a0_0 != a1_0) = false:=bne_eq_false_iff_eq.mpr c3
  clear c3
  by_cases c4 : a0_1.toList = a1_1.toList
  ·rw [if_pos c4] at H
   have c4b0 : (a0_1.toList == a1_1.toList) = true:=beq_iff_eq.mpr c4
   have c4b1 : (a0_1.toList != a1_1.toList) = false:=bne_eq_false_iff_eq.mpr c4
   clear c4
   obtain rfl:=Option.some.inj H
   go_enter Try.func75,Try.ntmps75
   go_wp2_with (first|((with_reducible refine gate_dst (N:=2) rfl ?_);refine box_event ?hg (N:=2) ?hd (cs:=#[.int .i64 a0_0,.string a0_1]) (t:=96) ?hr ?_;(case hd=>rfl);(case hg=>rfl);(case hr=>first|(go_simp;done)|(go_simp;rfl));intro gb520 hg w5 hbox hb;have BK520:=qo.mk (hbox);have GW520:=hl_ (w:=w) hg;have GE520:=hl_ (w:=w) hg;replace HB:=hs_ HB hb;clear hb hbox hg)|((with_reducible refine gate_dst (N:=3) rfl ?_);refine box_event ?hg (N:=3) ?hd (cs:=#[.int .i64 a1_0,.string a1_1]) (t:=96) ?hr ?_;(case hd=>rfl);(case hg=>rfl);(case hr=>first|(go_simp;done)|(go_simp;rfl));intro gb521 hg w6 hbox hb;have BK521:=qo.mk (hbox);have GW521:=hl_ (w:=w) hg;have GE521:=hl_ (w:=w) hg;have NB520_521:=qo.mk ((by rw [hg];exact nl_ BK520 : gb520 ≠ gb521));have NB521_520:=qo.mk ((by rw [hg];exact ng_ BK520 : gb521 ≠ gb520));replace BK520:=bb_ BK520 hb;replace HB:=hs_ HB hb;clear hb hbox hg;have hnb7:=NB520_521.out;have hnc7:=NB521_520.out;obtain ⟨hcz8_0,hcz8_1,hfz8_0,hfz8_1⟩:=c2f_ BK520.out;obtain ⟨hcz9_0,hcz9_1,hfz9_0,hfz9_1⟩:=c2f_ BK521.out))
   go_ret
   exact ⟨rt_,hx_⟩
  rw [if_neg c4] at H
  have c4b0 : (a0_1.toList == a1_1.toList) = false:=beq_eq_false_iff_ne.mpr c4
  have c4b1 : (a0_1.toList != a1_1.toList) = true:=bne_iff_ne.mpr c4
  obtain rfl:=Option.some.inj H
  go_enter Try.func75,Try.ntmps75
  go_wp2_with (first|((with_reducible refine gate_dst (N:=2) rfl ?_);refine box_event ?hg (N:=2) ?hd (cs:=#[.int .i64 a0_0,.string a0_1]) (t:=96) ?hr ?_;(case hd=>rfl);(case hg=>rfl);(case hr=>first|(go_simp;done)|(go_simp;rfl));intro gb520 hg w10 hbox hb;have BK520:=qo.mk (hbox);have GW520:=hl_ (w:=w) hg;have GE520:=hl_ (w:=w) hg;replace HB:=hs_ HB hb;clear hb hbox hg)|((with_reducible refine gate_dst (N:=3) rfl ?_);refine box_event ?hg (N:=3) ?hd (cs:=#[.int .i64 a1_0,.string a1_1]) (t:=96) ?hr ?_;(case hd=>rfl);(case hg=>rfl);(case hr=>first|(go_simp;done)|(go_simp;rfl));intro gb521 hg w11 hbox hb;have BK521:=qo.mk (hbox);have GW521:=hl_ (w:=w) hg;have GE521:=hl_ (w:=w) hg;have NB520_521:=qo.mk ((by rw [hg];exact nl_ BK520 : gb520 ≠ gb521));have NB521_520:=qo.mk ((by rw [hg];exact ng_ BK520 : gb521 ≠ gb520));replace BK520:=bb_ BK520 hb;replace HB:=hs_ HB hb;clear hb hbox hg;have hnb12:=NB520_521.out;have hnc12:=NB521_520.out;obtain ⟨hcz13_0,hcz13_1,hfz13_0,hfz13_1⟩:=c2f_ BK520.out;obtain ⟨hcz14_0,hcz14_1,hfz14_0,hfz14_1⟩:=c2f_ BK521.out))
  go_ret
  exact ⟨rt_,hx_⟩
 rw [if_neg c3] at H
 have c3b0 : (a0_0 == a1_0) = false:=beq_eq_false_iff_ne.mpr c3
 have c3b1 : (a0_0 != a1_0) = true:=bne_iff_ne.mpr c3
 obtain rfl:=Option.some.inj H
 go_enter Try.func75,Try.ntmps75
 go_wp2_with (first|((with_reducible refine gate_dst (N:=2) rfl ?_);refine box_event ?hg (N:=2) ?hd (cs:=#[.int .i64 a0_0,.string a0_1]) (t:=96) ?hr ?_;(case hd=>rfl);(case hg=>rfl);(case hr=>first|(go_simp;done)|(go_simp;rfl));intro gb520 hg w15 hbox hb;have BK520:=qo.mk (hbox);have GW520:=hl_ (w:=w) hg;have GE520:=hl_ (w:=w) hg;replace HB:=hs_ HB hb;clear hb hbox hg)|((with_reducible refine gate_dst (N:=3) rfl ?_);refine box_event ?hg (N:=3) ?hd (cs:=#[.int .i64 a1_0,.string a1_1]) (t:=96) ?hr ?_;(case hd=>rfl);(case hg=>rfl);(case hr=>first|(go_simp;done)|(go_simp;rfl));intro gb521 hg w16 hbox hb;have BK521:=qo.mk (hbox);have GW521:=hl_ (w:=w) hg;have GE521:=hl_ (w:=w) hg;have NB520_521:=qo.mk ((by rw [hg];exact nl_ BK520 : gb520 ≠ gb521));have NB521_520:=qo.mk ((by rw [hg];exact ng_ BK520 : gb521 ≠ gb520));replace BK520:=bb_ BK520 hb;replace HB:=hs_ HB hb;clear hb hbox hg;have hnb17:=NB520_521.out;have hnc17:=NB521_520.out;obtain ⟨hcz18_0,hcz18_1,hfz18_0,hfz18_1⟩:=c2f_ BK520.out;obtain ⟨hcz19_0,hcz19_1,hfz19_0,hfz19_1⟩:=c2f_ BK521.out))
 go_ret
 exact ⟨rt_,hx_⟩

/-! ### laws_eqPutS: function 47 -/
def laws_eqPutS.l0 : Nat → List (S96) → List (S96) → Int → Option (Bool)
 | 0,_,_,_=>none
 | k + 1,x0,x1,x5=>if x5 < (x0.length : Int) then (if 0 ≤ x5 then (if x5 < (x1.length : Int) then ((laws_eqPut.f ((rd_T96 x0 x5).f0) ((rd_T96 x0 x5).f1) ((rd_T96 x1 x5).f0) ((rd_T96 x1 x5).f1)).bind fun t524=>(if t524 = true then (laws_eqPutS.l0 k x0 x1 (wrap64 (x5 + 1))) else (some false))) else (none)) else (none)) else (some true)
def laws_eqPutS.f (k : Nat) (l0 : List (S96)) (l1 : List (S96)) : Option (Bool):=if (l0.length : Int) = (l1.length : Int) then (laws_eqPutS.l0 k l0 l1 0) else (some false)
theorem laws_eqPutS.mono_l : ∀ k,(∀ y0 y1 y2,LeO (laws_eqPutS.l0 k y0 y1 y2) (laws_eqPutS.l0 (k + 1) y0 y1 y2))
 | 0=>fun _ _ _ r h=>by simp [laws_eqPutS.l0] at h
 | k + 1=>by
  have ih0:=laws_eqPutS.mono_l k
  intro y0 y1 y2
  unfold laws_eqPutS.l0
  repeat' first|(with_reducible first|exact ih0 _ _ _|exact LeO.refl _|exact LeO.none _|refine LeO.ite ?_ ?_|refine LeO.bind ?_ (fun _=>?_))|exact ih0 _ _ _|exact LeO.none _|refine LeO.ite ?_ ?_|refine LeO.bind ?_ (fun _=>?_)
theorem laws_eqPutS.mono : ∀ a0 a1 k,LeO (laws_eqPutS.f k a0 a1) (laws_eqPutS.f (k + 1) a0 a1):=by
 intro a0 a1 k
 have ih0:=laws_eqPutS.mono_l k
 unfold laws_eqPutS.f
 repeat' first|(with_reducible first|exact ih0 _ _ _|exact LeO.refl _|exact LeO.none _|refine LeO.ite ?_ ?_|refine LeO.bind ?_ (fun _=>?_))|exact ih0 _ _ _|exact LeO.none _|refine LeO.ite ?_ ?_|refine LeO.bind ?_ (fun _=>?_)
def laws_eqPutS.T6 : Bool × List (List Nat × List Nat):=(true,[([],[]),([],[]),([0,1],[0,1]),([2],[2]),([],[]),([],[]),([4,5],[4,5]),([6],[6]),([3,7],[3,7]),([8],[8])])
def laws_eqPutS.B6 : List Nat:=[0,0,3,7,0,0,48,112,255,511]
theorem laws_eqPutS.tab6 : rtab .any (opsOf Try.f47 6) = laws_eqPutS.T6:=by kernel_rfl
theorem laws_eqPutS.bits6 : waitsOk laws_eqPutS.T6.2 laws_eqPutS.B6 = true:=by kernel_rfl
set_option maxHeartbeats 8000000 in
set_option maxRecDepth 100000 in
theorem laws_eqPutS.calls (k : Nat) (A0 : Option Addr) (c0 : Nat) (l0 : List (S96)) (A1 : Option Addr) (c1 : Nat) (l1 : List (S96)) (r : Bool) (w : World) (hr0 : Kd.C k96 w A0 l0.length l0) (hc0 : l0.length ≤ c0) (hr1 : Kd.C k96 w A1 l1.length l1) (hc1 : l1.length ≤ c1) (h : laws_eqPutS.f k l0 l1 = some r) :
  Calls Try.prog 47 #[.slice A0 l0.length c0,.slice A1 l1.length c1] w fun e w'=>e = .returned (.bool r) ∧ Below w.heap.size w w':=by
 have hu96:=Try.underlying96
 have HR0:=qo.mk hr0
 have HC0:=qo.mk hc0
 clear hr0 hc0
 have HR1:=qo.mk hr1
 have HC1:=qo.mk hc1
 clear hr1 hc1
 have HB:=qo.mk (Below.refl w.heap.size w)
 have H : (if (l0.length : Int) = (l1.length : Int) then (laws_eqPutS.l0 k l0 l1 0) else (some false)) = some r:=h
 clear h
 by_cases c3 : (l0.length : Int) = (l1.length : Int)
 ·rw [if_pos c3] at H
  have c3b0 : ((l0.length : Int) == (l1.length : Int)) = true:=beq_iff_eq.mpr c3
  have c3b1 : ((l0.length : Int) != (l1.length : Int)) = false:=bne_eq_false_iff_eq.mpr c3
  have c3b2 : (l0.length == l1.length) = true:=by first|simpa using c3|(simp at c3 ⊢;omega)
  clear c3
  have H':=qo.mk H
  clear H
  go_enter Try.func47,Try.ntmps47
  go_wp2
  go_loopg [5] k (fun kq v5 w'=>∃ (x5_1 : Int),v5 = .int .i64 x5_1 ∧ qo (laws_eqPutS.l0 kq l0 l1 x5_1 = some r) ∧ qo (kq ≤ k) ∧ qo (Below w.heap.size w w'))
  case atStart=>exact ⟨(0),rs_,H',⟨Nat.le_refl _⟩,⟨hx_⟩⟩
  clear H'
  try clear c1
  try clear p2
  try clear c3
  try clear c3b0
  try clear c3b1
  try clear c3b2
  obtain ⟨x5_1,rfl,HA,HK1,HB⟩:=hrel
  obtain _|k1:=gk
  ·exact absurd HA.out (by simp [laws_eqPutS.l0])
  have H:=HA.out
  clear HA
  simp only [laws_eqPutS.l0] at H
  by_cases c4 : x5_1 < (l0.length : Int)
  ·rw [if_pos c4] at H
   have c4b0 : decide (x5_1 < (l0.length : Int)) = true:=decide_eq_true c4
   clear c4
   by_cases c5 : 0 ≤ x5_1
   ·rw [if_pos c5] at H
    have c5b0 : decide (0 ≤ x5_1) = true:=decide_eq_true c5
    clear c5
    by_cases c6 : x5_1 < (l1.length : Int)
    ·rw [if_pos c6] at H
     have c6b0 : decide (x5_1 < (l1.length : Int)) = true:=decide_eq_true c6
     clear c6
     replace H:=Option.bind_eq_some_iff.mp H
     obtain ⟨t524,A70,H⟩:=H
     replace H : (if t524 = true then (laws_eqPutS.l0 k1 l0 l1 (wrap64 (x5_1 + 1))) else (some false)) = some r:=H
     have A7:=qo.mk A70
     clear A70
     by_cases c8 : t524 = true
     ·subst c8
      have H1 : (laws_eqPutS.l0 k1 l0 l1 (wrap64 (x5_1 + 1))) = some r:=by rw [if_pos rfl] at H;exact H
      clear H
      have H:=H1
      clear H1
      have H':=qo.mk H
      clear H
      try go_wp2
      replace HB:=qo.mk (qd HB.out)
      have p522 : 0 ≤ (x5_1 : Int):=dt_
      have q522 : x5_1 < (l0.length : Int):=dt_
      obtain ⟨ad522,e522,hx522_0,hx522_1⟩:=at_T96 HR0.out x5_1 p522 q522
      have hw522_1:=hx522_1
      have hw522_0:=hx522_0
      cases e522
      replace hx522_0:=cb_ HB hx522_0
      replace hx522_1:=cb_ HB hx522_1
      replace p522:=eq_true p522
      replace q522:=eq_true q522
      have p523 : 0 ≤ (x5_1 : Int):=dt_
      have q523 : x5_1 < (l1.length : Int):=dt_
      obtain ⟨ad523,e523,hx523_0,hx523_1⟩:=at_T96 HR1.out x5_1 p523 q523
      have hw523_1:=hx523_1
      have hw523_0:=hx523_0
      cases e523
      replace hx523_0:=cb_ HB hx523_0
      replace hx523_1:=cb_ HB hx523_1
      replace p523:=eq_true p523
      replace q523:=eq_true q523
      refine start_ (n:=10) (S:=fun w'=>w'.cell? (ad522.add ((x5_1).toNat * 2)) = some (.int .i64 ((rd_T96 l0 x5_1).f0)) ∧ w'.cell? ⟨(ad522.add ((x5_1).toNat * 2)).block,(ad522.add ((x5_1).toNat * 2)).off + 1,none⟩ = some (.string ((rd_T96 l0 x5_1).f1)) ∧ w'.cell? (ad523.add ((x5_1).toNat * 2)) = some (.int .i64 ((rd_T96 l1 x5_1).f0)) ∧ w'.cell? ⟨(ad523.add ((x5_1).toNat * 2)).block,(ad523.add ((x5_1).toNat * 2)).off + 1,none⟩ = some (.string ((rd_T96 l1 x5_1).f1))) (ds:=[]) (Array.replicate 10 false) (by kernel_rfl) rfl rfl ⟨(cb_ HB hw522_0:),(cb_ HB hw522_1:),(cb_ HB hw523_0:),(cb_ HB hw523_1:)⟩ (fun hHeld=>?_);refine with_tabW laws_eqPutS.tab6 laws_eqPutS.bits6 (fun HT_ HW_=>?_)
      generalize wr.drew = w9 at HB hx522_0 hx522_1 hx523_0 hx523_1 hHeld ⊢
      refine pt_ 0 17 (bz_ 10 1) ?_
      refine pt_ 1 18 (bz_ 10 3) ?_
      refine pt_ 2 19 (bz_ 10 7) ?_
      refine pt_ 4 21 (bz_ 10 23) ?_
      refine pt_ 5 22 (bz_ 10 55) ?_
      refine pt_ 6 23 (bz_ 10 119) ?_
      refine tt_ 3 20 (bz_ 10 127) hHeld (hy:=Or.inl ⟨by rfl,by rintro w' ⟨s0,s1,s2,s3⟩;go_simp;with_reducible rfl⟩) (h:=?_)
      refine tt_ 7 24 (bz_ 10 255) hHeld (hy:=Or.inl ⟨by rfl,by rintro w' ⟨s0,s1,s2,s3⟩;go_simp;with_reducible rfl⟩) (h:=?_)
      refine one_ (i:=8) (N:=some 25) (bz_ 10 511) rfl rfl (one_of HT_.out (by kernel_rfl)) (by decide) (fun K hK=>?_)
      refine goes_ Try.func75 (by kernel_rfl) rfl #[.agg #[.int .i64 ((rd_T96 l0 x5_1).f0),.string ((rd_T96 l0 x5_1).f1)],.agg #[.int .i64 ((rd_T96 l1 x5_1).f0),.string ((rd_T96 l1 x5_1).f1)]] (by rfl) rfl rfl sm_ ?_
      with_reducible refine (laws_eqPut.calls ((rd_T96 l0 x5_1).f0) ((rd_T96 l0 x5_1).f1) ((rd_T96 l1 x5_1).f0) ((rd_T96 l1 x5_1).f1) true _ A7.out).mono ?_
      rintro e w10 ⟨rfl,hb⟩
      refine ⟨_,rfl,?_⟩
      replace HB:=hs_ HB hb
      (try clear hb)
      (try clear hb2)
      (try clear hk)
      (try clear hi)
      refine hK.out _ _ ⟨(cb_ HB hw522_0:),(cb_ HB hw522_1:),(cb_ HB hw523_0:),(cb_ HB hw523_1:)⟩ (fun hHeld=>?_)
      clear hK K
      refine norm_ (a':=?_) ?_ ?_
      rotate_left
      ·show Act.put _ (some 25) _ = _
       simp only [Act.put,List.setIfInBounds_toArray,List.set_cons_zero,List.set_cons_succ,i64_w,i32_w]
       rfl
      refine pt_ 9 26 (bz_ 10 1023) ?_
      refine done_ (done_of HT_.out (by kernel_rfl)) ?_
      try go_wp2
      go_roundg k1
      case measure=>have:=HK1.out;omega
      case rel=>exact ⟨(wrap64 (x5_1 + 1)),rs_,H',⟨by have:=HK1.out;omega⟩,⟨hx_⟩⟩
     replace c8:=Bool.eq_false_iff.mpr c8
     subst c8
     have H1 : (some false) = some r:=by rw [if_neg (show ¬ (false = true) by decide)] at H;exact H
     clear H
     have H:=H1
     clear H1
     obtain rfl:=Option.some.inj H
     try go_wp2
     replace HB:=qo.mk (qd HB.out)
     have p522 : 0 ≤ (x5_1 : Int):=dt_
     have q522 : x5_1 < (l0.length : Int):=dt_
     obtain ⟨ad522,e522,hx522_0,hx522_1⟩:=at_T96 HR0.out x5_1 p522 q522
     have hw522_1:=hx522_1
     have hw522_0:=hx522_0
     cases e522
     replace hx522_0:=cb_ HB hx522_0
     replace hx522_1:=cb_ HB hx522_1
     replace p522:=eq_true p522
     replace q522:=eq_true q522
     have p523 : 0 ≤ (x5_1 : Int):=dt_
     have q523 : x5_1 < (l1.length : Int):=dt_
     obtain ⟨ad523,e523,hx523_0,hx523_1⟩:=at_T96 HR1.out x5_1 p523 q523
     have hw523_1:=hx523_1
     have hw523_0:=hx523_0
     cases e523
     replace hx523_0:=cb_ HB hx523_0
     replace hx523_1:=cb_ HB hx523_1
     replace p523:=eq_true p523
     replace q523:=eq_true q523
     refine start_ (n:=10) (S:=fun w'=>w'.cell? (ad522.add ((x5_1).toNat * 2)) = some (.int .i64 ((rd_T96 l0 x5_1).f0)) ∧ w'.cell? ⟨(ad522.add ((x5_1).toNat * 2)).block,(ad522.add ((x5_1).toNat * 2)).off + 1,none⟩ = some (.string ((rd_T96 l0 x5_1).f1)) ∧ w'.cell? (ad523.add ((x5_1).toNat * 2)) = some (.int .i64 ((rd_T96 l1 x5_1).f0)) ∧ w'.cell? ⟨(ad523.add ((x5_1).toNat * 2)).block,(ad523.add ((x5_1).toNat * 2)).off + 1,none⟩ = some (.string ((rd_T96 l1 x5_1).f1))) (ds:=[]) (Array.replicate 10 false) (by kernel_rfl) rfl rfl ⟨(cb_ HB hw522_0:),(cb_ HB hw522_1:),(cb_ HB hw523_0:),(cb_ HB hw523_1:)⟩ (fun hHeld=>?_);refine with_tabW laws_eqPutS.tab6 laws_eqPutS.bits6 (fun HT_ HW_=>?_)
     generalize wr.drew = w11 at HB hx522_0 hx522_1 hx523_0 hx523_1 hHeld ⊢
     refine pt_ 0 17 (bz_ 10 1) ?_
     refine pt_ 1 18 (bz_ 10 3) ?_
     refine pt_ 2 19 (bz_ 10 7) ?_
     refine pt_ 4 21 (bz_ 10 23) ?_
     refine pt_ 5 22 (bz_ 10 55) ?_
     refine pt_ 6 23 (bz_ 10 119) ?_
     refine tt_ 3 20 (bz_ 10 127) hHeld (hy:=Or.inl ⟨by rfl,by rintro w' ⟨s0,s1,s2,s3⟩;go_simp;with_reducible rfl⟩) (h:=?_)
     refine tt_ 7 24 (bz_ 10 255) hHeld (hy:=Or.inl ⟨by rfl,by rintro w' ⟨s0,s1,s2,s3⟩;go_simp;with_reducible rfl⟩) (h:=?_)
     refine one_ (i:=8) (N:=some 25) (bz_ 10 511) rfl rfl (one_of HT_.out (by kernel_rfl)) (by decide) (fun K hK=>?_)
     refine goes_ Try.func75 (by kernel_rfl) rfl #[.agg #[.int .i64 ((rd_T96 l0 x5_1).f0),.string ((rd_T96 l0 x5_1).f1)],.agg #[.int .i64 ((rd_T96 l1 x5_1).f0),.string ((rd_T96 l1 x5_1).f1)]] (by rfl) rfl rfl sm_ ?_
     with_reducible refine (laws_eqPut.calls ((rd_T96 l0 x5_1).f0) ((rd_T96 l0 x5_1).f1) ((rd_T96 l1 x5_1).f0) ((rd_T96 l1 x5_1).f1) false _ A7.out).mono ?_
     rintro e w12 ⟨rfl,hb⟩
     refine ⟨_,rfl,?_⟩
     replace HB:=hs_ HB hb
     (try clear hb)
     (try clear hb2)
     (try clear hk)
     (try clear hi)
     refine hK.out _ _ ⟨(cb_ HB hw522_0:),(cb_ HB hw522_1:),(cb_ HB hw523_0:),(cb_ HB hw523_1:)⟩ (fun hHeld=>?_)
     clear hK K
     refine norm_ (a':=?_) ?_ ?_
     rotate_left
     ·show Act.put _ (some 25) _ = _
      simp only [Act.put,List.setIfInBounds_toArray,List.set_cons_zero,List.set_cons_succ,i64_w,i32_w]
      rfl
     refine pt_ 9 26 (bz_ 10 1023) ?_
     refine done_ (done_of HT_.out (by kernel_rfl)) ?_
     try go_wp2
     go_ret
     exact ⟨rt_,hx_⟩
    rw [if_neg c6] at H
    exact absurd H (by simp)
   rw [if_neg c5] at H
   exact absurd H (by simp)
  rw [if_neg c4] at H
  have c4b0 : decide (x5_1 < (l0.length : Int)) = false:=decide_eq_false c4
  clear c4
  obtain rfl:=Option.some.inj H
  go_wp2
  go_ret
  exact ⟨rt_,hx_⟩
 rw [if_neg c3] at H
 have c3b0 : ((l0.length : Int) == (l1.length : Int)) = false:=beq_eq_false_iff_ne.mpr c3
 have c3b1 : ((l0.length : Int) != (l1.length : Int)) = true:=bne_iff_ne.mpr c3
 have c3b2 : (l0.length == l1.length) = false:=by first|simpa using c3|(simp at c3 ⊢;omega)
 obtain rfl:=Option.some.inj H
 go_enter Try.func47,Try.ntmps47
 go_wp2
 go_ret
 exact ⟨rt_,hx_⟩

/-! ### laws_eqDevice: function 12 -/
def laws_eqDevice.f (k : Nat) (l0_0 : List ByteArray) (l0_1 : List (S96)) (l1_0 : List ByteArray) (l1_1 : List (S96)) : Option (Bool):=(laws_eqStringS.f k l0_0 l1_0).bind fun t527=>(if t527 = true then ((laws_eqPutS.f k l0_1 l1_1).bind fun t528=>(if t528 = true then (some true) else (some false))) else (some false))
theorem laws_eqDevice.mono : ∀ a0 a1 a2 a3 k,LeO (laws_eqDevice.f k a0 a1 a2 a3) (laws_eqDevice.f (k + 1) a0 a1 a2 a3):=by
 intro a0 a1 a2 a3 k
 unfold laws_eqDevice.f
 repeat' first|(with_reducible first|exact laws_eqPutS.mono _ _ _|exact laws_eqStringS.mono _ _ _|exact LeO.refl _|exact LeO.none _|refine LeO.ite ?_ ?_|refine LeO.bind ?_ (fun _=>?_))|exact laws_eqPutS.mono _ _ _|exact laws_eqStringS.mono _ _ _|exact LeO.none _|refine LeO.ite ?_ ?_|refine LeO.bind ?_ (fun _=>?_)
set_option maxHeartbeats 8000000 in
set_option maxRecDepth 100000 in
theorem laws_eqDevice.calls (k : Nat) (A0_0 : Option Addr) (c0_0 : Nat) (l0_0 : List ByteArray) (A0_1 : Option Addr) (c0_1 : Nat) (l0_1 : List (S96)) (A1_0 : Option Addr) (c1_0 : Nat) (l1_0 : List ByteArray) (A1_1 : Option Addr) (c1_1 : Nat) (l1_1 : List (S96)) (r : Bool) (w : World) (hr0_0 : Kd.C Kd.string w A0_0 l0_0.length l0_0) (hc0_0 : l0_0.length ≤ c0_0) (hr0_1 : Kd.C k96 w A0_1 l0_1.length l0_1) (hc0_1 : l0_1.length ≤ c0_1) (hr1_0 : Kd.C Kd.string w A1_0 l1_0.length l1_0) (hc1_0 : l1_0.length ≤ c1_0) (hr1_1 : Kd.C k96 w A1_1 l1_1.length l1_1) (hc1_1 : l1_1.length ≤ c1_1) (h : laws_eqDevice.f k l0_0 l0_1 l1_0 l1_1 = some r) :
  Calls Try.prog 12 #[.agg #[.slice A0_0 l0_0.length c0_0,.slice A0_1 l0_1.length c0_1],.agg #[.slice A1_0 l1_0.length c1_0,.slice A1_1 l1_1.length c1_1]] w fun e w'=>e = .returned (.bool r) ∧ Below w.heap.size w w':=by
 have hu32:=Try.underlying32
 have HR0_0:=qo.mk hr0_0
 have HC0_0:=qo.mk hc0_0
 clear hr0_0 hc0_0
 have HR0_1:=qo.mk hr0_1
 have HC0_1:=qo.mk hc0_1
 clear hr0_1 hc0_1
 have HR1_0:=qo.mk hr1_0
 have HC1_0:=qo.mk hc1_0
 clear hr1_0 hc1_0
 have HR1_1:=qo.mk hr1_1
 have HC1_1:=qo.mk hc1_1
 clear hr1_1 hc1_1
 have HB:=qo.mk (Below.refl w.heap.size w)
 have H : ((laws_eqStringS.f k l0_0 l1_0).bind fun t527=>(if t527 = true then ((laws_eqPutS.f k l0_1 l1_1).bind fun t528=>(if t528 = true then (some true) else (some false))) else (some false))) = some r:=h
 clear h
 replace H:=Option.bind_eq_some_iff.mp H
 obtain ⟨t527,A30,H⟩:=H
 replace H : (if t527 = true then ((laws_eqPutS.f k l0_1 l1_1).bind fun t528=>(if t528 = true then (some true) else (some false))) else (some false)) = some r:=H
 have A3:=qo.mk A30
 clear A30
 by_cases c4 : t527 = true
 ·subst c4
  have H1 : ((laws_eqPutS.f k l0_1 l1_1).bind fun t528=>(if t528 = true then (some true) else (some false))) = some r:=by rw [if_pos rfl] at H;exact H
  clear H
  have H:=H1
  clear H1
  replace H:=Option.bind_eq_some_iff.mp H
  obtain ⟨t528,A50,H⟩:=H
  replace H : (if t528 = true then (some true) else (some false)) = some r:=H
  have A5:=qo.mk A50
  clear A50
  by_cases c6 : t528 = true
  ·subst c6
   have H1 : (some true) = some r:=by rw [if_pos rfl] at H;exact H
   clear H
   have H:=H1
   clear H1
   obtain rfl:=Option.some.inj H
   go_enter Try.func12,Try.ntmps12
   go_wp2_with (first|((with_reducible refine gate_dst (N:=2) rfl ?_);refine box_event ?hg (N:=2) ?hd (cs:=#[.slice A0_0 l0_0.length c0_0,.slice A0_1 l0_1.length c0_1]) (t:=32) ?hr ?_;(case hd=>rfl);(case hg=>rfl);(case hr=>first|(go_simp;done)|(go_simp;rfl));intro gb525 hg w7 hbox hb;have BK525:=qo.mk (hbox);have GW525:=hl_ (w:=w) hg;have GE525:=hl_ (w:=w) hg;replace HB:=hs_ HB hb;clear hb hbox hg)|((with_reducible refine gate_dst (N:=3) rfl ?_);refine box_event ?hg (N:=3) ?hd (cs:=#[.slice A1_0 l1_0.length c1_0,.slice A1_1 l1_1.length c1_1]) (t:=32) ?hr ?_;(case hd=>rfl);(case hg=>rfl);(case hr=>first|(go_simp;done)|(go_simp;rfl));intro gb526 hg w8 hbox hb;have BK526:=qo.mk (hbox);have GW526:=hl_ (w:=w) hg;have GE526:=hl_ (w:=w) hg;have NB525_526:=qo.mk ((by rw [hg];exact nl_ BK525 : gb525 ≠ gb526));have NB526_525:=qo.mk ((by rw [hg];exact ng_ BK525 : gb526 ≠ gb525));replace BK525:=bb_ BK525 hb;replace HB:=hs_ HB hb;clear hb hbox hg;have hnb9:=NB525_526.out;have hnc9:=NB526_525.out;obtain ⟨hcz10_0,hcz10_1,hfz10_0,hfz10_1⟩:=c2f_ BK525.out;obtain ⟨hcz11_0,hcz11_1,hfz11_0,hfz11_1⟩:=c2f_ BK526.out)|((with_reducible refine gate_callee (f:=46) rfl ?_);refine goesL_ (some 9) rfl rfl Try.func46 (by kernel_rfl) rfl #[.slice A0_0 l0_0.length c0_0,.slice A1_0 l1_0.length c1_0] rfl sm_ ?_;(with_reducible refine (laws_eqStringS.calls k _ _ l0_0 _ _ l1_0 true _ ?side1 ?side2 ?side3 ?side4 A3.out).mono ?_);(case side1=>repeat (first|exact (Kd.C_below HR0_0.out HB.out)|(with_reducible refine Kd.C_alloc ?_ _)|(with_reducible refine Kd.C_drewN ?_ _)|(with_reducible refine Kd.C_drew ?_)));(case side2=>exact HC0_0.out);(case side3=>repeat (first|exact (Kd.C_below HR1_0.out HB.out)|(with_reducible refine Kd.C_alloc ?_ _)|(with_reducible refine Kd.C_drewN ?_ _)|(with_reducible refine Kd.C_drew ?_)));(case side4=>exact HC1_0.out);rintro e w' ⟨rfl,⟨nd,rfl⟩⟩;refine ⟨_,rfl,?_⟩)|((with_reducible refine gate_callee (f:=47) rfl ?_);refine goesL_ (some 15) rfl rfl Try.func47 (by kernel_rfl) rfl #[.slice A0_1 l0_1.length c0_1,.slice A1_1 l1_1.length c1_1] rfl sm_ ?_;(with_reducible refine (laws_eqPutS.calls k _ _ l0_1 _ _ l1_1 true _ ?side1 ?side2 ?side3 ?side4 A5.out).mono ?_);(case side1=>repeat (first|exact (Kd.C_below HR0_1.out hx_)|(with_reducible refine Kd.C_alloc ?_ _)|(with_reducible refine Kd.C_drewN ?_ _)|(with_reducible refine Kd.C_drew ?_)));(case side2=>exact HC0_1.out);(case side3=>repeat (first|exact (Kd.C_below HR1_1.out hx_)|(with_reducible refine Kd.C_alloc ?_ _)|(with_reducible refine Kd.C_drewN ?_ _)|(with_reducible refine Kd.C_drew ?_)));(case side4=>exact HC1_1.out);rintro e w12 ⟨rfl,hb⟩;refine ⟨_,rfl,?_⟩;replace BK525:=bb_ BK525 hb;replace BK526:=bb_ BK526 hb;replace HB:=hs_ HB hb;(try clear hb);(try clear hb2);(try clear hk);(try clear hi)))
   go_ret
   exact ⟨rt_,hx_⟩
  replace c6:=Bool.eq_false_iff.mpr c6
  subst c6
  have H1 : (some false) = some r:=by rw [if_neg (show ¬ (false = true) by decide)] at H;exact H
  clear H
  have H:=H1
  clear H1
  obtain rfl:=Option.some.inj H
  go_enter Try.func12,Try.ntmps12
  go_wp2_with (first|((with_reducible refine gate_dst (N:=2) rfl ?_);refine box_event ?hg (N:=2) ?hd (cs:=#[.slice A0_0 l0_0.length c0_0,.slice A0_1 l0_1.length c0_1]) (t:=32) ?hr ?_;(case hd=>rfl);(case hg=>rfl);(case hr=>first|(go_simp;done)|(go_simp;rfl));intro gb525 hg w13 hbox hb;have BK525:=qo.mk (hbox);have GW525:=hl_ (w:=w) hg;have GE525:=hl_ (w:=w) hg;replace HB:=hs_ HB hb;clear hb hbox hg)|((with_reducible refine gate_dst (N:=3) rfl ?_);refine box_event ?hg (N:=3) ?hd (cs:=#[.slice A1_0 l1_0.length c1_0,.slice A1_1 l1_1.length c1_1]) (t:=32) ?hr ?_;(case hd=>rfl);(case hg=>rfl);(case hr=>first|(go_simp;done)|(go_simp;rfl));intro gb526 hg w14 hbox hb;have BK526:=qo.mk (hbox);have GW526:=hl_ (w:=w) hg;have GE526:=hl_ (w:=w) hg;have NB525_526:=qo.mk ((by rw [hg];exact nl_ BK525 : gb525 ≠ gb526));have NB526_525:=qo.mk ((by rw [hg];exact ng_ BK525 : gb526 ≠ gb525));replace BK525:=bb_ BK525 hb;replace HB:=hs_ HB hb;clear hb hbox hg;have hnb15:=NB525_526.out;have hnc15:=NB526_525.out;obtain ⟨hcz16_0,hcz16_1,hfz16_0,hfz16_1⟩:=c2f_ BK525.out;obtain ⟨hcz17_0,hcz17_1,hfz17_0,hfz17_1⟩:=c2f_ BK526.out)|((with_reducible refine gate_callee (f:=46) rfl ?_);refine goesL_ (some 9) rfl rfl Try.func46 (by kernel_rfl) rfl #[.slice A0_0 l0_0.length c0_0,.slice A1_0 l1_0.length c1_0] rfl sm_ ?_;(with_reducible refine (laws_eqStringS.calls k _ _ l0_0 _ _ l1_0 true _ ?side1 ?side2 ?side3 ?side4 A3.out).mono ?_);(case side1=>repeat (first|exact (Kd.C_below HR0_0.out HB.out)|(with_reducible refine Kd.C_alloc ?_ _)|(with_reducible refine Kd.C_drewN ?_ _)|(with_reducible refine Kd.C_drew ?_)));(case side2=>exact HC0_0.out);(case side3=>repeat (first|exact (Kd.C_below HR1_0.out HB.out)|(with_reducible refine Kd.C_alloc ?_ _)|(with_reducible refine Kd.C_drewN ?_ _)|(with_reducible refine Kd.C_drew ?_)));(case side4=>exact HC1_0.out);rintro e w' ⟨rfl,⟨nd,rfl⟩⟩;refine ⟨_,rfl,?_⟩)|((with_reducible refine gate_callee (f:=47) rfl ?_);refine goesL_ (some 15) rfl rfl Try.func47 (by kernel_rfl) rfl #[.slice A0_1 l0_1.length c0_1,.slice A1_1 l1_1.length c1_1] rfl sm_ ?_;(with_reducible refine (laws_eqPutS.calls k _ _ l0_1 _ _ l1_1 false _ ?side1 ?side2 ?side3 ?side4 A5.out).mono ?_);(case side1=>repeat (first|exact (Kd.C_below HR0_1.out hx_)|(with_reducible refine Kd.C_alloc ?_ _)|(with_reducible refine Kd.C_drewN ?_ _)|(with_reducible refine Kd.C_drew ?_)));(case side2=>exact HC0_1.out);(case side3=>repeat (first|exact (Kd.C_below HR1_1.out hx_)|(with_reducible refine Kd.C_alloc ?_ _)|(with_reducible refine Kd.C_drewN ?_ _)|(with_reducible refine Kd.C_drew ?_)));(case side4=>exact HC1_1.out);rintro e w18 ⟨rfl,hb⟩;refine ⟨_,rfl,?_⟩;replace BK525:=bb_ BK525 hb;replace BK526:=bb_ BK526 hb;replace HB:=hs_ HB hb;(try clear hb);(try clear hb2);(try clear hk);(try clear hi)))
  go_ret
  exact ⟨rt_,hx_⟩
 replace c4:=Bool.eq_false_iff.mpr c4
 subst c4
 have H1 : (some false) = some r:=by rw [if_neg (show ¬ (false = true) by decide)] at H;exact H
 clear H
 have H:=H1
 clear H1
 obtain rfl:=Option.some.inj H
 go_enter Try.func12,Try.ntmps12
 go_wp2_with (first|((with_reducible refine gate_dst (N:=2) rfl ?_);refine box_event ?hg (N:=2) ?hd (cs:=#[.slice A0_0 l0_0.length c0_0,.slice A0_1 l0_1.length c0_1]) (t:=32) ?hr ?_;(case hd=>rfl);(case hg=>rfl);(case hr=>first|(go_simp;done)|(go_simp;rfl));intro gb525 hg w19 hbox hb;have BK525:=qo.mk (hbox);have GW525:=hl_ (w:=w) hg;have GE525:=hl_ (w:=w) hg;replace HB:=hs_ HB hb;clear hb hbox hg)|((with_reducible refine gate_dst (N:=3) rfl ?_);refine box_event ?hg (N:=3) ?hd (cs:=#[.slice A1_0 l1_0.length c1_0,.slice A1_1 l1_1.length c1_1]) (t:=32) ?hr ?_;(case hd=>rfl);(case hg=>rfl);(case hr=>first|(go_simp;done)|(go_simp;rfl));intro gb526 hg w20 hbox hb;have BK526:=qo.mk (hbox);have GW526:=hl_ (w:=w) hg;have GE526:=hl_ (w:=w) hg;have NB525_526:=qo.mk ((by rw [hg];exact nl_ BK525 : gb525 ≠ gb526));have NB526_525:=qo.mk ((by rw [hg];exact ng_ BK525 : gb526 ≠ gb525));replace BK525:=bb_ BK525 hb;replace HB:=hs_ HB hb;clear hb hbox hg;have hnb21:=NB525_526.out;have hnc21:=NB526_525.out;obtain ⟨hcz22_0,hcz22_1,hfz22_0,hfz22_1⟩:=c2f_ BK525.out;obtain ⟨hcz23_0,hcz23_1,hfz23_0,hfz23_1⟩:=c2f_ BK526.out)|((with_reducible refine gate_callee (f:=46) rfl ?_);refine goesL_ (some 9) rfl rfl Try.func46 (by kernel_rfl) rfl #[.slice A0_0 l0_0.length c0_0,.slice A1_0 l1_0.length c1_0] rfl sm_ ?_;(with_reducible refine (laws_eqStringS.calls k _ _ l0_0 _ _ l1_0 false _ ?side1 ?side2 ?side3 ?side4 A3.out).mono ?_);(case side1=>repeat (first|exact (Kd.C_below HR0_0.out HB.out)|(with_reducible refine Kd.C_alloc ?_ _)|(with_reducible refine Kd.C_drewN ?_ _)|(with_reducible refine Kd.C_drew ?_)));(case side2=>exact HC0_0.out);(case side3=>repeat (first|exact (Kd.C_below HR1_0.out HB.out)|(with_reducible refine Kd.C_alloc ?_ _)|(with_reducible refine Kd.C_drewN ?_ _)|(with_reducible refine Kd.C_drew ?_)));(case side4=>exact HC1_0.out);rintro e w' ⟨rfl,⟨nd,rfl⟩⟩;refine ⟨_,rfl,?_⟩))
 go_ret
 exact ⟨rt_,hx_⟩

/-! ### laws_eqIntS: function 13 -/
def laws_eqIntS.l0 : Nat → List Int → List Int → Int → Option (Bool)
 | 0,_,_,_=>none
 | k + 1,x0,x1,x5=>if x5 < (x0.length : Int) then (if 0 ≤ x5 then (if x5 < (x1.length : Int) then (if (rd x0 x5) = (rd x1 x5) then (laws_eqIntS.l0 k x0 x1 (wrap64 (x5 + 1))) else (some false)) else (none)) else (none)) else (some true)
def laws_eqIntS.f (k : Nat) (l0 : List Int) (l1 : List Int) : Option (Bool):=if (l0.length : Int) = (l1.length : Int) then (laws_eqIntS.l0 k l0 l1 0) else (some false)
theorem laws_eqIntS.mono_l : ∀ k,(∀ y0 y1 y2,LeO (laws_eqIntS.l0 k y0 y1 y2) (laws_eqIntS.l0 (k + 1) y0 y1 y2))
 | 0=>fun _ _ _ r h=>by simp [laws_eqIntS.l0] at h
 | k + 1=>by
  have ih0:=laws_eqIntS.mono_l k
  intro y0 y1 y2
  unfold laws_eqIntS.l0
  repeat' first|(with_reducible first|exact ih0 _ _ _|exact LeO.refl _|exact LeO.none _|refine LeO.ite ?_ ?_|refine LeO.bind ?_ (fun _=>?_))|exact ih0 _ _ _|exact LeO.none _|refine LeO.ite ?_ ?_|refine LeO.bind ?_ (fun _=>?_)
theorem laws_eqIntS.mono : ∀ a0 a1 k,LeO (laws_eqIntS.f k a0 a1) (laws_eqIntS.f (k + 1) a0 a1):=by
 intro a0 a1 k
 have ih0:=laws_eqIntS.mono_l k
 unfold laws_eqIntS.f
 repeat' first|(with_reducible first|exact ih0 _ _ _|exact LeO.refl _|exact LeO.none _|refine LeO.ite ?_ ?_|refine LeO.bind ?_ (fun _=>?_))|exact ih0 _ _ _|exact LeO.none _|refine LeO.ite ?_ ?_|refine LeO.bind ?_ (fun _=>?_)
set_option maxHeartbeats 8000000 in
set_option maxRecDepth 100000 in
theorem laws_eqIntS.calls (k : Nat) (A0 : Option Addr) (c0 : Nat) (l0 : List Int) (A1 : Option Addr) (c1 : Nat) (l1 : List Int) (r : Bool) (w : World) (hr0 : Kd.C (Kd.int .i64) w A0 l0.length l0) (hc0 : l0.length ≤ c0) (hr1 : Kd.C (Kd.int .i64) w A1 l1.length l1) (hc1 : l1.length ≤ c1) (h : laws_eqIntS.f k l0 l1 = some r) :
  Calls Try.prog 13 #[.slice A0 l0.length c0,.slice A1 l1.length c1] w fun e w'=>e = .returned (.bool r) ∧ Drawn0 w w':=by
 have HR0:=qo.mk hr0
 have HC0:=qo.mk hc0
 clear hr0 hc0
 have HR1:=qo.mk hr1
 have HC1:=qo.mk hc1
 clear hr1 hc1
 have H : (if (l0.length : Int) = (l1.length : Int) then (laws_eqIntS.l0 k l0 l1 0) else (some false)) = some r:=h
 clear h
 by_cases c3 : (l0.length : Int) = (l1.length : Int)
 ·rw [if_pos c3] at H
  have c3b0 : ((l0.length : Int) == (l1.length : Int)) = true:=beq_iff_eq.mpr c3
  have c3b1 : ((l0.length : Int) != (l1.length : Int)) = false:=bne_eq_false_iff_eq.mpr c3
  have c3b2 : (l0.length == l1.length) = true:=by first|simpa using c3|(simp at c3 ⊢;omega)
  clear c3
  have H':=qo.mk H
  clear H
  go_enter Try.func13,Try.ntmps13
  go_wp2
  repeat (go_quiet (fail);try go_wp2)
  go_loopg [5] k (fun kq v5 w'=>∃ (x5_1 : Int),v5 = .int .i64 x5_1 ∧ qo (laws_eqIntS.l0 kq l0 l1 x5_1 = some r) ∧ qo (kq ≤ k) ∧ Drawn0 w w')
  case atStart=>exact ⟨(0),rs_,H',⟨Nat.le_refl _⟩,by repeat (first|exact Drawn0.refl _|apply Drawn0.step)⟩
  clear H'
  try clear c1
  try clear p2
  try clear c3
  try clear c3b0
  try clear c3b1
  try clear c3b2
  obtain ⟨x5_1,rfl,HA,HK1,⟨m1,rfl⟩⟩:=hrel
  obtain _|k1:=gk
  ·exact absurd HA.out (by simp [laws_eqIntS.l0])
  have H:=HA.out
  clear HA
  simp only [laws_eqIntS.l0] at H
  by_cases c4 : x5_1 < (l0.length : Int)
  ·rw [if_pos c4] at H
   have c4b0 : decide (x5_1 < (l0.length : Int)) = true:=decide_eq_true c4
   clear c4
   by_cases c5 : 0 ≤ x5_1
   ·rw [if_pos c5] at H
    have c5b0 : decide (0 ≤ x5_1) = true:=decide_eq_true c5
    clear c5
    by_cases c6 : x5_1 < (l1.length : Int)
    ·rw [if_pos c6] at H
     have c6b0 : decide (x5_1 < (l1.length : Int)) = true:=decide_eq_true c6
     clear c6
     by_cases c7 : (rd l0 x5_1) = (rd l1 x5_1)
     ·rw [if_pos c7] at H
      have c7b0 : ((rd l0 x5_1) == (rd l1 x5_1)) = true:=beq_iff_eq.mpr c7
      have c7b1 : ((rd l0 x5_1) != (rd l1 x5_1)) = false:=bne_eq_false_iff_eq.mpr c7
      clear c7
      have H':=qo.mk H
      clear H
      have p529 : 0 ≤ (x5_1 : Int):=dt_
      have q529 : x5_1 < (l0.length : Int):=dt_
      obtain ⟨ad529,e529,hx529_0⟩:=Kd.at_int HR0.out x5_1 p529 q529
      cases e529
      replace p529:=eq_true p529
      replace q529:=eq_true q529
      have p530 : 0 ≤ (x5_1 : Int):=dt_
      have q530 : x5_1 < (l1.length : Int):=dt_
      obtain ⟨ad530,e530,hx530_0⟩:=Kd.at_int HR1.out x5_1 p530 q530
      cases e530
      replace p530:=eq_true p530
      replace q530:=eq_true q530
      go_wp2
      repeat (go_quiet (fail);try go_wp2)
      go_roundg k1
      case measure=>have:=HK1.out;omega
      case rel=>exact ⟨(wrap64 (x5_1 + 1)),rs_,H',⟨by have:=HK1.out;omega⟩,by repeat (first|exact Drawn0.refl _|apply Drawn0.step)⟩
     rw [if_neg c7] at H
     have c7b0 : ((rd l0 x5_1) == (rd l1 x5_1)) = false:=beq_eq_false_iff_ne.mpr c7
     have c7b1 : ((rd l0 x5_1) != (rd l1 x5_1)) = true:=bne_iff_ne.mpr c7
     obtain rfl:=Option.some.inj H
     have p529 : 0 ≤ (x5_1 : Int):=dt_
     have q529 : x5_1 < (l0.length : Int):=dt_
     obtain ⟨ad529,e529,hx529_0⟩:=Kd.at_int HR0.out x5_1 p529 q529
     cases e529
     replace p529:=eq_true p529
     replace q529:=eq_true q529
     have p530 : 0 ≤ (x5_1 : Int):=dt_
     have q530 : x5_1 < (l1.length : Int):=dt_
     obtain ⟨ad530,e530,hx530_0⟩:=Kd.at_int HR1.out x5_1 p530 q530
     cases e530
     replace p530:=eq_true p530
     replace q530:=eq_true q530
     go_wp2
     repeat (go_quiet (fail);try go_wp2)
     go_ret
     exact ⟨by first|rfl|(simp;done)|(simp [*];done),by repeat (first|exact Drawn0.refl _|apply Drawn0.step)⟩
    rw [if_neg c6] at H
    exact absurd H (by simp)
   rw [if_neg c5] at H
   exact absurd H (by simp)
  rw [if_neg c4] at H
  have c4b0 : decide (x5_1 < (l0.length : Int)) = false:=decide_eq_false c4
  clear c4
  obtain rfl:=Option.some.inj H
  go_wp2
  repeat (go_quiet (fail);try go_wp2)
  go_ret
  exact ⟨by first|rfl|(simp;done)|(simp [*];done),by repeat (first|exact Drawn0.refl _|apply Drawn0.step)⟩
 rw [if_neg c3] at H
 have c3b0 : ((l0.length : Int) == (l1.length : Int)) = false:=beq_eq_false_iff_ne.mpr c3
 have c3b1 : ((l0.length : Int) != (l1.length : Int)) = true:=bne_iff_ne.mpr c3
 have c3b2 : (l0.length == l1.length) = false:=by first|simpa using c3|(simp at c3 ⊢;omega)
 obtain rfl:=Option.some.inj H
 go_enter Try.func13,Try.ntmps13
 go_wp2
 repeat (go_quiet (fail);try go_wp2)
 go_ret
 exact ⟨by first|rfl|(simp;done)|(simp [*];done),by repeat (first|exact Drawn0.refl _|apply Drawn0.step)⟩

/-! ### laws_eqPair: function 48 -/
def laws_eqPair.f (a0_0 : ByteArray) (a0_1 : ByteArray) (a1_0 : ByteArray) (a1_1 : ByteArray) : Option (Bool):=if a0_0.toList = a1_0.toList then (if a0_1.toList = a1_1.toList then (some true) else (some false)) else (some false)
set_option maxHeartbeats 8000000 in
set_option maxRecDepth 100000 in
theorem laws_eqPair.calls (a0_0 : ByteArray) (a0_1 : ByteArray) (a1_0 : ByteArray) (a1_1 : ByteArray) (r : Bool) (w : World) (h : laws_eqPair.f a0_0 a0_1 a1_0 a1_1 = some r) :
  Calls Try.prog 48 #[.agg #[.string a0_0,.string a0_1],.agg #[.string a1_0,.string a1_1]] w fun e w'=>e = .returned (.bool r) ∧ Below w.heap.size w w':=by
 have hu69:=Try.underlying69
 have HB:=qo.mk (Below.refl w.heap.size w)
 have H : (if a0_0.toList = a1_0.toList then (if a0_1.toList = a1_1.toList then (some true) else (some false)) else (some false)) = some r:=h
 clear h
 by_cases c3 : a0_0.toList = a1_0.toList
 ·rw [if_pos c3] at H
  have c3b0 : (a0_0.toList == a1_0.toList) = true:=beq_iff_eq.mpr c3
  have c3b1 : (a0_0.toList != a1_0.toList) = false:=bne_eq_false_iff_eq.mpr c3
  clear c3
  by_cases c4 : a0_1.toList = a1_1.toList
  ·rw [if_pos c4] at H
   have c4b0 : (a0_1.toList == a1_1.toList) = true:=beq_iff_eq.mpr c4
   have c4b1 : (a0_1.toList != a1_1.toList) = false:=bne_eq_false_iff_eq.mpr c4
   clear c4
   obtain rfl:=Option.some.inj H
   go_enter Try.func48,Try.ntmps48
   go_wp2_with (first|((with_reducible refine gate_dst (N:=2) rfl ?_);refine box_event ?hg (N:=2) ?hd (cs:=#[.string a0_0,.string a0_1]) (t:=69) ?hr ?_;(case hd=>rfl);(case hg=>rfl);(case hr=>first|(go_simp;done)|(go_simp;rfl));intro gb531 hg w5 hbox hb;have BK531:=qo.mk (hbox);have GW531:=hl_ (w:=w) hg;have GE531:=hl_ (w:=w) hg;replace HB:=hs_ HB hb;clear hb hbox hg)|((with_reducible refine gate_dst (N:=3) rfl ?_);refine box_event ?hg (N:=3) ?hd (cs:=#[.string a1_0,.string a1_1]) (t:=69) ?hr ?_;(case hd=>rfl);(case hg=>rfl);(case hr=>first|(go_simp;done)|(go_simp;rfl));intro gb532 hg w6 hbox hb;have BK532:=qo.mk (hbox);have GW532:=hl_ (w:=w) hg;have GE532:=hl_ (w:=w) hg;have NB531_532:=qo.mk ((by rw [hg];exact nl_ BK531 : gb531 ≠ gb532));have NB532_531:=qo.mk ((by rw [hg];exact ng_ BK531 : gb532 ≠ gb531));replace BK531:=bb_ BK531 hb;replace HB:=hs_ HB hb;clear hb hbox hg;have hnb7:=NB531_532.out;have hnc7:=NB532_531.out;obtain ⟨hcz8_0,hcz8_1,hfz8_0,hfz8_1⟩:=c2f_ BK531.out;obtain ⟨hcz9_0,hcz9_1,hfz9_0,hfz9_1⟩:=c2f_ BK532.out))
   go_ret
   exact ⟨rt_,hx_⟩
  rw [if_neg c4] at H
  have c4b0 : (a0_1.toList == a1_1.toList) = false:=beq_eq_false_iff_ne.mpr c4
  have c4b1 : (a0_1.toList != a1_1.toList) = true:=bne_iff_ne.mpr c4
  obtain rfl:=Option.some.inj H
  go_enter Try.func48,Try.ntmps48
  go_wp2_with (first|((with_reducible refine gate_dst (N:=2) rfl ?_);refine box_event ?hg (N:=2) ?hd (cs:=#[.string a0_0,.string a0_1]) (t:=69) ?hr ?_;(case hd=>rfl);(case hg=>rfl);(case hr=>first|(go_simp;done)|(go_simp;rfl));intro gb531 hg w10 hbox hb;have BK531:=qo.mk (hbox);have GW531:=hl_ (w:=w) hg;have GE531:=hl_ (w:=w) hg;replace HB:=hs_ HB hb;clear hb hbox hg)|((with_reducible refine gate_dst (N:=3) rfl ?_);refine box_event ?hg (N:=3) ?hd (cs:=#[.string a1_0,.string a1_1]) (t:=69) ?hr ?_;(case hd=>rfl);(case hg=>rfl);(case hr=>first|(go_simp;done)|(go_simp;rfl));intro gb532 hg w11 hbox hb;have BK532:=qo.mk (hbox);have GW532:=hl_ (w:=w) hg;have GE532:=hl_ (w:=w) hg;have NB531_532:=qo.mk ((by rw [hg];exact nl_ BK531 : gb531 ≠ gb532));have NB532_531:=qo.mk ((by rw [hg];exact ng_ BK531 : gb532 ≠ gb531));replace BK531:=bb_ BK531 hb;replace HB:=hs_ HB hb;clear hb hbox hg;have hnb12:=NB531_532.out;have hnc12:=NB532_531.out;obtain ⟨hcz13_0,hcz13_1,hfz13_0,hfz13_1⟩:=c2f_ BK531.out;obtain ⟨hcz14_0,hcz14_1,hfz14_0,hfz14_1⟩:=c2f_ BK532.out))
  go_ret
  exact ⟨rt_,hx_⟩
 rw [if_neg c3] at H
 have c3b0 : (a0_0.toList == a1_0.toList) = false:=beq_eq_false_iff_ne.mpr c3
 have c3b1 : (a0_0.toList != a1_0.toList) = true:=bne_iff_ne.mpr c3
 obtain rfl:=Option.some.inj H
 go_enter Try.func48,Try.ntmps48
 go_wp2_with (first|((with_reducible refine gate_dst (N:=2) rfl ?_);refine box_event ?hg (N:=2) ?hd (cs:=#[.string a0_0,.string a0_1]) (t:=69) ?hr ?_;(case hd=>rfl);(case hg=>rfl);(case hr=>first|(go_simp;done)|(go_simp;rfl));intro gb531 hg w15 hbox hb;have BK531:=qo.mk (hbox);have GW531:=hl_ (w:=w) hg;have GE531:=hl_ (w:=w) hg;replace HB:=hs_ HB hb;clear hb hbox hg)|((with_reducible refine gate_dst (N:=3) rfl ?_);refine box_event ?hg (N:=3) ?hd (cs:=#[.string a1_0,.string a1_1]) (t:=69) ?hr ?_;(case hd=>rfl);(case hg=>rfl);(case hr=>first|(go_simp;done)|(go_simp;rfl));intro gb532 hg w16 hbox hb;have BK532:=qo.mk (hbox);have GW532:=hl_ (w:=w) hg;have GE532:=hl_ (w:=w) hg;have NB531_532:=qo.mk ((by rw [hg];exact nl_ BK531 : gb531 ≠ gb532));have NB532_531:=qo.mk ((by rw [hg];exact ng_ BK531 : gb532 ≠ gb531));replace BK531:=bb_ BK531 hb;replace HB:=hs_ HB hb;clear hb hbox hg;have hnb17:=NB531_532.out;have hnc17:=NB532_531.out;obtain ⟨hcz18_0,hcz18_1,hfz18_0,hfz18_1⟩:=c2f_ BK531.out;obtain ⟨hcz19_0,hcz19_1,hfz19_0,hfz19_1⟩:=c2f_ BK532.out))
 go_ret
 exact ⟨rt_,hx_⟩

end Go.Proofs.Ytcnoccefdejphaa.QFnExactPlaceTree
