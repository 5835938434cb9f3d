/- Lean functions for the Go functions that the law FnExactRounds reaches, and that each Go function comes to just its Lean function's answer; by a program of this session. -/
import Derived.Test.YtnffimpoekjkpaaZFnExactRoundsx0
import Derived.Test.YtnffimpoekjkpaaZFnExactRoundsx2
namespace Go.Proofs.Ytnffimpoekjkpaa.QFnExactRounds
open Go.RowKit Go.Proofs.YtnffimpoekjkpaaW.PrintWords Go.Proofs.YtnffimpoekjkpaaW.PrintLast Go.Proofs.YtnffimpoekjkpaaW.PrintMore
attribute [local go_sem] max2_int min2_int max_two min_two max_three min_three max_four min_four   -- for this text's walks alone
set_option linter.unusedVariables false
set_option linter.unusedSimpArgs false

/-! ### spec_l03In: function 46 -/
def spec_l03In.l0 : Nat → List Int → Int → Int → Option (Bool)
 | 0,_,_,_=>none
 | k + 1,x0,x1,x5=>if x5 < (x0.length : Int) then (if 0 ≤ x5 then (if (rd x0 x5) = x1 then (some true) else (spec_l03In.l0 k x0 x1 (wrap64 (x5 + 1)))) else (none)) else (some false)
def spec_l03In.f (k : Nat) (l0 : List Int) (a1 : Int) : Option (Bool):=spec_l03In.l0 k l0 a1 0
theorem spec_l03In.mono_l : ∀ k,(∀ y0 y1 y2,LeO (spec_l03In.l0 k y0 y1 y2) (spec_l03In.l0 (k + 1) y0 y1 y2))
 | 0=>fun _ _ _ r h=>by simp [spec_l03In.l0] at h
 | k + 1=>by
  have ih0:=spec_l03In.mono_l k
  intro y0 y1 y2
  unfold spec_l03In.l0
  repeat' first|(with_reducible first|exact ih0 _ _ _|exact LeO.refl _|exact LeO.none _|refine LeO.ite ?_ ?_|refine LeO.bind ?_ (fun _=>?_))|exact ih0 _ _ _|exact LeO.none _|refine LeO.ite ?_ ?_|refine LeO.bind ?_ (fun _=>?_)
theorem spec_l03In.mono : ∀ a0 a1 k,LeO (spec_l03In.f k a0 a1) (spec_l03In.f (k + 1) a0 a1):=by
 intro a0 a1 k
 have ih0:=spec_l03In.mono_l k
 unfold spec_l03In.f
 repeat' first|(with_reducible first|exact ih0 _ _ _|exact LeO.refl _|exact LeO.none _|refine LeO.ite ?_ ?_|refine LeO.bind ?_ (fun _=>?_))|exact ih0 _ _ _|exact LeO.none _|refine LeO.ite ?_ ?_|refine LeO.bind ?_ (fun _=>?_)
set_option maxHeartbeats 8000000 in
set_option maxRecDepth 100000 in
theorem spec_l03In.calls (k : Nat) (A0 : Option Addr) (c0 : Nat) (l0 : List Int) (a1 : Int) (r : Bool) (w : World) (hr0 : Kd.C (Kd.int .i64) w A0 l0.length l0) (hc0 : l0.length ≤ c0) (h : spec_l03In.f k l0 a1 = some r) :
  Calls Try.prog 46 #[.slice A0 l0.length c0,.int .i64 a1] w fun e w'=>e = .returned (.bool r) ∧ Drawn0 w w':=by
 have HR0:=qy.mk hr0
 have HC0:=qy.mk hc0
 clear hr0 hc0
 have H : (spec_l03In.l0 k l0 a1 0) = some r:=h
 clear h
 have H':=qy.mk H
 clear H
 go_enter Try.func46,Try.ntmps46
 go_wp2
 go_loopg [5] k (fun kq v5 w'=>∃ (x5_1 : Int),v5 = .int .i64 x5_1 ∧ qy (spec_l03In.l0 kq l0 a1 x5_1 = some r) ∧ qy (kq ≤ k) ∧ Drawn0 w w')
 case atStart=>exact ⟨(0),rs_,H',⟨Nat.le_refl _⟩,by repeat (first|exact Drawn0.refl _|apply Drawn0.step)⟩
 clear H'
 try clear p2
 obtain ⟨x5_1,rfl,HA,HK1,⟨m1,rfl⟩⟩:=hrel
 obtain _|k1:=gk
 ·exact absurd HA.out (by simp [spec_l03In.l0])
 have H:=HA.out
 clear HA
 simp only [spec_l03In.l0] at H
 by_cases c3 : x5_1 < (l0.length : Int)
 ·rw [if_pos c3] at H
  have c3b0 : decide (x5_1 < (l0.length : Int)) = true:=decide_eq_true c3
  clear c3
  by_cases c4 : 0 ≤ x5_1
  ·rw [if_pos c4] at H
   have c4b0 : decide (0 ≤ x5_1) = true:=decide_eq_true c4
   clear c4
   by_cases c5 : (rd l0 x5_1) = a1
   ·rw [if_pos c5] at H
    have c5b0 : ((rd l0 x5_1) == a1) = true:=beq_iff_eq.mpr c5
    have c5b1 : ((rd l0 x5_1) != a1) = false:=bne_eq_false_iff_eq.mpr c5
    clear c5
    obtain rfl:=Option.some.inj H
    have p171 : 0 ≤ (x5_1 : Int):=dt_
    have q171 : x5_1 < (l0.length : Int):=dt_
    obtain ⟨ad171,e171,hx171_0⟩:=Kd.at_int HR0.out x5_1 p171 q171
    cases e171
    replace p171:=eq_true p171
    replace q171:=eq_true q171
    go_wp2
    go_ret
    exact ⟨by first|rfl|(simp;done)|(simp [*];done),by repeat (first|exact Drawn0.refl _|apply Drawn0.step)⟩
   rw [if_neg c5] at H
   have c5b0 : ((rd l0 x5_1) == a1) = false:=beq_eq_false_iff_ne.mpr c5
   have c5b1 : ((rd l0 x5_1) != a1) = true:=bne_iff_ne.mpr c5
   have H':=qy.mk H
   clear H
   have p171 : 0 ≤ (x5_1 : Int):=dt_
   have q171 : x5_1 < (l0.length : Int):=dt_
   obtain ⟨ad171,e171,hx171_0⟩:=Kd.at_int HR0.out x5_1 p171 q171
   cases e171
   replace p171:=eq_true p171
   replace q171:=eq_true q171
   go_wp2
   go_roundg k1
   case measure=>have:=HK1.out;omega
   case rel=>exact ⟨(wrap64 (x5_1 + 1)),rs_,H',⟨by have:=HK1.out;omega⟩,by repeat (first|exact Drawn0.refl _|apply Drawn0.step)⟩
  rw [if_neg c4] at H
  exact absurd H (by simp)
 rw [if_neg c3] at H
 have c3b0 : decide (x5_1 < (l0.length : Int)) = false:=decide_eq_false c3
 clear c3
 obtain rfl:=Option.some.inj H
 go_wp2
 go_ret
 exact ⟨by first|rfl|(simp;done)|(simp [*];done),by repeat (first|exact Drawn0.refl _|apply Drawn0.step)⟩

/-! ### spec_l08Place: function 47 -/
def spec_l08Place.l0 : Nat → List Int → Int → Int → Option (Int)
 | 0,_,_,_=>none
 | k + 1,x0,x1,x5=>if x5 < (x0.length : Int) then (if 0 ≤ x5 then (if (rd x0 x5) = x1 then (some x5) else (spec_l08Place.l0 k x0 x1 (wrap64 (x5 + 1)))) else (none)) else (some (-1))
def spec_l08Place.f (k : Nat) (l0 : List Int) (a1 : Int) : Option (Int):=spec_l08Place.l0 k l0 a1 0
theorem spec_l08Place.mono_l : ∀ k,(∀ y0 y1 y2,LeO (spec_l08Place.l0 k y0 y1 y2) (spec_l08Place.l0 (k + 1) y0 y1 y2))
 | 0=>fun _ _ _ r h=>by simp [spec_l08Place.l0] at h
 | k + 1=>by
  have ih0:=spec_l08Place.mono_l k
  intro y0 y1 y2
  unfold spec_l08Place.l0
  repeat' first|(with_reducible first|exact ih0 _ _ _|exact LeO.refl _|exact LeO.none _|refine LeO.ite ?_ ?_|refine LeO.bind ?_ (fun _=>?_))|exact ih0 _ _ _|exact LeO.none _|refine LeO.ite ?_ ?_|refine LeO.bind ?_ (fun _=>?_)
theorem spec_l08Place.mono : ∀ a0 a1 k,LeO (spec_l08Place.f k a0 a1) (spec_l08Place.f (k + 1) a0 a1):=by
 intro a0 a1 k
 have ih0:=spec_l08Place.mono_l k
 unfold spec_l08Place.f
 repeat' first|(with_reducible first|exact ih0 _ _ _|exact LeO.refl _|exact LeO.none _|refine LeO.ite ?_ ?_|refine LeO.bind ?_ (fun _=>?_))|exact ih0 _ _ _|exact LeO.none _|refine LeO.ite ?_ ?_|refine LeO.bind ?_ (fun _=>?_)
set_option maxHeartbeats 8000000 in
set_option maxRecDepth 100000 in
theorem spec_l08Place.calls (k : Nat) (A0 : Option Addr) (c0 : Nat) (l0 : List Int) (a1 : Int) (r : Int) (w : World) (hr0 : Kd.C (Kd.int .i64) w A0 l0.length l0) (hc0 : l0.length ≤ c0) (h : spec_l08Place.f k l0 a1 = some r) :
  Calls Try.prog 47 #[.slice A0 l0.length c0,.int .i64 a1] w fun e w'=>e = .returned (.int .i64 r) ∧ Drawn0 w w':=by
 have HR0:=qy.mk hr0
 have HC0:=qy.mk hc0
 clear hr0 hc0
 have H : (spec_l08Place.l0 k l0 a1 0) = some r:=h
 clear h
 have H':=qy.mk H
 clear H
 go_enter Try.func47,Try.ntmps47
 go_wp2
 go_loopg [5] k (fun kq v5 w'=>∃ (x5_1 : Int),v5 = .int .i64 x5_1 ∧ qy (spec_l08Place.l0 kq l0 a1 x5_1 = some r) ∧ qy (kq ≤ k) ∧ Drawn0 w w')
 case atStart=>exact ⟨(0),rs_,H',⟨Nat.le_refl _⟩,by repeat (first|exact Drawn0.refl _|apply Drawn0.step)⟩
 clear H'
 try clear p2
 obtain ⟨x5_1,rfl,HA,HK1,⟨m1,rfl⟩⟩:=hrel
 obtain _|k1:=gk
 ·exact absurd HA.out (by simp [spec_l08Place.l0])
 have H:=HA.out
 clear HA
 simp only [spec_l08Place.l0] at H
 by_cases c3 : x5_1 < (l0.length : Int)
 ·rw [if_pos c3] at H
  have c3b0 : decide (x5_1 < (l0.length : Int)) = true:=decide_eq_true c3
  clear c3
  by_cases c4 : 0 ≤ x5_1
  ·rw [if_pos c4] at H
   have c4b0 : decide (0 ≤ x5_1) = true:=decide_eq_true c4
   clear c4
   by_cases c5 : (rd l0 x5_1) = a1
   ·rw [if_pos c5] at H
    have c5b0 : ((rd l0 x5_1) == a1) = true:=beq_iff_eq.mpr c5
    have c5b1 : ((rd l0 x5_1) != a1) = false:=bne_eq_false_iff_eq.mpr c5
    clear c5
    obtain rfl:=Option.some.inj H
    have p172 : 0 ≤ (x5_1 : Int):=dt_
    have q172 : x5_1 < (l0.length : Int):=dt_
    obtain ⟨ad172,e172,hx172_0⟩:=Kd.at_int HR0.out x5_1 p172 q172
    cases e172
    replace p172:=eq_true p172
    replace q172:=eq_true q172
    go_wp2
    go_ret
    exact ⟨by first|rfl|(simp;done)|(simp [*];done),by repeat (first|exact Drawn0.refl _|apply Drawn0.step)⟩
   rw [if_neg c5] at H
   have c5b0 : ((rd l0 x5_1) == a1) = false:=beq_eq_false_iff_ne.mpr c5
   have c5b1 : ((rd l0 x5_1) != a1) = true:=bne_iff_ne.mpr c5
   have H':=qy.mk H
   clear H
   have p172 : 0 ≤ (x5_1 : Int):=dt_
   have q172 : x5_1 < (l0.length : Int):=dt_
   obtain ⟨ad172,e172,hx172_0⟩:=Kd.at_int HR0.out x5_1 p172 q172
   cases e172
   replace p172:=eq_true p172
   replace q172:=eq_true q172
   go_wp2
   go_roundg k1
   case measure=>have:=HK1.out;omega
   case rel=>exact ⟨(wrap64 (x5_1 + 1)),rs_,H',⟨by have:=HK1.out;omega⟩,by repeat (first|exact Drawn0.refl _|apply Drawn0.step)⟩
  rw [if_neg c4] at H
  exact absurd H (by simp)
 rw [if_neg c3] at H
 have c3b0 : decide (x5_1 < (l0.length : Int)) = false:=decide_eq_false c3
 clear c3
 obtain rfl:=Option.some.inj H
 go_wp2
 go_ret
 exact ⟨by first|rfl|(simp;done)|(simp [*];done),by repeat (first|exact Drawn0.refl _|apply Drawn0.step)⟩

-- NOT PRINTED: function 29 (spec_l10Shrink)

-- NOT PRINTED: function 49 (spec_l10Without)

-- NOT PRINTED: function 30 (spec_l10Augment)

-- NOT PRINTED: function 20 (spec_l10Round)

-- NOT PRINTED: function 11 (spec_l10Solve)

-- NOT PRINTED: function 5 (spec_Rounds)

/-! ### laws_toEdge: function 21 -/
def laws_toEdge.f (a0_0 : Int) (a0_1 : Int) (a0_2 : Int) (a0_3 : Int) (a0_4 : Int) : Option (Int × Int × Int × Int × Int):=some (a0_0,a0_1,a0_2,a0_3,a0_4)
set_option maxHeartbeats 8000000 in
set_option maxRecDepth 100000 in
theorem laws_toEdge.calls (a0_0 : Int) (a0_1 : Int) (a0_2 : Int) (a0_3 : Int) (a0_4 : Int) (r1 : Int) (r2 : Int) (r3 : Int) (r4 : Int) (r5 : Int) (w : World) (h : laws_toEdge.f a0_0 a0_1 a0_2 a0_3 a0_4 = some (r1,r2,r3,r4,r5)) :
  Calls Try.prog 21 #[.agg #[.int .i64 a0_0,.int .i64 a0_1,.int .i64 a0_2,.int .i64 a0_3,.int .i64 a0_4]] w fun e w'=>e = .returned (.agg #[.int .i64 r1,.int .i64 r2,.int .i64 r3,.int .i64 r4,.int .i64 r5]) ∧ Below w.heap.size w w':=by
 have hu58:=Try.underlying58
 have hu51:=Try.underlying51
 have HB:=qy.mk (Below.refl w.heap.size w)
 have H : (some (a0_0,a0_1,a0_2,a0_3,a0_4)) = some (r1,r2,r3,r4,r5):=h
 clear h
 simp only [Option.some.injEq,Prod.mk.injEq] at H
 obtain ⟨rfl,rfl,rfl,rfl,rfl⟩:=H
 go_enter Try.func21,Try.ntmps21
 go_wp2_with (first|((with_reducible refine gate_dst (N:=1) rfl ?_);refine box_event ?hg (N:=1) ?hd (cs:=#[.int .i64 a0_0,.int .i64 a0_1,.int .i64 a0_2,.int .i64 a0_3,.int .i64 a0_4]) (t:=58) ?hr ?_;(case hd=>rfl);(case hg=>rfl);(case hr=>first|(go_simp;done)|(go_simp;rfl));intro gb191 hg w2 hbox hb;have BK191:=qy.mk (hbox);have GW191:=qy.mk ((by rw [hg];exact (qu hx_) : w.heap.size ≤ gb191));have GE191:=qy.mk ((by rw [hg];exact (qu hx_) : w.heap.size ≤ gb191));replace HB:=hs_ HB hb;clear hb hbox hg)|((with_reducible refine gate_dst (N:=2) rfl ?_);refine box_event ?hg (N:=2) ?hd (cs:=#[.int .i64 0,.int .i64 0,.int .i64 0,.int .i64 0,.int .i64 0]) (t:=51) ?hr ?_;(case hd=>rfl);(case hg=>rfl);(case hr=>first|(go_simp;done)|(go_simp;rfl));intro gb192 hg w3 hbox hb;have BK192:=qy.mk (hbox);have GW192:=qy.mk ((by rw [hg];exact (qu hx_) : w.heap.size ≤ gb192));have GE192:=qy.mk ((by rw [hg];exact (qu hx_) : w.heap.size ≤ gb192));have NB191_192:=qy.mk ((by rw [hg];exact nl_ BK191 : gb191 ≠ gb192));have NB192_191:=qy.mk ((by rw [hg];exact ng_ BK191 : gb192 ≠ gb191));replace BK191:=bb_ BK191 hb;replace HB:=hs_ HB hb;clear hb hbox hg)|((with_reducible refine gate_dst (N:=3) rfl ?_);refine box_event ?hg (N:=3) ?hd (cs:=#[.int .i64 0,.int .i64 0,.int .i64 0,.int .i64 0,.int .i64 0]) (t:=51) ?hr ?_;(case hd=>rfl);(case hg=>rfl);(case hr=>first|(go_simp;done)|(go_simp;rfl));intro gb193 hg w4 hbox hb;have BK193:=qy.mk (hbox);have GW193:=qy.mk ((by rw [hg];exact (qu hx_) : w.heap.size ≤ gb193));have GE193:=qy.mk ((by rw [hg];exact (qu hx_) : w.heap.size ≤ gb193));have NB191_193:=qy.mk ((by rw [hg];exact nl_ BK191 : gb191 ≠ gb193));have NB193_191:=qy.mk ((by rw [hg];exact ng_ BK191 : gb193 ≠ gb191));replace BK191:=bb_ BK191 hb;have NB192_193:=qy.mk ((by rw [hg];exact nl_ BK192 : gb192 ≠ gb193));have NB193_192:=qy.mk ((by rw [hg];exact ng_ BK192 : gb193 ≠ gb192));replace BK192:=bb_ BK192 hb;replace HB:=hs_ HB hb;clear hb hbox hg;have hnb5:=NB191_192.out;have hnc5:=NB192_191.out;have hnb6:=NB191_193.out;have hnc6:=NB193_191.out;obtain ⟨hcz7_0,hcz7_1,hcz7_2,hcz7_3,hcz7_4,hfz7_0,hfz7_1,hfz7_2,hfz7_3,hfz7_4⟩:=c5f_ BK191.out;have hnb8:=NB193_192.out;have hnc8:=NB192_193.out;obtain ⟨hcz9_0,hcz9_1,hcz9_2,hcz9_3,hcz9_4,hfz9_0,hfz9_1,hfz9_2,hfz9_3,hfz9_4⟩:=c5f_ BK193.out;obtain ⟨hcz10_0,hcz10_1,hcz10_2,hcz10_3,hcz10_4,hfz10_0,hfz10_1,hfz10_2,hfz10_3,hfz10_4⟩:=c5f_ BK192.out))
 refine bodyPost_ret (results_cell_row rfl _ _ gb192 51 #[.int .i64 a0_0,.int .i64 a0_1,.int .i64 a0_2,.int .i64 a0_3,.int .i64 a0_4] (0,0) _ rfl (by (with_reducible repeat (first|refine qf ?_ _|refine qk ?_|refine qg ?_ _));refine blk_put (cs:=#[.int .i64 a0_0,.int .i64 a0_1,.int .i64 a0_2,.int .i64 a0_3,.int .i64 0]) ?_ 4 _ rfl;(with_reducible repeat (first|refine qf ?_ _|refine qk ?_|refine qg ?_ _));refine blk_put (cs:=#[.int .i64 a0_0,.int .i64 a0_1,.int .i64 a0_2,.int .i64 0,.int .i64 0]) ?_ 3 _ rfl;(with_reducible repeat (first|refine qf ?_ _|refine qk ?_|refine qg ?_ _));refine blk_put (cs:=#[.int .i64 a0_0,.int .i64 a0_1,.int .i64 0,.int .i64 0,.int .i64 0]) ?_ 2 _ rfl;(with_reducible repeat (first|refine qf ?_ _|refine qk ?_|refine qg ?_ _));refine blk_put (cs:=#[.int .i64 a0_0,.int .i64 0,.int .i64 0,.int .i64 0,.int .i64 0]) ?_ 1 _ rfl;(with_reducible repeat (first|refine qf ?_ _|refine qk ?_|refine qg ?_ _));refine blk_put (cs:=#[.int .i64 0,.int .i64 0,.int .i64 0,.int .i64 0,.int .i64 0]) ?_ 0 _ rfl;(with_reducible repeat (first|refine qf ?_ _|refine qk ?_|refine qg ?_ _));refine blk_far ?_ NB192_193.out _;(with_reducible repeat (first|refine qf ?_ _|refine qk ?_|refine qg ?_ _));refine blk_far ?_ NB192_193.out _;(with_reducible repeat (first|refine qf ?_ _|refine qk ?_|refine qg ?_ _));refine blk_far ?_ NB192_193.out _;(with_reducible repeat (first|refine qf ?_ _|refine qk ?_|refine qg ?_ _));refine blk_far ?_ NB192_193.out _;(with_reducible repeat (first|refine qf ?_ _|refine qk ?_|refine qg ?_ _));refine blk_far ?_ NB192_193.out _;(with_reducible repeat (first|refine qf ?_ _|refine qk ?_|refine qg ?_ _));exact BK192.out) Try.underlying51 rfl (by kernel_rfl)) rfl ?_
 exact ⟨rt_,hx_⟩

/-! ### laws_toEdgeS: function 12 -/
def laws_toEdgeS.l0 : Nat → List (S58) → List (S51) → Int → Option ((List (S51)))
 | 0,_,_,_=>none
 | k + 1,x0,x3,x4=>if x4 < (x0.length : Int) then (if 0 ≤ x4 then ((laws_toEdge.f ((rd_T58 x0 x4).f0) ((rd_T58 x0 x4).f1) ((rd_T58 x0 x4).f2) ((rd_T58 x0 x4).f3) ((rd_T58 x0 x4).f4)).bind fun bt198=>(if x4 < (x3.length : Int) then (laws_toEdgeS.l0 k x0 (x3.set (x4 : Int).toNat (⟨bt198.1,bt198.2.1,bt198.2.2.1,bt198.2.2.2.1,bt198.2.2.2.2⟩ : S51)) (wrap64 (x4 + 1))) else (none))) else (none)) else (some x3)
def laws_toEdgeS.f (k : Nat) (l0 : List (S58)) : Option ((List (S51))):=if 0 ≤ (l0.length : Int) then (if ((l0.length : Int) : Int).toNat ≤ 7036874417766 then (laws_toEdgeS.l0 k l0 (List.replicate ((l0.length : Int) : Int).toNat z51) 0) else (none)) else (none)
theorem laws_toEdgeS.mono_l : ∀ k,(∀ y0 y1 y2,LeO (laws_toEdgeS.l0 k y0 y1 y2) (laws_toEdgeS.l0 (k + 1) y0 y1 y2))
 | 0=>fun _ _ _ r h=>by simp [laws_toEdgeS.l0] at h
 | k + 1=>by
  have ih0:=laws_toEdgeS.mono_l k
  intro y0 y1 y2
  unfold laws_toEdgeS.l0
  repeat' first|(with_reducible first|exact ih0 _ _ _|exact LeO.refl _|exact LeO.none _|refine LeO.ite ?_ ?_|refine LeO.bind ?_ (fun _=>?_))|exact ih0 _ _ _|exact LeO.none _|refine LeO.ite ?_ ?_|refine LeO.bind ?_ (fun _=>?_)
theorem laws_toEdgeS.mono : ∀ a0 k,LeO (laws_toEdgeS.f k a0) (laws_toEdgeS.f (k + 1) a0):=by
 intro a0 k
 have ih0:=laws_toEdgeS.mono_l k
 unfold laws_toEdgeS.f
 repeat' first|(with_reducible first|exact ih0 _ _ _|exact LeO.refl _|exact LeO.none _|refine LeO.ite ?_ ?_|refine LeO.bind ?_ (fun _=>?_))|exact ih0 _ _ _|exact LeO.none _|refine LeO.ite ?_ ?_|refine LeO.bind ?_ (fun _=>?_)
set_option maxHeartbeats 8000000 in
set_option maxRecDepth 100000 in
theorem laws_toEdgeS.calls (k : Nat) (A0 : Option Addr) (c0 : Nat) (l0 : List (S58)) (r : List (S51)) (w : World) (hr0 : Kd.C k58 w A0 l0.length l0) (hc0 : l0.length ≤ c0) (h : laws_toEdgeS.f k l0 = some r) :
  Calls Try.prog 12 #[.slice A0 l0.length c0] w fun e w'=>∃ v0_ : Value,e = .returned (v0_) ∧ Kd.R k51 51 w' w.heap.size (fun _=>True) v0_ r ∧ Below w.heap.size w w':=by
 have hu58:=Try.underlying58
 have hu51:=Try.underlying51
 have HR0:=qy.mk hr0
 have HC0:=qy.mk hc0
 clear hr0 hc0
 have HB:=qy.mk (Below.refl w.heap.size w)
 have H : (if 0 ≤ (l0.length : Int) then (if ((l0.length : Int) : Int).toNat ≤ 7036874417766 then (laws_toEdgeS.l0 k l0 (List.replicate ((l0.length : Int) : Int).toNat z51) 0) else (none)) else (none)) = some r:=h
 clear h
 by_cases c2 : 0 ≤ (l0.length : Int)
 ·rw [if_pos c2] at H
  have c2b0:=eq_true c2
  have c2b1 : decide (0 ≤ (l0.length : Int)) = true:=decide_eq_true c2
  clear c2
  by_cases c3 : ((l0.length : Int) : Int).toNat ≤ 7036874417766
  ·rw [if_pos c3] at H
   have c3b0:=eq_true c3
   have c3b1 : decide (((l0.length : Int) : Int).toNat ≤ 7036874417766) = true:=decide_eq_true c3
   clear c3
   obtain ⟨y194,hy194⟩ : ∃ y_ : List (S51),y_ = (List.replicate ((l0.length : Int) : Int).toNat z51):=⟨_,rfl⟩
   replace H : (laws_toEdgeS.l0 k l0 y194 0) = some r:=by first|(rw [hy194];with_reducible exact H)|(have H2_:=(Option.bind_some _ _).symm.trans H;rw [hy194];with_reducible exact H2_)|(have H2_:=(Option.bind_some _ _).symm.trans H;with_reducible exact H2_)|with_reducible exact H|(rw [hy194];exact H)|exact H
   have Ny194:=qy.mk hy194
   clear hy194
   have H':=qy.mk H
   clear H
   go_enter Try.func12,Try.ntmps12
   go_wp2_with (first|((with_reducible refine gate_dst (N:=7) rfl ?_);refine Kd.R_make k51 _ 51 rfl (N:=7) rfl 27 _ _ rfl (l0.length : Int) rfl rfl Try.underlying27 (.agg #[(.int .i64 0),(.int .i64 0),(.int .i64 0),(.int .i64 0),(.int .i64 0)]) 40 info51 rfl (by decide) (by omega) z51 (ok:=fun _=>True) (okp:=fun _=>True) (k51_mkM _ _ _ z51 ) (fun _ hk=>hk) trivial (dt_) (Nat.le_trans (Nat.mul_le_mul_right _ (dt_ : (l0.length : Int).toNat ≤ 7036874417766)) (by omega)) (Below.refl _ _) (Nat.le_refl _) ?_;intro v195 w4 ho5 hb hg_ hnew_;clear hg_ hnew_;(first|rw [← Ny194.out] at ho5|(simp only [Int.reduceToNat] at ho5;rw [← Ny194.out] at ho5));have HO196:=qy.mk (Kd.R_lower ho5 (qu hx_));replace HB:=hs_ HB hb;clear hb ho5))
   go_loopg [4] k (fun kq v4 w'=>∃ (x3_1 : List (S51)) (x4_1 : Int),v4 = .int .i64 x4_1 ∧ qy (laws_toEdgeS.l0 kq l0 x3_1 x4_1 = some r) ∧ qy (kq ≤ k) ∧ qy (Kd.R k51 51 w' w.heap.size (fun _=>True) v195 x3_1) ∧ qy (Below w.heap.size w w'))
   case atStart=>exact ⟨(y194),(0),rs_,H',⟨Nat.le_refl _⟩,⟨by (with_reducible repeat (first|apply Kd.R_alloc|apply Kd.R_drewN|apply Kd.R_drew));exact HO196.out⟩,⟨hx_⟩⟩
   clear H'
   try clear c1
   try clear c2
   try clear c2b0
   try clear c2b1
   try clear p2
   try clear c3
   try clear c3b0
   try clear c3b1
   obtain ⟨x3_1,x4_1,rfl,HA,HK1,HO_3,HB⟩:=hrel
   obtain _|k1:=gk
   ·exact absurd HA.out (by simp [laws_toEdgeS.l0])
   have H:=HA.out
   clear HA
   simp only [laws_toEdgeS.l0] at H
   by_cases c6 : x4_1 < (l0.length : Int)
   ·rw [if_pos c6] at H
    have c6b0 : decide (x4_1 < (l0.length : Int)) = true:=decide_eq_true c6
    clear c6
    by_cases c7 : 0 ≤ x4_1
    ·rw [if_pos c7] at H
     have c7b0 : decide (0 ≤ x4_1) = true:=decide_eq_true c7
     clear c7
     replace H:=Option.bind_eq_some_iff.mp H
     obtain ⟨⟨t198,t199,t200,t201,t202⟩,A80,H⟩:=H
     replace H : (if x4_1 < (x3_1.length : Int) then (laws_toEdgeS.l0 k1 l0 (x3_1.set (x4_1 : Int).toNat (⟨t198,t199,t200,t201,t202⟩ : S51)) (wrap64 (x4_1 + 1))) else (none)) = some r:=H
     have A8:=qy.mk A80
     clear A80
     by_cases c9 : x4_1 < (x3_1.length : Int)
     ·rw [if_pos c9] at H
      have c9b0 : decide (x4_1 < (x3_1.length : Int)) = true:=decide_eq_true c9
      clear c9
      obtain ⟨y203,hy203⟩ : ∃ y_ : List (S51),y_ = (x3_1.set (x4_1 : Int).toNat (⟨t198,t199,t200,t201,t202⟩ : S51)):=⟨_,rfl⟩
      replace H : (laws_toEdgeS.l0 k1 l0 y203 (wrap64 (x4_1 + 1))) = some r:=by first|(rw [hy203];with_reducible exact H)|(have H2_:=(Option.bind_some _ _).symm.trans H;rw [hy203];with_reducible exact H2_)|(have H2_:=(Option.bind_some _ _).symm.trans H;with_reducible exact H2_)|with_reducible exact H|(rw [hy203];exact H)|exact H
      have Ny203:=qy.mk hy203
      clear hy203
      have H':=qy.mk H
      clear H
      have p197 : 0 ≤ (x4_1 : Int):=dt_
      have q197 : x4_1 < (l0.length : Int):=dt_
      obtain ⟨ad197,e197,hx197_0,hx197_1,hx197_2,hx197_3,hx197_4⟩:=at_T58 HR0.out x4_1 p197 q197
      cases e197
      replace hx197_0:=cb_ HB hx197_0
      replace hx197_1:=cb_ HB hx197_1
      replace hx197_2:=cb_ HB hx197_2
      replace hx197_3:=cb_ HB hx197_3
      replace hx197_4:=cb_ HB hx197_4
      replace p197:=eq_true p197
      replace q197:=eq_true q197
      go_wp2_with (first|((with_reducible refine gate_callee (f:=21) rfl ?_);refine goesL_ (some 20) rfl rfl Try.func21 (by kernel_rfl) rfl #[.agg #[.int .i64 ((rd_T58 l0 x4_1).f0),.int .i64 ((rd_T58 l0 x4_1).f1),.int .i64 ((rd_T58 l0 x4_1).f2),.int .i64 ((rd_T58 l0 x4_1).f3),.int .i64 ((rd_T58 l0 x4_1).f4)]] rfl sm_ ?_;(with_reducible refine (laws_toEdge.calls ((rd_T58 l0 x4_1).f0) ((rd_T58 l0 x4_1).f1) ((rd_T58 l0 x4_1).f2) ((rd_T58 l0 x4_1).f3) ((rd_T58 l0 x4_1).f4) t198 t199 t200 t201 t202 _ A8.out).mono ?_);rintro e w11 ⟨rfl,hb⟩;refine ⟨_,rfl,?_⟩;replace HO_3:=rb_ HO_3 hb;replace HB:=hs_ HB hb;(try clear hb);(try clear hb2);(try clear hk);(try clear hi);have p10 : 0 ≤ (x4_1 : Int):=dt_;have q10 : (x4_1 : Int) < ((x3_1.length : Int) : Int):=dt_;obtain ⟨go10,co10,eo10,gb10,gl10,cl10,HG10⟩:=Kd.R_form HO_3.out (by omega);(first|cases eo10|(injection eo10 with ea_ en_ ec_;(first|subst ea_|(injection ea_ with ea_;subst ea_));subst ec_;clear en_));have GB10:=qy.mk gb10;have GG10:=qy.mk HG10;clear gb10 gl10 HG10;obtain ⟨ce10,hcl10,hM10,hcc10,hfr10⟩:=Kd.R_elem HO_3.out z51 (x4_1 : Int) p10 q10;obtain rfl:=k51_openM hM10;have hx10_0 : w11.cell? ⟨go10,(x4_1 : Int).toNat * 5,none⟩ = some (.int .i64 ((rd_T51 x3_1 x4_1).f0)):=hcc10 0 _ rfl;have hx10_1 : w11.cell? ⟨go10,(x4_1 : Int).toNat * 5 + 1,none⟩ = some (.int .i64 ((rd_T51 x3_1 x4_1).f1)):=hcc10 1 _ rfl;have hx10_2 : w11.cell? ⟨go10,(x4_1 : Int).toNat * 5 + 2,none⟩ = some (.int .i64 ((rd_T51 x3_1 x4_1).f2)):=hcc10 2 _ rfl;have hx10_3 : w11.cell? ⟨go10,(x4_1 : Int).toNat * 5 + 3,none⟩ = some (.int .i64 ((rd_T51 x3_1 x4_1).f3)):=hcc10 3 _ rfl;have hx10_4 : w11.cell? ⟨go10,(x4_1 : Int).toNat * 5 + 4,none⟩ = some (.int .i64 ((rd_T51 x3_1 x4_1).f4)):=hcc10 4 _ rfl;have hf10_0 : w11.frozen? ⟨go10,(x4_1 : Int).toNat * 5,none⟩ = false:=hfr10 0;have hf10_1 : w11.frozen? ⟨go10,(x4_1 : Int).toNat * 5 + 1,none⟩ = false:=hfr10 1;have hf10_2 : w11.frozen? ⟨go10,(x4_1 : Int).toNat * 5 + 2,none⟩ = false:=hfr10 2;have hf10_3 : w11.frozen? ⟨go10,(x4_1 : Int).toNat * 5 + 3,none⟩ = false:=hfr10 3;have hf10_4 : w11.frozen? ⟨go10,(x4_1 : Int).toNat * 5 + 4,none⟩ = false:=hfr10 4;clear hcl10 hcc10 hfr10 hM10;replace p10:=eq_true p10;replace q10:=eq_true q10;have HX12:=qy.mk (show Kd.R k51 51 w11 w.heap.size (fun _=>True) (.slice (some ⟨go10,0,none⟩) x3_1.length co10) x3_1 from (by (with_reducible repeat (first|apply Kd.R_alloc|apply Kd.R_drewN|apply Kd.R_drew));exact HO_3.out));obtain ⟨ce12,hcl12,hM12,hcc12,hfr12⟩:=Kd.R_elem HX12.out z51 (x4_1 : Int) (dt_) (by have h_ : (x4_1 : Int) < ((x3_1.length : Int) : Int):=dt_;first|exact h_|(have e_:=(Kd.R_reads' HO_3.out).1;omega)|simpa using h_);obtain rfl:=k51_openM hM12;have HP12:=Kd.R_seg HX12.out (x4_1 : Int) (dt_) (by have h_ : (x4_1 : Int) < ((x3_1.length : Int) : Int):=dt_;first|exact h_|(have e_:=(Kd.R_reads' HO_3.out).1;omega)|simpa using h_) (seg:=[.int .i64 t198,.int .i64 t199,.int .i64 t200,.int .i64 t201,.int .i64 t202]) (j:=0) hcl12 hcc12 (show 5 ≤ 5 from by decide) (x':=(⟨t198,t199,t200,t201,t202⟩ : S51)) (k51_mkM _ _ _ (⟨t198,t199,t200,t201,t202⟩ : S51) ) (fun _ hk=>hk);have hx12_0:=hcc12 0 _ rfl;(try simp only [show (k51).sz = 5 from rfl,Nat.mul_one,Nat.add_zero] at hx12_0);have hf12_0:=hfr12 0;(try simp only [show (k51).sz = 5 from rfl,Nat.mul_one,Nat.add_zero] at hf12_0);have hx12_1:=hcc12 1 _ rfl;(try simp only [show (k51).sz = 5 from rfl,Nat.mul_one,Nat.add_zero] at hx12_1);have hf12_1:=hfr12 1;(try simp only [show (k51).sz = 5 from rfl,Nat.mul_one,Nat.add_zero] at hf12_1);have hx12_2:=hcc12 2 _ rfl;(try simp only [show (k51).sz = 5 from rfl,Nat.mul_one,Nat.add_zero] at hx12_2);have hf12_2:=hfr12 2;(try simp only [show (k51).sz = 5 from rfl,Nat.mul_one,Nat.add_zero] at hf12_2);have hx12_3:=hcc12 3 _ rfl;(try simp only [show (k51).sz = 5 from rfl,Nat.mul_one,Nat.add_zero] at hx12_3);have hf12_3:=hfr12 3;(try simp only [show (k51).sz = 5 from rfl,Nat.mul_one,Nat.add_zero] at hf12_3);have hx12_4:=hcc12 4 _ rfl;(try simp only [show (k51).sz = 5 from rfl,Nat.mul_one,Nat.add_zero] at hx12_4);have hf12_4:=hfr12 4;(try simp only [show (k51).sz = 5 from rfl,Nat.mul_one,Nat.add_zero] at hf12_4);clear hcl12 hcc12 hfr12 hM12)|((with_reducible refine gate_store (t:=51) (p:=21) rfl ?_);refine store_event (t:=51) (p:=21) (v:=?vo_w13) (w1:=(((((w11.setCell ⟨go10,(x4_1 : Int).toNat * 5,none⟩ (.int .i64 t198)).setCell ⟨go10,(x4_1 : Int).toNat * 5 + 1,none⟩ (.int .i64 t199)).setCell ⟨go10,(x4_1 : Int).toNat * 5 + 2,none⟩ (.int .i64 t200)).setCell ⟨go10,(x4_1 : Int).toNat * 5 + 3,none⟩ (.int .i64 t201)).setCell ⟨go10,(x4_1 : Int).toNat * 5 + 4,none⟩ (.int .i64 t202))) ?hg ?ho ?hn ?hr ?_;(case ho=>rfl);(case hg=>rfl);(case hn=>rfl);(case hr=>first|(go_simp;done)|(go_simp;rfl));intro w13 hw;have hg : w11.grownBy w13 (some go10):=(by rw [hw];exact HP12.2);have hp_ : Kd.R k51 51 w13 w.heap.size (fun _=>True) (.slice (some ⟨go10,0,none⟩) x3_1.length co10) y203:=(by rw [hw,Ny203.out];exact HP12.1);clear HP12;replace HO_3:=qy.mk (hp_);replace HB:=qy.mk ((by rw [hw];exact qp (qp (qp (qp (qp (HB.out) GB10.out) GB10.out) GB10.out) GB10.out) GB10.out : Below w.heap.size w w13));clear hg hw hp_))
      go_roundg k1
      case measure=>have:=HK1.out;omega
      case rel=>exact ⟨(y203),(wrap64 (x4_1 + 1)),rs_,H',⟨by have:=HK1.out;omega⟩,⟨by (with_reducible repeat (first|apply Kd.R_alloc|apply Kd.R_drewN|apply Kd.R_drew));exact HO_3.out⟩,⟨hx_⟩⟩
     rw [if_neg c9] at H
     exact absurd H (by simp)
    rw [if_neg c7] at H
    exact absurd H (by simp)
   rw [if_neg c6] at H
   have c6b0 : decide (x4_1 < (l0.length : Int)) = false:=decide_eq_false c6
   clear c6
   obtain rfl:=Option.some.inj H
   go_wp2
   go_ret
   exact ⟨_,rt_,by (with_reducible repeat (first|apply Kd.R_alloc|apply Kd.R_drewN|apply Kd.R_drew));exact HO_3.out,hx_⟩
  rw [if_neg c3] at H
  exact absurd H (by simp)
 rw [if_neg c2] at H
 exact absurd H (by simp)

/-! ### laws_toGraph: function 6 -/
def laws_toGraph.f (k : Nat) (a0_0 : Int) (l0_1 : List (S58)) : Option (Int × (List (S51))):=(laws_toEdgeS.f k l0_1).bind fun t207=>(some (a0_0,t207))
theorem laws_toGraph.mono : ∀ a0 a1 k,LeO (laws_toGraph.f k a0 a1) (laws_toGraph.f (k + 1) a0 a1):=by
 intro a0 a1 k
 unfold laws_toGraph.f
 repeat' first|(with_reducible first|exact laws_toEdgeS.mono _ _|exact LeO.refl _|exact LeO.none _|refine LeO.ite ?_ ?_|refine LeO.bind ?_ (fun _=>?_))|exact laws_toEdgeS.mono _ _|exact LeO.none _|refine LeO.ite ?_ ?_|refine LeO.bind ?_ (fun _=>?_)
set_option maxHeartbeats 8000000 in
set_option maxRecDepth 100000 in
theorem laws_toGraph.calls (k : Nat) (a0_0 : Int) (A0_1 : Option Addr) (c0_1 : Nat) (l0_1 : List (S58)) (r1 : Int) (r2 : List (S51)) (w : World) (hr0_1 : Kd.C k58 w A0_1 l0_1.length l0_1) (hc0_1 : l0_1.length ≤ c0_1) (h : laws_toGraph.f k a0_0 l0_1 = some (r1,r2)) :
  Calls Try.prog 6 #[.agg #[.int .i64 a0_0,.slice A0_1 l0_1.length c0_1]] w fun e w'=>∃ v1_ : Value,e = .returned (.agg #[.int .i64 r1,v1_]) ∧ Kd.R k51 51 w' w.heap.size (fun _=>True) v1_ r2 ∧ Below w.heap.size w w':=by
 have hu24:=Try.underlying24
 have hu29:=Try.underlying29
 have HR0_1:=qy.mk hr0_1
 have HC0_1:=qy.mk hc0_1
 clear hr0_1 hc0_1
 have HB:=qy.mk (Below.refl w.heap.size w)
 have H : ((laws_toEdgeS.f k l0_1).bind fun t207=>(some (a0_0,t207))) = some (r1,r2):=h
 clear h
 replace H:=Option.bind_eq_some_iff.mp H
 obtain ⟨t207,A20,H⟩:=H
 replace H : (some (a0_0,t207)) = some (r1,r2):=H
 have A2:=qy.mk A20
 clear A20
 simp only [Option.some.injEq,Prod.mk.injEq] at H
 obtain ⟨rfl,rfl⟩:=H
 go_enter Try.func6,Try.ntmps6
 go_wp2_with (first|((with_reducible refine gate_dst (N:=1) rfl ?_);refine box_event ?hg (N:=1) ?hd (cs:=#[.int .i64 a0_0,.slice A0_1 l0_1.length c0_1]) (t:=24) ?hr ?_;(case hd=>rfl);(case hg=>rfl);(case hr=>first|(go_simp;done)|(go_simp;rfl));intro gb204 hg w3 hbox hb;have BK204:=qy.mk (hbox);have GW204:=qy.mk ((by rw [hg];exact (qu hx_) : w.heap.size ≤ gb204));have GE204:=qy.mk ((by rw [hg];exact (qu hx_) : w.heap.size ≤ gb204));replace HB:=hs_ HB hb;clear hb hbox hg)|((with_reducible refine gate_dst (N:=2) rfl ?_);refine box_event ?hg (N:=2) ?hd (cs:=#[.int .i64 0,.slice none 0 0]) (t:=29) ?hr ?_;(case hd=>rfl);(case hg=>rfl);(case hr=>first|(go_simp;done)|(go_simp;rfl));intro gb205 hg w4 hbox hb;have BK205:=qy.mk (hbox);have GW205:=qy.mk ((by rw [hg];exact (qu hx_) : w.heap.size ≤ gb205));have GE205:=qy.mk ((by rw [hg];exact (qu hx_) : w.heap.size ≤ gb205));have NB204_205:=qy.mk ((by rw [hg];exact nl_ BK204 : gb204 ≠ gb205));have NB205_204:=qy.mk ((by rw [hg];exact ng_ BK204 : gb205 ≠ gb204));replace BK204:=bb_ BK204 hb;replace HB:=hs_ HB hb;clear hb hbox hg)|((with_reducible refine gate_dst (N:=3) rfl ?_);refine box_event ?hg (N:=3) ?hd (cs:=#[.int .i64 0,.slice none 0 0]) (t:=29) ?hr ?_;(case hd=>rfl);(case hg=>rfl);(case hr=>first|(go_simp;done)|(go_simp;rfl));intro gb206 hg w5 hbox hb;have BK206:=qy.mk (hbox);have GW206:=qy.mk ((by rw [hg];exact (qu hx_) : w.heap.size ≤ gb206));have GE206:=qy.mk ((by rw [hg];exact (qu hx_) : w.heap.size ≤ gb206));have NB204_206:=qy.mk ((by rw [hg];exact nl_ BK204 : gb204 ≠ gb206));have NB206_204:=qy.mk ((by rw [hg];exact ng_ BK204 : gb206 ≠ gb204));replace BK204:=bb_ BK204 hb;have NB205_206:=qy.mk ((by rw [hg];exact nl_ BK205 : gb205 ≠ gb206));have NB206_205:=qy.mk ((by rw [hg];exact ng_ BK205 : gb206 ≠ gb205));replace BK205:=bb_ BK205 hb;replace HB:=hs_ HB hb;clear hb hbox hg;have hnb6:=NB204_205.out;have hnc6:=NB205_204.out;have hnb7:=NB204_206.out;have hnc7:=NB206_204.out;obtain ⟨hcz8_0,hcz8_1,hfz8_0,hfz8_1⟩:=c2f_ BK204.out;have hnb9:=NB206_205.out;have hnc9:=NB205_206.out;obtain ⟨hcz10_0,hcz10_1,hfz10_0,hfz10_1⟩:=c2f_ BK206.out)|((with_reducible refine gate_callee (f:=12) rfl ?_);refine goesL_ (some 9) rfl rfl Try.func12 (by kernel_rfl) rfl #[.slice A0_1 l0_1.length c0_1] rfl sm_ ?_;(with_reducible refine (laws_toEdgeS.calls k _ _ l0_1 t207 _ ?side1 ?side2 A2.out).mono ?_);(case side1=>exact Kd.C_below HR0_1.out hx_);(case side2=>exact HC0_1.out);rintro e w11 ⟨v208,rfl,ho0,hb⟩;refine ⟨_,rfl,?_⟩;have HO209:=qy.mk (Kd.R_lower ho0 (qu hx_));replace BK204:=qy.mk (qw (g:=gb204) (o:=.cells #[.int .i64 a0_0,.slice A0_1 l0_1.length c0_1] 24 (0,0)) (by (with_reducible repeat (first|refine qf ?_ _|refine qk ?_|refine qg ?_ _));refine blk_far ?_ NB204_206.out _;(with_reducible repeat (first|refine qf ?_ _|refine qk ?_|refine qg ?_ _));exact BK204.out) hb);replace BK205:=qy.mk (qw (g:=gb205) (o:=.cells #[.int .i64 0,.slice none 0 0] 29 (0,0)) (by (with_reducible repeat (first|refine qf ?_ _|refine qk ?_|refine qg ?_ _));refine blk_far ?_ NB205_206.out _;(with_reducible repeat (first|refine qf ?_ _|refine qk ?_|refine qg ?_ _));exact BK205.out) hb);replace BK206:=qy.mk (qw (g:=gb206) (o:=.cells #[.int .i64 a0_0,.slice none 0 0] 29 (0,0)) (by (with_reducible repeat (first|refine qf ?_ _|refine qk ?_|refine qg ?_ _));refine blk_put (cs:=#[.int .i64 0,.slice none 0 0]) ?_ 0 _ rfl;(with_reducible repeat (first|refine qf ?_ _|refine qk ?_|refine qg ?_ _));exact BK206.out) hb);replace HB:=hs_ HB hb;(try clear hb);(try clear hb2);(try clear hk);(try clear hi);(try clear ho0);obtain ⟨Ao12,co12,eo12⟩:=Kd.R_slice HO209.out;subst eo12;obtain ⟨hcz13_0,hcz13_1,hfz13_0,hfz13_1⟩:=c2f_ BK206.out;obtain ⟨hcz14_0,hcz14_1,hfz14_0,hfz14_1⟩:=c2f_ BK205.out))
 refine bodyPost_ret (results_cell_row rfl _ _ gb205 29 #[.int .i64 a0_0,.slice Ao12 t207.length co12] (0,0) _ rfl (by (with_reducible repeat (first|refine qf ?_ _|refine qk ?_|refine qg ?_ _));refine blk_put (cs:=#[.int .i64 a0_0,.slice none 0 0]) ?_ 1 _ rfl;(with_reducible repeat (first|refine qf ?_ _|refine qk ?_|refine qg ?_ _));refine blk_put (cs:=#[.int .i64 0,.slice none 0 0]) ?_ 0 _ rfl;(with_reducible repeat (first|refine qf ?_ _|refine qk ?_|refine qg ?_ _));refine blk_far ?_ NB205_206.out _;(with_reducible repeat (first|refine qf ?_ _|refine qk ?_|refine qg ?_ _));exact BK205.out) Try.underlying29 rfl (by kernel_rfl)) rfl ?_
 exact ⟨_,rt_,by (with_reducible repeat (first|apply Kd.R_alloc|apply Kd.R_drewN|apply Kd.R_drew));exact Kd.R_mono (Kd.R_far (p:=⟨gb205,1,none⟩) (Kd.R_far (p:=⟨gb205,0,none⟩) (Kd.R_far (p:=⟨gb206,1,none⟩) (Kd.R_types (Kd.R_types HO209.out BK206.out (by decide)) BK205.out (by decide)) (fun _ hk=>hk.1.2) (.slice Ao12 t207.length co12)) (fun _ hk=>hk.2) (.int .i64 a0_0)) (fun _ hk=>hk.2) (.slice Ao12 t207.length co12)) (fun _ hk=>trivial),hx_⟩

/-! ### impl_in: function 22 -/
def impl_in.f (a0 : Int) (a1 : Int) (a2 : Int) : Option (Bool):=if a0 ≥ a1 then (some (decide (a0 ≤ a2))) else (some false)
set_option maxHeartbeats 8000000 in
set_option maxRecDepth 100000 in
theorem impl_in.calls (a0 : Int) (a1 : Int) (a2 : Int) (r : Bool) (w : World) (h : impl_in.f a0 a1 a2 = some r) :
  Calls Try.prog 22 #[.int .i64 a0,.int .i64 a1,.int .i64 a2] w fun e w'=>e = .returned (.bool r) ∧ Drawn0 w w':=by
 have H : (if a0 ≥ a1 then (some (decide (a0 ≤ a2))) else (some false)) = some r:=h
 clear h
 by_cases c4 : a0 ≥ a1
 ·rw [if_pos c4] at H
  have c4b0 : decide (a1 ≤ a0) = true:=decide_eq_true c4
  clear c4
  obtain rfl:=Option.some.inj H
  go_enter Try.func22,Try.ntmps22
  go_wp2
  go_ret
  exact ⟨by first|rfl|(simp;done)|(simp [*];done),by repeat (first|exact Drawn0.refl _|apply Drawn0.step)⟩
 rw [if_neg c4] at H
 have c4b0 : decide (a1 ≤ a0) = false:=decide_eq_false c4
 clear c4
 obtain rfl:=Option.some.inj H
 go_enter Try.func22,Try.ntmps22
 go_wp2
 go_ret
 exact ⟨by first|rfl|(simp;done)|(simp [*];done),by repeat (first|exact Drawn0.refl _|apply Drawn0.step)⟩

end Go.Proofs.Ytnffimpoekjkpaa.QFnExactRounds
