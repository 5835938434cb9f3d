import Derived.Test.YtnffimpoekjkpaaGreatZFnExactSolvex0
set_option linter.all false
namespace Go.Proofs.YtnffimpoekjkpaaGreat.QFnExactSolve
open Go.RowKit Go.Proofs.YtnffimpoekjkpaaGreatW.PrintWords Go.Proofs.YtnffimpoekjkpaaGreatW.PrintLast Go.Proofs.YtnffimpoekjkpaaGreatW.PrintMore
attribute [local go_sem] Od' Pd' Xd' Yd' Jd' Kd' Qd' Rd'
set_option maxHeartbeats 8000000
set_option maxRecDepth 100000
def spec_l10Least.f (a0 : Int) (a1 : Int) : Option (Int):=if a0 < 0 then (some a1) else (if a1 < a0 then (some a1) else (some a0))
theorem spec_l10Least.calls (a0 : Int) (a1 : Int) (r : Int) (w : World) (h : spec_l10Least.f a0 a1 = some r) :
  Calls Tryz.prog 100 #[.int .i64 a0,.int .i64 a1] w fun e w'=>e = .returned (.int .i64 r) ∧ re' w w':=by
 have H : (if a0 < 0 then (some a1) else (if a1 < a0 then (some a1) else (some a0))) = some r:=h
 clear h
 by_cases c3 : a0 < 0
 ·rw [if_pos c3] at H
  have c3b0 : decide (a0 < 0) = true:=decide_eq_true c3
  clear c3
  obtain rfl:=Option.some.inj H
  go_enter Tryz.func100,Tryz.ntmps100
  go_wp2
  go_ret
  exact ⟨wa',ma'⟩
 rw [if_neg c3] at H
 have c3b0 : decide (a0 < 0) = false:=decide_eq_false c3
 clear c3
 by_cases c4 : a1 < a0
 ·rw [if_pos c4] at H
  have c4b0 : decide (a1 < a0) = true:=decide_eq_true c4
  clear c4
  obtain rfl:=Option.some.inj H
  go_enter Tryz.func100,Tryz.ntmps100
  go_wp2
  go_ret
  exact ⟨wa',ma'⟩
 rw [if_neg c4] at H
 have c4b0 : decide (a1 < a0) = false:=decide_eq_false c4
 clear c4
 obtain rfl:=Option.some.inj H
 go_enter Tryz.func100,Tryz.ntmps100
 go_wp2
 go_ret
 exact ⟨wa',ma'⟩
def spec_l03In.l0 : Nat → List Int → Int → Int → Option (Bool)
 | 0,_,_,_=>none
 | k + 1,x0,x1,x5=>if x5 < (x0.length : Int) then (if 0 ≤ x5 then (if (rd x0 x5) = x1 then (some true) else (spec_l03In.l0 k x0 x1 (wrap64 (x5 + 1)))) else (none)) else (some false)
def spec_l03In.f (k : Nat) (l0 : List Int) (a1 : Int) : Option (Bool):=spec_l03In.l0 k l0 a1 0
theorem spec_l03In.calls (k : Nat) (A0 : Option Addr) (c0 : Nat) (l0 : List Int) (a1 : Int) (r : Bool) (w : World) (hr0 : Kd.C (Kd.int .i64) w A0 l0.length l0) (hc0 : l0.length ≤ c0) (h : spec_l03In.f k l0 a1 = some r) :
  Calls Tryz.prog 80 #[.slice A0 l0.length c0,.int .i64 a1] w fun e w'=>e = .returned (.bool r) ∧ re' w w':=by
 have HR0:=qz.mk hr0
 have HC0:=qz.mk hc0
 clear hr0 hc0
 have H : (spec_l03In.l0 k l0 a1 0) = some r:=h
 clear h
 have H':=qz.mk H
 clear H
 go_enter Tryz.func80,Tryz.ntmps80
 go_wp2
 go_loopg [5] k (fun kq v5 w'=>∃ (x5_1 : Int),v5 = .int .i64 x5_1 ∧ qz (spec_l03In.l0 kq l0 a1 x5_1 = some r) ∧ qz (kq ≤ k) ∧ re' w w')
 case atStart=>exact ⟨(0),rs_,H',⟨Nat.le_refl _⟩,ma'⟩
 clear H'
 try clear p2
 obtain ⟨x5_1,rfl,HA,HK1,⟨m1,rfl⟩⟩:=hrel
 obtain _|k1:=gk
 ·exact absurd HA.o (by simp [spec_l03In.l0])
 have H:=HA.o
 clear HA
 simp only [spec_l03In.l0] at H
 by_cases c3 : x5_1 < (l0.length : Int)
 ·rw [if_pos c3] at H
  have c3b0 : decide (x5_1 < (l0.length : Int)) = true:=decide_eq_true c3
  clear c3
  by_cases c4 : 0 ≤ x5_1
  ·rw [if_pos c4] at H
   have c4b0 : decide (0 ≤ x5_1) = true:=decide_eq_true c4
   clear c4
   by_cases c5 : (rd l0 x5_1) = a1
   ·rw [if_pos c5] at H
    have c5b0 : ((rd l0 x5_1) == a1) = true:=beq_iff_eq.mpr c5
    have c5b1 : ((rd l0 x5_1) != a1) = false:=bne_eq_false_iff_eq.mpr c5
    clear c5
    obtain rfl:=Option.some.inj H
    have p171 : 0 ≤ (x5_1 : Int):=dt_
    have q171 : x5_1 < (l0.length : Int):=dt_
    obtain ⟨ad171,e171,hx171_0⟩:=Kd.at_int HR0.o x5_1 p171 q171
    cases e171
    replace p171:=eq_true p171
    replace q171:=eq_true q171
    go_wp2
    go_ret
    exact ⟨wa',ma'⟩
   rw [if_neg c5] at H
   have c5b0 : ((rd l0 x5_1) == a1) = false:=beq_eq_false_iff_ne.mpr c5
   have c5b1 : ((rd l0 x5_1) != a1) = true:=bne_iff_ne.mpr c5
   have H':=qz.mk H
   clear H
   have p171 : 0 ≤ (x5_1 : Int):=dt_
   have q171 : x5_1 < (l0.length : Int):=dt_
   obtain ⟨ad171,e171,hx171_0⟩:=Kd.at_int HR0.o x5_1 p171 q171
   cases e171
   replace p171:=eq_true p171
   replace q171:=eq_true q171
   go_wp2
   go_roundg k1
   case measure=>have:=HK1.o;omega
   case rel=>exact ⟨(wrap64 (x5_1 + 1)),rs_,H',⟨vb'⟩,ma'⟩
  rw [if_neg c4] at H
  exact absurd H ia'
 rw [if_neg c3] at H
 have c3b0 : decide (x5_1 < (l0.length : Int)) = false:=decide_eq_false c3
 clear c3
 obtain rfl:=Option.some.inj H
 go_wp2
 go_ret
 exact ⟨wa',ma'⟩
def spec_l08Place.l0 : Nat → List Int → Int → Int → Option (Int)
 | 0,_,_,_=>none
 | k + 1,x0,x1,x5=>if x5 < (x0.length : Int) then (if 0 ≤ x5 then (if (rd x0 x5) = x1 then (some x5) else (spec_l08Place.l0 k x0 x1 (wrap64 (x5 + 1)))) else (none)) else (some (-1))
def spec_l08Place.f (k : Nat) (l0 : List Int) (a1 : Int) : Option (Int):=spec_l08Place.l0 k l0 a1 0
theorem spec_l08Place.calls (k : Nat) (A0 : Option Addr) (c0 : Nat) (l0 : List Int) (a1 : Int) (r : Int) (w : World) (hr0 : Kd.C (Kd.int .i64) w A0 l0.length l0) (hc0 : l0.length ≤ c0) (h : spec_l08Place.f k l0 a1 = some r) :
  Calls Tryz.prog 81 #[.slice A0 l0.length c0,.int .i64 a1] w fun e w'=>e = .returned (.int .i64 r) ∧ re' w w':=by
 have HR0:=qz.mk hr0
 have HC0:=qz.mk hc0
 clear hr0 hc0
 have H : (spec_l08Place.l0 k l0 a1 0) = some r:=h
 clear h
 have H':=qz.mk H
 clear H
 go_enter Tryz.func81,Tryz.ntmps81
 go_wp2
 go_loopg [5] k (fun kq v5 w'=>∃ (x5_1 : Int),v5 = .int .i64 x5_1 ∧ qz (spec_l08Place.l0 kq l0 a1 x5_1 = some r) ∧ qz (kq ≤ k) ∧ re' w w')
 case atStart=>exact ⟨(0),rs_,H',⟨Nat.le_refl _⟩,ma'⟩
 clear H'
 try clear p2
 obtain ⟨x5_1,rfl,HA,HK1,⟨m1,rfl⟩⟩:=hrel
 obtain _|k1:=gk
 ·exact absurd HA.o (by simp [spec_l08Place.l0])
 have H:=HA.o
 clear HA
 simp only [spec_l08Place.l0] at H
 by_cases c3 : x5_1 < (l0.length : Int)
 ·rw [if_pos c3] at H
  have c3b0 : decide (x5_1 < (l0.length : Int)) = true:=decide_eq_true c3
  clear c3
  by_cases c4 : 0 ≤ x5_1
  ·rw [if_pos c4] at H
   have c4b0 : decide (0 ≤ x5_1) = true:=decide_eq_true c4
   clear c4
   by_cases c5 : (rd l0 x5_1) = a1
   ·rw [if_pos c5] at H
    have c5b0 : ((rd l0 x5_1) == a1) = true:=beq_iff_eq.mpr c5
    have c5b1 : ((rd l0 x5_1) != a1) = false:=bne_eq_false_iff_eq.mpr c5
    clear c5
    obtain rfl:=Option.some.inj H
    have p172 : 0 ≤ (x5_1 : Int):=dt_
    have q172 : x5_1 < (l0.length : Int):=dt_
    obtain ⟨ad172,e172,hx172_0⟩:=Kd.at_int HR0.o x5_1 p172 q172
    cases e172
    replace p172:=eq_true p172
    replace q172:=eq_true q172
    go_wp2
    go_ret
    exact ⟨wa',ma'⟩
   rw [if_neg c5] at H
   have c5b0 : ((rd l0 x5_1) == a1) = false:=beq_eq_false_iff_ne.mpr c5
   have c5b1 : ((rd l0 x5_1) != a1) = true:=bne_iff_ne.mpr c5
   have H':=qz.mk H
   clear H
   have p172 : 0 ≤ (x5_1 : Int):=dt_
   have q172 : x5_1 < (l0.length : Int):=dt_
   obtain ⟨ad172,e172,hx172_0⟩:=Kd.at_int HR0.o x5_1 p172 q172
   cases e172
   replace p172:=eq_true p172
   replace q172:=eq_true q172
   go_wp2
   go_roundg k1
   case measure=>have:=HK1.o;omega
   case rel=>exact ⟨(wrap64 (x5_1 + 1)),rs_,H',⟨vb'⟩,ma'⟩
  rw [if_neg c4] at H
  exact absurd H ia'
 rw [if_neg c3] at H
 have c3b0 : decide (x5_1 < (l0.length : Int)) = false:=decide_eq_false c3
 clear c3
 obtain rfl:=Option.some.inj H
 go_wp2
 go_ret
 exact ⟨wa',ma'⟩
mutual
def spec_l10Ahead.l0 : Nat → List Int → List Int → Int → Option (Bool)
 | 0,_,_,_=>none
 | k + 1,x0,x1,x5=>if x5 < (x0.length : Int) then (spec_l10Ahead.j1 k x0 x1 x5 (decide (x5 < (x1.length : Int)))) else (spec_l10Ahead.j1 k x0 x1 x5 false)
def spec_l10Ahead.j1 : Nat → List Int → List Int → Int → Bool → Option (Bool)
 | 0,_,_,_,_=>none
 | k + 1,x0,x1,x5,x15=>if x15 = true then (if 0 ≤ x5 then (if x5 < (x0.length : Int) then (if x5 < (x1.length : Int) then (if (rd x0 x5) = (rd x1 x5) then (spec_l10Ahead.l0 k x0 x1 (wrap64 (x5 + 1))) else (some (decide ((rd x0 x5) < (rd x1 x5))))) else (none)) else (none)) else (none)) else (some (decide ((x0.length : Int) < (x1.length : Int))))
end
def spec_l10Ahead.f (k : Nat) (l0 : List Int) (l1 : List Int) : Option (Bool):=spec_l10Ahead.l0 k l0 l1 0
theorem spec_l10Ahead.calls (k : Nat) (A0 : Option Addr) (c0 : Nat) (l0 : List Int) (A1 : Option Addr) (c1 : Nat) (l1 : List Int) (r : Bool) (w : World) (hr0 : Kd.C (Kd.int .i64) w A0 l0.length l0) (hc0 : l0.length ≤ c0) (hr1 : Kd.C (Kd.int .i64) w A1 l1.length l1) (hc1 : l1.length ≤ c1) (h : spec_l10Ahead.f k l0 l1 = some r) :
  Calls Tryz.prog 42 #[.slice A0 l0.length c0,.slice A1 l1.length c1] w fun e w'=>e = .returned (.bool r) ∧ re' w w':=by
 have HR0:=qz.mk hr0
 have HC0:=qz.mk hc0
 clear hr0 hc0
 have HR1:=qz.mk hr1
 have HC1:=qz.mk hc1
 clear hr1 hc1
 have H : (spec_l10Ahead.l0 k l0 l1 0) = some r:=h
 clear h
 have H':=qz.mk H
 clear H
 go_enter Tryz.func42,Tryz.ntmps42
 go_wp2
 repeat (go_quiet (fail);try go_wp2)
 go_loopg [5] k (fun kq v5 w'=>∃ (x5_1 : Int),v5 = .int .i64 x5_1 ∧ qz (spec_l10Ahead.l0 kq l0 l1 x5_1 = some r) ∧ qz (kq ≤ k) ∧ re' w w')
 case atStart=>exact ⟨(0),rs_,H',⟨Nat.le_refl _⟩,ma'⟩
 clear H'
 try clear c1
 try clear p2
 obtain ⟨x5_1,rfl,HA,HK1,⟨m1,rfl⟩⟩:=hrel
 obtain _|k1:=gk
 ·exact absurd HA.o (by simp [spec_l10Ahead.l0])
 have H:=HA.o
 clear HA
 simp only [spec_l10Ahead.l0] at H
 have HC3:=qz.mk H
 clear H
 go_upto_region 2 with (fail)
 repeat (go_quiet (fail);go_upto_region 2 with (fail))
 go_cut [15] (fun v15 wc=>∃ (kq : Nat) (x15_2 : Bool),v15 = .bool x15_2 ∧ qz (spec_l10Ahead.j1 kq l0 l1 x5_1 x15_2 = some r) ∧ qz (kq ≤ k1) ∧ re' w wc)
 case first =>
  have H:=HC3.o
  clear HC3
  by_cases c4 : x5_1 < (l0.length : Int)
  ·rw [if_pos c4] at H
   have c4b0 : decide (x5_1 < (l0.length : Int)) = true:=decide_eq_true c4
   clear c4
   (first|rw [c4b0]|(simp only [Bd',Cd'];rw [c4b0])|skip)
   have H':=qz.mk H
   clear H
   go_wp2
   repeat (go_quiet (fail);try go_wp2)
   go_meet
   case rel=>exact ⟨_,(decide (x5_1 < (l1.length : Int))),rs_,H',⟨Xb'⟩,ma'⟩
  rw [if_neg c4] at H
  have c4b0 : decide (x5_1 < (l0.length : Int)) = false:=decide_eq_false c4
  clear c4
  (first|rw [c4b0]|(simp only [Bd',Cd'];rw [c4b0])|skip)
  have H':=qz.mk H
  clear H
  go_wp2
  repeat (go_quiet (fail);try go_wp2)
  go_meet
  case rel=>exact ⟨_,(false),rs_,H',⟨Xb'⟩,ma'⟩
 clear HC3
 try clear c1
 try clear p2
 try clear c4
 try clear c4b0
 try clear p2
 obtain ⟨kq,x15_2,rfl,HA,HJ2,⟨mc2,rfl⟩⟩:=hcut
 obtain _|kj2:=kq
 ·exact absurd HA.o (by simp [spec_l10Ahead.j1])
 have H:=HA.o
 clear HA
 simp only [spec_l10Ahead.j1] at H
 by_cases c5 : x15_2 = true
 ·subst c5
  have H1 : (if 0 ≤ x5_1 then (if x5_1 < (l0.length : Int) then (if x5_1 < (l1.length : Int) then (if (rd l0 x5_1) = (rd l1 x5_1) then (spec_l10Ahead.l0 kj2 l0 l1 (wrap64 (x5_1 + 1))) else (some (decide ((rd l0 x5_1) < (rd l1 x5_1))))) else (none)) else (none)) else (none)) = some r:=by rw [if_pos rfl] at H;exact H
  clear H
  have H:=H1
  clear H1
  by_cases c6 : 0 ≤ x5_1
  ·rw [if_pos c6] at H
   have c6b0 : decide (0 ≤ x5_1) = true:=decide_eq_true c6
   clear c6
   by_cases c7 : x5_1 < (l0.length : Int)
   ·rw [if_pos c7] at H
    have c7b0 : decide (x5_1 < (l0.length : Int)) = true:=decide_eq_true c7
    clear c7
    by_cases c8 : x5_1 < (l1.length : Int)
    ·rw [if_pos c8] at H
     have c8b0 : decide (x5_1 < (l1.length : Int)) = true:=decide_eq_true c8
     clear c8
     by_cases c9 : (rd l0 x5_1) = (rd l1 x5_1)
     ·rw [if_pos c9] at H
      have c9b0 : ((rd l0 x5_1) == (rd l1 x5_1)) = true:=beq_iff_eq.mpr c9
      have c9b1 : ((rd l0 x5_1) != (rd l1 x5_1)) = false:=bne_eq_false_iff_eq.mpr c9
      clear c9
      have H':=qz.mk H
      clear H
      have p189 : 0 ≤ (x5_1 : Int):=dt_
      have q189 : x5_1 < (l0.length : Int):=dt_
      obtain ⟨ad189,e189,hx189_0⟩:=Kd.at_int HR0.o x5_1 p189 q189
      cases e189
      replace p189:=eq_true p189
      replace q189:=eq_true q189
      have p190 : 0 ≤ (x5_1 : Int):=dt_
      have q190 : x5_1 < (l1.length : Int):=dt_
      obtain ⟨ad190,e190,hx190_0⟩:=Kd.at_int HR1.o x5_1 p190 q190
      cases e190
      replace p190:=eq_true p190
      replace q190:=eq_true q190
      go_wp2
      repeat (go_quiet (fail);try go_wp2)
      go_roundg kj2
      case measure=>have:=HK1.o;have:=HJ2.o;omega
      case rel=>exact ⟨(wrap64 (x5_1 + 1)),rs_,H',⟨by have:=HK1.o;have:=HJ2.o;omega⟩,ma'⟩
     rw [if_neg c9] at H
     have c9b0 : ((rd l0 x5_1) == (rd l1 x5_1)) = false:=beq_eq_false_iff_ne.mpr c9
     have c9b1 : ((rd l0 x5_1) != (rd l1 x5_1)) = true:=bne_iff_ne.mpr c9
     obtain rfl:=Option.some.inj H
     have p189 : 0 ≤ (x5_1 : Int):=dt_
     have q189 : x5_1 < (l0.length : Int):=dt_
     obtain ⟨ad189,e189,hx189_0⟩:=Kd.at_int HR0.o x5_1 p189 q189
     cases e189
     replace p189:=eq_true p189
     replace q189:=eq_true q189
     have p190 : 0 ≤ (x5_1 : Int):=dt_
     have q190 : x5_1 < (l1.length : Int):=dt_
     obtain ⟨ad190,e190,hx190_0⟩:=Kd.at_int HR1.o x5_1 p190 q190
     cases e190
     replace p190:=eq_true p190
     replace q190:=eq_true q190
     have p191 : 0 ≤ (x5_1 : Int):=dt_
     have q191 : x5_1 < (l0.length : Int):=dt_
     obtain ⟨ad191,e191,hx191_0⟩:=Kd.at_int HR0.o x5_1 p191 q191
     obtain rfl : ad189 = ad191:=(by injection e191)
     replace p191:=eq_true p191
     replace q191:=eq_true q191
     have p192 : 0 ≤ (x5_1 : Int):=dt_
     have q192 : x5_1 < (l1.length : Int):=dt_
     obtain ⟨ad192,e192,hx192_0⟩:=Kd.at_int HR1.o x5_1 p192 q192
     obtain rfl : ad190 = ad192:=(by injection e192)
     replace p192:=eq_true p192
     replace q192:=eq_true q192
     go_wp2
     repeat (go_quiet (fail);try go_wp2)
     go_ret
     exact ⟨wa',ma'⟩
    rw [if_neg c8] at H
    exact absurd H ia'
   rw [if_neg c7] at H
   exact absurd H ia'
  rw [if_neg c6] at H
  exact absurd H ia'
 replace c5:=Bool.eq_false_iff.mpr c5
 subst c5
 have H1 : (some (decide ((l0.length : Int) < (l1.length : Int)))) = some r:=by rw [if_neg (show ¬ (false = true) by decide)] at H;exact H
 clear H
 have H:=H1
 clear H1
 obtain rfl:=Option.some.inj H
 go_wp2
 repeat (go_quiet (fail);try go_wp2)
 go_ret
 exact ⟨wa',ma'⟩
def laws_toEdge.f (a0_0 : Int) (a0_1 : Int) (a0_2 : Int) (a0_3 : Int) (a0_4 : Int) : Option (Int × Int × Int × Int × Int):=some (a0_0,a0_1,a0_2,a0_3,a0_4)
theorem laws_toEdge.calls (a0_0 : Int) (a0_1 : Int) (a0_2 : Int) (a0_3 : Int) (a0_4 : Int) (r1 : Int) (r2 : Int) (r3 : Int) (r4 : Int) (r5 : Int) (w : World) (h : laws_toEdge.f a0_0 a0_1 a0_2 a0_3 a0_4 = some (r1,r2,r3,r4,r5)) :
  Calls Tryz.prog 44 #[.agg #[.int .i64 a0_0,.int .i64 a0_1,.int .i64 a0_2,.int .i64 a0_3,.int .i64 a0_4]] w fun e w'=>e = .returned (.agg #[.int .i64 r1,.int .i64 r2,.int .i64 r3,.int .i64 r4,.int .i64 r5]) ∧ Below w.heap.size w w':=by
 have hu84:=Tryz.underlying84
 have hu73:=Tryz.underlying73
 have HB:=qz.mk (Below.refl w.heap.size w)
 have H : (some (a0_0,a0_1,a0_2,a0_3,a0_4)) = some (r1,r2,r3,r4,r5):=h
 clear h
 simp only [Option.some.injEq,Prod.mk.injEq] at H
 obtain ⟨rfl,rfl,rfl,rfl,rfl⟩:=H
 go_enter Tryz.func44,Tryz.ntmps44
 go_wp2_with (first|((with_reducible refine Af' (N:=1) rfl ?_);refine yf' ?hg (N:=1) ?hd (cs:=#[.int .i64 a0_0,.int .i64 a0_1,.int .i64 a0_2,.int .i64 a0_3,.int .i64 a0_4]) (t:=84) ?hr ?_;(case hd=>rfl);(case hg=>rfl);(case hr=>first|(go_simp;done)|(go_simp;rfl));intro gb259 hg w2 hbox hb;have BK259:=qz.mk (hbox);have GW259:=qz.mk ((by rw [hg];exact (qv hx_) : w.heap.size ≤ gb259));have GE259:=qz.mk ((by rw [hg];exact (qv hx_) : w.heap.size ≤ gb259));replace HB:=hs_ HB hb;clear hb hbox hg)|((with_reducible refine Af' (N:=2) rfl ?_);refine yf' ?hg (N:=2) ?hd (cs:=#[.int .i64 0,.int .i64 0,.int .i64 0,.int .i64 0,.int .i64 0]) (t:=73) ?hr ?_;(case hd=>rfl);(case hg=>rfl);(case hr=>first|(go_simp;done)|(go_simp;rfl));intro gb260 hg w3 hbox hb;have BK260:=qz.mk (hbox);have GW260:=qz.mk ((by rw [hg];exact (qv hx_) : w.heap.size ≤ gb260));have GE260:=qz.mk ((by rw [hg];exact (qv hx_) : w.heap.size ≤ gb260));have NB259_260:=qz.mk ((by rw [hg];exact nl_ BK259 : gb259 ≠ gb260));have NB260_259:=qz.mk ((by rw [hg];exact ng_ BK259 : gb260 ≠ gb259));replace BK259:=bb_ BK259 hb;replace HB:=hs_ HB hb;clear hb hbox hg)|((with_reducible refine Af' (N:=3) rfl ?_);refine yf' ?hg (N:=3) ?hd (cs:=#[.int .i64 0,.int .i64 0,.int .i64 0,.int .i64 0,.int .i64 0]) (t:=73) ?hr ?_;(case hd=>rfl);(case hg=>rfl);(case hr=>first|(go_simp;done)|(go_simp;rfl));intro gb261 hg w4 hbox hb;have BK261:=qz.mk (hbox);have GW261:=qz.mk ((by rw [hg];exact (qv hx_) : w.heap.size ≤ gb261));have GE261:=qz.mk ((by rw [hg];exact (qv hx_) : w.heap.size ≤ gb261));have NB259_261:=qz.mk ((by rw [hg];exact nl_ BK259 : gb259 ≠ gb261));have NB261_259:=qz.mk ((by rw [hg];exact ng_ BK259 : gb261 ≠ gb259));replace BK259:=bb_ BK259 hb;have NB260_261:=qz.mk ((by rw [hg];exact nl_ BK260 : gb260 ≠ gb261));have NB261_260:=qz.mk ((by rw [hg];exact ng_ BK260 : gb261 ≠ gb260));replace BK260:=bb_ BK260 hb;replace HB:=hs_ HB hb;clear hb hbox hg;have hnb5:=NB259_260.o;have hnc5:=NB260_259.o;have hnb6:=NB259_261.o;have hnc6:=NB261_259.o;obtain ⟨hcz7_0,hcz7_1,hcz7_2,hcz7_3,hcz7_4,hfz7_0,hfz7_1,hfz7_2,hfz7_3,hfz7_4⟩:=c5f_ BK259.o;have hnb8:=NB261_260.o;have hnc8:=NB260_261.o;obtain ⟨hcz9_0,hcz9_1,hcz9_2,hcz9_3,hcz9_4,hfz9_0,hfz9_1,hfz9_2,hfz9_3,hfz9_4⟩:=c5f_ BK261.o;obtain ⟨hcz10_0,hcz10_1,hcz10_2,hcz10_3,hcz10_4,hfz10_0,hfz10_1,hfz10_2,hfz10_3,hfz10_4⟩:=c5f_ BK260.o))
 refine bodyPost_ret (results_cell_row rfl _ _ gb260 73 #[.int .i64 a0_0,.int .i64 a0_1,.int .i64 a0_2,.int .i64 a0_3,.int .i64 a0_4] (0,0) _ rfl (by (with_reducible repeat (first|refine qf ?_ _|refine qk ?_|refine qg ?_ _));refine Pg' (cs:=#[.int .i64 a0_0,.int .i64 a0_1,.int .i64 a0_2,.int .i64 a0_3,.int .i64 0]) ?_ 4 _ rfl;(with_reducible repeat (first|refine qf ?_ _|refine qk ?_|refine qg ?_ _));refine Pg' (cs:=#[.int .i64 a0_0,.int .i64 a0_1,.int .i64 a0_2,.int .i64 0,.int .i64 0]) ?_ 3 _ rfl;(with_reducible repeat (first|refine qf ?_ _|refine qk ?_|refine qg ?_ _));refine Pg' (cs:=#[.int .i64 a0_0,.int .i64 a0_1,.int .i64 0,.int .i64 0,.int .i64 0]) ?_ 2 _ rfl;(with_reducible repeat (first|refine qf ?_ _|refine qk ?_|refine qg ?_ _));refine Pg' (cs:=#[.int .i64 a0_0,.int .i64 0,.int .i64 0,.int .i64 0,.int .i64 0]) ?_ 1 _ rfl;(with_reducible repeat (first|refine qf ?_ _|refine qk ?_|refine qg ?_ _));refine Pg' (cs:=#[.int .i64 0,.int .i64 0,.int .i64 0,.int .i64 0,.int .i64 0]) ?_ 0 _ rfl;(with_reducible repeat (first|refine qf ?_ _|refine qk ?_|refine qg ?_ _));refine Og' ?_ NB260_261.o _;(with_reducible repeat (first|refine qf ?_ _|refine qk ?_|refine qg ?_ _));refine Og' ?_ NB260_261.o _;(with_reducible repeat (first|refine qf ?_ _|refine qk ?_|refine qg ?_ _));refine Og' ?_ NB260_261.o _;(with_reducible repeat (first|refine qf ?_ _|refine qk ?_|refine qg ?_ _));refine Og' ?_ NB260_261.o _;(with_reducible repeat (first|refine qf ?_ _|refine qk ?_|refine qg ?_ _));refine Og' ?_ NB260_261.o _;(with_reducible repeat (first|refine qf ?_ _|refine qk ?_|refine qg ?_ _));exact BK260.o) Tryz.underlying73 rfl da') rfl ?_
 exact ⟨rt_,hx_⟩
def laws_toEdgeS.l0 : Nat → List (S84) → List (S73) → Int → Option ((List (S73)))
 | 0,_,_,_=>none
 | k + 1,x0,x3,x4=>if x4 < (x0.length : Int) then (if 0 ≤ x4 then ((laws_toEdge.f ((Re' x0 x4).f0) ((Re' x0 x4).f1) ((Re' x0 x4).f2) ((Re' x0 x4).f3) ((Re' x0 x4).f4)).bind fun bt266=>(if x4 < (x3.length : Int) then (laws_toEdgeS.l0 k x0 (x3.set (x4 : Int).toNat (⟨bt266.1,bt266.2.1,bt266.2.2.1,bt266.2.2.2.1,bt266.2.2.2.2⟩ : S73)) (wrap64 (x4 + 1))) else (none))) else (none)) else (some x3)
def laws_toEdgeS.f (k : Nat) (l0 : List (S84)) : Option ((List (S73))):=if 0 ≤ (l0.length : Int) then (if ((l0.length : Int) : Int).toNat ≤ 7036874417766 then (laws_toEdgeS.l0 k l0 (List.replicate ((l0.length : Int) : Int).toNat z73) 0) else (none)) else (none)
theorem laws_toEdgeS.calls (k : Nat) (A0 : Option Addr) (c0 : Nat) (l0 : List (S84)) (r : List (S73)) (w : World) (hr0 : Kd.C k84 w A0 l0.length l0) (hc0 : l0.length ≤ c0) (h : laws_toEdgeS.f k l0 = some r) :
  Calls Tryz.prog 22 #[.slice A0 l0.length c0] w fun e w'=>∃ v0_ : Value,e = .returned (v0_) ∧ Kd.R k73 73 w' w.heap.size (fun _=>True) v0_ r ∧ Below w.heap.size w w':=by
 have hu84:=Tryz.underlying84
 have hu73:=Tryz.underlying73
 have HR0:=qz.mk hr0
 have HC0:=qz.mk hc0
 clear hr0 hc0
 have HB:=qz.mk (Below.refl w.heap.size w)
 have H : (if 0 ≤ (l0.length : Int) then (if ((l0.length : Int) : Int).toNat ≤ 7036874417766 then (laws_toEdgeS.l0 k l0 (List.replicate ((l0.length : Int) : Int).toNat z73) 0) else (none)) else (none)) = some r:=h
 clear h
 by_cases c2 : 0 ≤ (l0.length : Int)
 ·rw [if_pos c2] at H
  have c2b0:=eq_true c2
  have c2b1 : decide (0 ≤ (l0.length : Int)) = true:=decide_eq_true c2
  clear c2
  by_cases c3 : ((l0.length : Int) : Int).toNat ≤ 7036874417766
  ·rw [if_pos c3] at H
   have c3b0:=eq_true c3
   have c3b1 : decide (((l0.length : Int) : Int).toNat ≤ 7036874417766) = true:=decide_eq_true c3
   clear c3
   obtain ⟨y262,hy262⟩ : ∃ y_ : List (S73),y_ = (List.replicate ((l0.length : Int) : Int).toNat z73):=⟨_,rfl⟩
   replace H : (laws_toEdgeS.l0 k l0 y262 0) = some r:=by first|(rw [hy262];with_reducible exact H)|(have H2_:=(Option.bind_some _ _).symm.trans H;rw [hy262];with_reducible exact H2_)|(have H2_:=(Option.bind_some _ _).symm.trans H;with_reducible exact H2_)|with_reducible exact H|(rw [hy262];exact H)|exact H
   have Ny262:=qz.mk hy262
   clear hy262
   have H':=qz.mk H
   clear H
   go_enter Tryz.func22,Tryz.ntmps22
   go_wp2_with (first|((with_reducible refine Af' (N:=7) rfl ?_);refine Kd.R_make k73 _ 73 rfl (N:=7) rfl 33 _ _ rfl (l0.length : Int) rfl rfl Tryz.underlying33 (.agg #[(.int .i64 0),(.int .i64 0),(.int .i64 0),(.int .i64 0),(.int .i64 0)]) 40 info73 rfl ba' aa' z73 (ok:=fun _=>True) (okp:=fun _=>True) (nl' _ _ _ z73 ) (fun _ hk=>hk) trivial (dt_) (Nat.le_trans (Nat.mul_le_mul_right _ (dt_ : (l0.length : Int).toNat ≤ 7036874417766)) aa') (Below.refl _ _) (Nat.le_refl _) ?_;intro v263 w4 ho5 hb hg_ hnew_;clear hg_ hnew_;(first|rw [← Ny262.o] at ho5|(simp only [Int.reduceToNat] at ho5;rw [← Ny262.o] at ho5));have HO264:=qz.mk (Kd.R_lower ho5 (qv hx_));replace HB:=hs_ HB hb;clear hb ho5))
   go_loopg [4] k (fun kq v4 w'=>∃ (x3_1 : List (S73)) (x4_1 : Int),v4 = .int .i64 x4_1 ∧ qz (laws_toEdgeS.l0 kq l0 x3_1 x4_1 = some r) ∧ qz (kq ≤ k) ∧ qz (Kd.R k73 73 w' w.heap.size (fun _=>True) v263 x3_1) ∧ qz (Below w.heap.size w w'))
   case atStart=>exact ⟨(y262),(0),rs_,H',⟨Nat.le_refl _⟩,⟨by (with_reducible repeat (first|apply Kd.R_alloc|apply Kd.R_drewN|apply Kd.R_drew));exact HO264.o⟩,⟨hx_⟩⟩
   clear H'
   try clear c2
   try clear c2b0
   try clear c2b1
   try clear p2
   try clear c3
   try clear c3b0
   try clear c3b1
   obtain ⟨x3_1,x4_1,rfl,HA,HK1,HO_3,HB⟩:=hrel
   obtain _|k1:=gk
   ·exact absurd HA.o (by simp [laws_toEdgeS.l0])
   have H:=HA.o
   clear HA
   simp only [laws_toEdgeS.l0] at H
   by_cases c6 : x4_1 < (l0.length : Int)
   ·rw [if_pos c6] at H
    have c6b0 : decide (x4_1 < (l0.length : Int)) = true:=decide_eq_true c6
    clear c6
    by_cases c7 : 0 ≤ x4_1
    ·rw [if_pos c7] at H
     have c7b0 : decide (0 ≤ x4_1) = true:=decide_eq_true c7
     clear c7
     replace H:=Option.bind_eq_some_iff.mp H
     obtain ⟨⟨t266,t267,t268,t269,t270⟩,A80,H⟩:=H
     replace H : (if x4_1 < (x3_1.length : Int) then (laws_toEdgeS.l0 k1 l0 (x3_1.set (x4_1 : Int).toNat (⟨t266,t267,t268,t269,t270⟩ : S73)) (wrap64 (x4_1 + 1))) else (none)) = some r:=H
     have A8:=qz.mk A80
     clear A80
     by_cases c9 : x4_1 < (x3_1.length : Int)
     ·rw [if_pos c9] at H
      have c9b0 : decide (x4_1 < (x3_1.length : Int)) = true:=decide_eq_true c9
      clear c9
      obtain ⟨y271,hy271⟩ : ∃ y_ : List (S73),y_ = (x3_1.set (x4_1 : Int).toNat (⟨t266,t267,t268,t269,t270⟩ : S73)):=⟨_,rfl⟩
      replace H : (laws_toEdgeS.l0 k1 l0 y271 (wrap64 (x4_1 + 1))) = some r:=by first|(rw [hy271];with_reducible exact H)|(have H2_:=(Option.bind_some _ _).symm.trans H;rw [hy271];with_reducible exact H2_)|(have H2_:=(Option.bind_some _ _).symm.trans H;with_reducible exact H2_)|with_reducible exact H|(rw [hy271];exact H)|exact H
      have Ny271:=qz.mk hy271
      clear hy271
      have H':=qz.mk H
      clear H
      have p265 : 0 ≤ (x4_1 : Int):=dt_
      have q265 : x4_1 < (l0.length : Int):=dt_
      obtain ⟨ad265,e265,hx265_0,hx265_1,hx265_2,hx265_3,hx265_4⟩:=at_T84 HR0.o x4_1 p265 q265
      cases e265
      replace hx265_0:=cb_ HB hx265_0
      replace hx265_1:=cb_ HB hx265_1
      replace hx265_2:=cb_ HB hx265_2
      replace hx265_3:=cb_ HB hx265_3
      replace hx265_4:=cb_ HB hx265_4
      replace p265:=eq_true p265
      replace q265:=eq_true q265
      go_wp2_with (first|((with_reducible refine qh' (f:=44) rfl ?_);refine goesL_ (some 20) rfl rfl Tryz.func44 da' rfl #[.agg #[.int .i64 ((Re' l0 x4_1).f0),.int .i64 ((Re' l0 x4_1).f1),.int .i64 ((Re' l0 x4_1).f2),.int .i64 ((Re' l0 x4_1).f3),.int .i64 ((Re' l0 x4_1).f4)]] rfl sm_ ?_;(with_reducible refine (laws_toEdge.calls ((Re' l0 x4_1).f0) ((Re' l0 x4_1).f1) ((Re' l0 x4_1).f2) ((Re' l0 x4_1).f3) ((Re' l0 x4_1).f4) t266 t267 t268 t269 t270 _ A8.o).mono ?_);rintro e w11 ⟨rfl,hb⟩;refine ⟨_,rfl,?_⟩;replace HO_3:=rb_ HO_3 hb;replace HB:=hs_ HB hb;(try clear hb);(try clear hb2);(try clear hk);(try clear hi);have p10 : 0 ≤ (x4_1 : Int):=dt_;have q10 : (x4_1 : Int) < ((x3_1.length : Int) : Int):=dt_;obtain ⟨go10,co10,eo10,gb10,gl10,cl10,HG10⟩:=Kd.R_form HO_3.o aa';(first|cases eo10|(injection eo10 with ea_ en_ ec_;(first|subst ea_|(injection ea_ with ea_;subst ea_));subst ec_;clear en_));have GB10:=qz.mk gb10;have GG10:=qz.mk HG10;clear gb10 gl10 HG10;obtain ⟨ce10,hcl10,hM10,hcc10,hfr10⟩:=Kd.R_elem HO_3.o z73 (x4_1 : Int) p10 q10;obtain rfl:=oj' hM10;have hx10_0 : w11.cell? ⟨go10,(x4_1 : Int).toNat * 5,none⟩ = some (.int .i64 ((ud' x3_1 x4_1).f0)):=hcc10 0 _ rfl;have hx10_1 : w11.cell? ⟨go10,(x4_1 : Int).toNat * 5 + 1,none⟩ = some (.int .i64 ((ud' x3_1 x4_1).f1)):=hcc10 1 _ rfl;have hx10_2 : w11.cell? ⟨go10,(x4_1 : Int).toNat * 5 + 2,none⟩ = some (.int .i64 ((ud' x3_1 x4_1).f2)):=hcc10 2 _ rfl;have hx10_3 : w11.cell? ⟨go10,(x4_1 : Int).toNat * 5 + 3,none⟩ = some (.int .i64 ((ud' x3_1 x4_1).f3)):=hcc10 3 _ rfl;have hx10_4 : w11.cell? ⟨go10,(x4_1 : Int).toNat * 5 + 4,none⟩ = some (.int .i64 ((ud' x3_1 x4_1).f4)):=hcc10 4 _ rfl;have hf10_0 : w11.frozen? ⟨go10,(x4_1 : Int).toNat * 5,none⟩ = false:=hfr10 0;have hf10_1 : w11.frozen? ⟨go10,(x4_1 : Int).toNat * 5 + 1,none⟩ = false:=hfr10 1;have hf10_2 : w11.frozen? ⟨go10,(x4_1 : Int).toNat * 5 + 2,none⟩ = false:=hfr10 2;have hf10_3 : w11.frozen? ⟨go10,(x4_1 : Int).toNat * 5 + 3,none⟩ = false:=hfr10 3;have hf10_4 : w11.frozen? ⟨go10,(x4_1 : Int).toNat * 5 + 4,none⟩ = false:=hfr10 4;clear hcl10 hcc10 hfr10 hM10;replace p10:=eq_true p10;replace q10:=eq_true q10;have HX12:=qz.mk (show Kd.R k73 73 w11 w.heap.size (fun _=>True) (.slice (some ⟨go10,0,none⟩) x3_1.length co10) x3_1 from uc');obtain ⟨ce12,hcl12,hM12,hcc12,hfr12⟩:=Kd.R_elem HX12.o z73 (x4_1 : Int) (dt_) (by have h_ : (x4_1 : Int) < ((x3_1.length : Int) : Int):=dt_;first|exact h_|(have e_:=(Kd.R_reads' HO_3.o).1;omega)|simpa using h_);obtain rfl:=oj' hM12;have HP12:=Kd.R_seg HX12.o (x4_1 : Int) (dt_) (by have h_ : (x4_1 : Int) < ((x3_1.length : Int) : Int):=dt_;first|exact h_|(have e_:=(Kd.R_reads' HO_3.o).1;omega)|simpa using h_) (seg:=[.int .i64 t266,.int .i64 t267,.int .i64 t268,.int .i64 t269,.int .i64 t270]) (j:=0) hcl12 hcc12 (show 5 ≤ 5 from by decide) (x':=(⟨t266,t267,t268,t269,t270⟩ : S73)) (nl' _ _ _ (⟨t266,t267,t268,t269,t270⟩ : S73) ) (fun _ hk=>hk);have hx12_0:=hcc12 0 _ rfl;(try simp only [show (k73).sz = 5 from rfl,Nat.mul_one,Nat.add_zero] at hx12_0);have hf12_0:=hfr12 0;(try simp only [show (k73).sz = 5 from rfl,Nat.mul_one,Nat.add_zero] at hf12_0);have hx12_1:=hcc12 1 _ rfl;(try simp only [show (k73).sz = 5 from rfl,Nat.mul_one,Nat.add_zero] at hx12_1);have hf12_1:=hfr12 1;(try simp only [show (k73).sz = 5 from rfl,Nat.mul_one,Nat.add_zero] at hf12_1);have hx12_2:=hcc12 2 _ rfl;(try simp only [show (k73).sz = 5 from rfl,Nat.mul_one,Nat.add_zero] at hx12_2);have hf12_2:=hfr12 2;(try simp only [show (k73).sz = 5 from rfl,Nat.mul_one,Nat.add_zero] at hf12_2);have hx12_3:=hcc12 3 _ rfl;(try simp only [show (k73).sz = 5 from rfl,Nat.mul_one,Nat.add_zero] at hx12_3);have hf12_3:=hfr12 3;(try simp only [show (k73).sz = 5 from rfl,Nat.mul_one,Nat.add_zero] at hf12_3);have hx12_4:=hcc12 4 _ rfl;(try simp only [show (k73).sz = 5 from rfl,Nat.mul_one,Nat.add_zero] at hx12_4);have hf12_4:=hfr12 4;(try simp only [show (k73).sz = 5 from rfl,Nat.mul_one,Nat.add_zero] at hf12_4);clear hcl12 hcc12 hfr12 hM12)|((with_reducible refine Co' (t:=73) (p:=21) rfl ?_);refine Hn' (t:=73) (p:=21) (v:=?vo_w13) (w1:=(((((w11.setCell ⟨go10,(x4_1 : Int).toNat * 5,none⟩ (.int .i64 t266)).setCell ⟨go10,(x4_1 : Int).toNat * 5 + 1,none⟩ (.int .i64 t267)).setCell ⟨go10,(x4_1 : Int).toNat * 5 + 2,none⟩ (.int .i64 t268)).setCell ⟨go10,(x4_1 : Int).toNat * 5 + 3,none⟩ (.int .i64 t269)).setCell ⟨go10,(x4_1 : Int).toNat * 5 + 4,none⟩ (.int .i64 t270))) ?hg ?ho ?hn ?hr ?_;(case ho=>rfl);(case hg=>rfl);(case hn=>rfl);(case hr=>first|(go_simp;done)|(go_simp;rfl));intro w13 hw;have hg : w11.grownBy w13 (some go10):=(by rw [hw];exact HP12.2);have hp_ : Kd.R k73 73 w13 w.heap.size (fun _=>True) (.slice (some ⟨go10,0,none⟩) x3_1.length co10) y271:=(by rw [hw,Ny271.o];exact HP12.1);clear HP12;replace HO_3:=qz.mk (hp_);replace HB:=qz.mk ((by rw [hw];exact qp (qp (qp (qp (qp (HB.o) GB10.o) GB10.o) GB10.o) GB10.o) GB10.o : Below w.heap.size w w13));clear hg hw hp_))
      go_roundg k1
      case measure=>have:=HK1.o;omega
      case rel=>exact ⟨(y271),(wrap64 (x4_1 + 1)),rs_,H',⟨vb'⟩,⟨uc'⟩,⟨hx_⟩⟩
     rw [if_neg c9] at H
     exact absurd H ia'
    rw [if_neg c7] at H
    exact absurd H ia'
   rw [if_neg c6] at H
   have c6b0 : decide (x4_1 < (l0.length : Int)) = false:=decide_eq_false c6
   clear c6
   obtain rfl:=Option.some.inj H
   go_wp2
   go_ret
   exact ⟨_,rt_,uc',hx_⟩
  rw [if_neg c3] at H
  exact absurd H ia'
 rw [if_neg c2] at H
 exact absurd H ia'
def laws_toGraph.f (k : Nat) (a0_0 : Int) (l0_1 : List (S84)) : Option (Int × (List (S73))):=(laws_toEdgeS.f k l0_1).bind fun t275=>(some (a0_0,t275))
theorem laws_toGraph.calls (k : Nat) (a0_0 : Int) (A0_1 : Option Addr) (c0_1 : Nat) (l0_1 : List (S84)) (r1 : Int) (r2 : List (S73)) (w : World) (hr0_1 : Kd.C k84 w A0_1 l0_1.length l0_1) (hc0_1 : l0_1.length ≤ c0_1) (h : laws_toGraph.f k a0_0 l0_1 = some (r1,r2)) :
  Calls Tryz.prog 6 #[.agg #[.int .i64 a0_0,.slice A0_1 l0_1.length c0_1]] w fun e w'=>∃ v1_ : Value,e = .returned (.agg #[.int .i64 r1,v1_]) ∧ Kd.R k73 73 w' w.heap.size (fun _=>True) v1_ r2 ∧ Below w.heap.size w w':=by
 have hu24:=Tryz.underlying24
 have hu35:=Tryz.underlying35
 have HR0_1:=qz.mk hr0_1
 have HC0_1:=qz.mk hc0_1
 clear hr0_1 hc0_1
 have HB:=qz.mk (Below.refl w.heap.size w)
 have H : ((laws_toEdgeS.f k l0_1).bind fun t275=>(some (a0_0,t275))) = some (r1,r2):=h
 clear h
 replace H:=Option.bind_eq_some_iff.mp H
 obtain ⟨t275,A20,H⟩:=H
 replace H : (some (a0_0,t275)) = some (r1,r2):=H
 have A2:=qz.mk A20
 clear A20
 simp only [Option.some.injEq,Prod.mk.injEq] at H
 obtain ⟨rfl,rfl⟩:=H
 go_enter Tryz.func6,Tryz.ntmps6
 go_wp2_with (first|((with_reducible refine Af' (N:=1) rfl ?_);refine yf' ?hg (N:=1) ?hd (cs:=#[.int .i64 a0_0,.slice A0_1 l0_1.length c0_1]) (t:=24) ?hr ?_;(case hd=>rfl);(case hg=>rfl);(case hr=>first|(go_simp;done)|(go_simp;rfl));intro gb272 hg w3 hbox hb;have BK272:=qz.mk (hbox);have GW272:=qz.mk ((by rw [hg];exact (qv hx_) : w.heap.size ≤ gb272));have GE272:=qz.mk ((by rw [hg];exact (qv hx_) : w.heap.size ≤ gb272));replace HB:=hs_ HB hb;clear hb hbox hg)|((with_reducible refine Af' (N:=2) rfl ?_);refine yf' ?hg (N:=2) ?hd (cs:=#[.int .i64 0,.slice none 0 0]) (t:=35) ?hr ?_;(case hd=>rfl);(case hg=>rfl);(case hr=>first|(go_simp;done)|(go_simp;rfl));intro gb273 hg w4 hbox hb;have BK273:=qz.mk (hbox);have GW273:=qz.mk ((by rw [hg];exact (qv hx_) : w.heap.size ≤ gb273));have GE273:=qz.mk ((by rw [hg];exact (qv hx_) : w.heap.size ≤ gb273));have NB272_273:=qz.mk ((by rw [hg];exact nl_ BK272 : gb272 ≠ gb273));have NB273_272:=qz.mk ((by rw [hg];exact ng_ BK272 : gb273 ≠ gb272));replace BK272:=bb_ BK272 hb;replace HB:=hs_ HB hb;clear hb hbox hg)|((with_reducible refine Af' (N:=3) rfl ?_);refine yf' ?hg (N:=3) ?hd (cs:=#[.int .i64 0,.slice none 0 0]) (t:=35) ?hr ?_;(case hd=>rfl);(case hg=>rfl);(case hr=>first|(go_simp;done)|(go_simp;rfl));intro gb274 hg w5 hbox hb;have BK274:=qz.mk (hbox);have GW274:=qz.mk ((by rw [hg];exact (qv hx_) : w.heap.size ≤ gb274));have GE274:=qz.mk ((by rw [hg];exact (qv hx_) : w.heap.size ≤ gb274));have NB272_274:=qz.mk ((by rw [hg];exact nl_ BK272 : gb272 ≠ gb274));have NB274_272:=qz.mk ((by rw [hg];exact ng_ BK272 : gb274 ≠ gb272));replace BK272:=bb_ BK272 hb;have NB273_274:=qz.mk ((by rw [hg];exact nl_ BK273 : gb273 ≠ gb274));have NB274_273:=qz.mk ((by rw [hg];exact ng_ BK273 : gb274 ≠ gb273));replace BK273:=bb_ BK273 hb;replace HB:=hs_ HB hb;clear hb hbox hg;have hnb6:=NB272_273.o;have hnc6:=NB273_272.o;have hnb7:=NB272_274.o;have hnc7:=NB274_272.o;obtain ⟨hcz8_0,hcz8_1,hfz8_0,hfz8_1⟩:=c2f_ BK272.o;have hnb9:=NB274_273.o;have hnc9:=NB273_274.o;obtain ⟨hcz10_0,hcz10_1,hfz10_0,hfz10_1⟩:=c2f_ BK274.o)|((with_reducible refine qh' (f:=22) rfl ?_);refine goesL_ (some 9) rfl rfl Tryz.func22 da' rfl #[.slice A0_1 l0_1.length c0_1] rfl sm_ ?_;(with_reducible refine (laws_toEdgeS.calls k _ _ l0_1 t275 _ ?side1 ?side2 A2.o).mono ?_);(case side1=>exact Kd.C_below HR0_1.o hx_);(case side2=>exact HC0_1.o);rintro e w11 ⟨v276,rfl,ho0,hb⟩;refine ⟨_,rfl,?_⟩;have HO277:=qz.mk (Kd.R_lower ho0 (qv hx_));replace BK272:=qz.mk (qx (g:=gb272) (o:=.cells #[.int .i64 a0_0,.slice A0_1 l0_1.length c0_1] 24 (0,0)) (by (with_reducible repeat (first|refine qf ?_ _|refine qk ?_|refine qg ?_ _));refine Og' ?_ NB272_274.o _;(with_reducible repeat (first|refine qf ?_ _|refine qk ?_|refine qg ?_ _));exact BK272.o) hb);replace BK273:=qz.mk (qx (g:=gb273) (o:=.cells #[.int .i64 0,.slice none 0 0] 35 (0,0)) (by (with_reducible repeat (first|refine qf ?_ _|refine qk ?_|refine qg ?_ _));refine Og' ?_ NB273_274.o _;(with_reducible repeat (first|refine qf ?_ _|refine qk ?_|refine qg ?_ _));exact BK273.o) hb);replace BK274:=qz.mk (qx (g:=gb274) (o:=.cells #[.int .i64 a0_0,.slice none 0 0] 35 (0,0)) (by (with_reducible repeat (first|refine qf ?_ _|refine qk ?_|refine qg ?_ _));refine Pg' (cs:=#[.int .i64 0,.slice none 0 0]) ?_ 0 _ rfl;(with_reducible repeat (first|refine qf ?_ _|refine qk ?_|refine qg ?_ _));exact BK274.o) hb);replace HB:=hs_ HB hb;(try clear hb);(try clear hb2);(try clear hk);(try clear hi);(try clear ho0);obtain ⟨Ao12,co12,eo12⟩:=Kd.R_slice HO277.o;subst eo12;obtain ⟨hcz13_0,hcz13_1,hfz13_0,hfz13_1⟩:=c2f_ BK274.o;obtain ⟨hcz14_0,hcz14_1,hfz14_0,hfz14_1⟩:=c2f_ BK273.o))
 refine bodyPost_ret (results_cell_row rfl _ _ gb273 35 #[.int .i64 a0_0,.slice Ao12 t275.length co12] (0,0) _ rfl (by (with_reducible repeat (first|refine qf ?_ _|refine qk ?_|refine qg ?_ _));refine Pg' (cs:=#[.int .i64 a0_0,.slice none 0 0]) ?_ 1 _ rfl;(with_reducible repeat (first|refine qf ?_ _|refine qk ?_|refine qg ?_ _));refine Pg' (cs:=#[.int .i64 0,.slice none 0 0]) ?_ 0 _ rfl;(with_reducible repeat (first|refine qf ?_ _|refine qk ?_|refine qg ?_ _));refine Og' ?_ NB273_274.o _;(with_reducible repeat (first|refine qf ?_ _|refine qk ?_|refine qg ?_ _));exact BK273.o) Tryz.underlying35 rfl da') rfl ?_
 exact ⟨_,rt_,by (with_reducible repeat (first|apply Kd.R_alloc|apply Kd.R_drewN|apply Kd.R_drew));exact Kd.R_mono (Kd.R_far (p:=⟨gb273,1,none⟩) (Kd.R_far (p:=⟨gb273,0,none⟩) (Kd.R_far (p:=⟨gb274,1,none⟩) (Kd.R_types (Kd.R_types HO277.o BK274.o ba') BK273.o ba') (fun _ hk=>hk.1.2) (.slice Ao12 t275.length co12)) (fun _ hk=>hk.2) (.int .i64 a0_0)) (fun _ hk=>hk.2) (.slice Ao12 t275.length co12)) (fun _ hk=>trivial),hx_⟩
end Go.Proofs.YtnffimpoekjkpaaGreat.QFnExactSolve
