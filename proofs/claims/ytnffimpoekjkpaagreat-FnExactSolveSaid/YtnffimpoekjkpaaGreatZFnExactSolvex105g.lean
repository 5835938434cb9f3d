import Derived.Test.YtnffimpoekjkpaaGreatZFnExactSolvex20
import Derived.Test.YtnffimpoekjkpaaGreatZFnExactSolvex25
set_option linter.all false
namespace Go.Proofs.YtnffimpoekjkpaaGreat.QFnExactSolve
open Go.RowKit Go.Proofs.YtnffimpoekjkpaaGreatW.PrintWords Go.Proofs.YtnffimpoekjkpaaGreatW.PrintLast Go.Proofs.YtnffimpoekjkpaaGreatW.PrintMore
attribute [local go_sem] Od' Pd' Xd' Yd' Jd' Kd' Qd' Rd'
set_option maxHeartbeats 8000000
set_option maxRecDepth 100000
theorem wi_ {i : Nat} (h : i ≤ 1000000000) : wrap64 ((i : Int) + 1) = ((i + 1 : Nat) : Int):=by unfold wrap64;omega
theorem ek' (A B : Option Addr) (ca cb : Nat) (l : List Int) (w : World) (ha : Kd.C (Kd.int .i64) w A l.length l) (hb : Kd.C (Kd.int .i64) w B l.length l) (hl : l.length ≤ 1000000000) :
  Calls Tryz.prog 29 #[.slice A l.length ca,.slice B l.length cb] w fun e w'=>e = .returned (.bool true) ∧ Below w.heap.size w w':=by
 have HA:=qz.mk ha
 have HB:=qz.mk hb
 have HL:=qz.mk hl
 have cn : ((l.length : Int) != (l.length : Int)) = false:=by simp
 clear ha hb hl
 go_enter Tryz.func29,Tryz.ntmps29
 go_wp2
 go_loopg [5] (l.length + 1) (fun kq v5 w'=>∃ i : Nat,v5 = .int .i64 (i : Int) ∧ qz (i + kq = l.length + 1 ∧ i ≤ l.length) ∧ re' w w')
 case atStart=>exact ⟨0,rfl,⟨aa',aa'⟩,re'.refl _⟩
 obtain ⟨i,rfl,HI,⟨m,rfl⟩⟩:=hrel
 cases gk with
 | zero =>
  exfalso
  have:=HI.o
  omega
 | succ k1 =>
  by_cases c : i < l.length
  ·have cl : decide ((i : Int) < (l.length : Int)) = true:=decide_eq_true aa'
   obtain ⟨a,e_,ha0⟩:=Kd.at_int HA.o (i : Int) aa' aa'
   subst e_
   obtain ⟨b,e_,hb0⟩:=Kd.at_int HB.o (i : Int) aa' aa'
   subst e_
   simp only [Int.toNat_natCast] at ha0 hb0
   have cx : (rd l (i : Int) != rd l (i : Int)) = false:=by simp
   have hi:=wi_ (i:=i) oa'
   have HC:=qz.mk c
   have cl2:=eq_true c
   clear c
   go_wp2
   repeat (go_quiet (fail);try go_wp2)
   go_roundg k1
   case measure=>omega
   case rel=>exact ⟨i + 1,by rw [hi],⟨fa',HC.o⟩,ma'⟩
  have cl : decide ((i : Int) < (l.length : Int)) = false:=decide_eq_false aa'
  have cl2:=eq_false c
  clear c
  go_wp2
  go_ret
  exact ⟨rfl,qd (Below.refl _ _) m⟩
theorem mm' (x : S58) (w : World) :
  Calls Tryz.prog 28 #[.agg #[.int .i64 x.f0,.int .i64 x.f1],.agg #[.int .i64 x.f0,.int .i64 x.f1]] w fun e w'=>e = .returned (.bool true) ∧ Below w.heap.size w w':=by
 have hu58:=Tryz.underlying58
 go_enter Tryz.func28,Tryz.ntmps28
 go_upto_region 1 with fail
 have e1 : (w.alloc (.cells #[.int .i64 x.f0,.int .i64 x.f1] 58)).heap.size = w.heap.size + 1:=by simp
 have BX1 : qz ((w.alloc (.cells #[.int .i64 x.f0,.int .i64 x.f1] 58)).heap[w.heap.size]? = some (.cells #[.int .i64 x.f0,.int .i64 x.f1] 58 (0,0))):=⟨yd' w _⟩
 have HB1 : qz (Below w.heap.size w (w.alloc (.cells #[.int .i64 x.f0,.int .i64 x.f1] 58))):=⟨qo (Below.refl _ _) _⟩
 generalize w.alloc (.cells #[.int .i64 x.f0,.int .i64 x.f1] 58) = W1 at *
 have BX2 : qz ((W1.alloc (.cells #[.int .i64 x.f0,.int .i64 x.f1] 58)).heap[W1.heap.size]? = some (.cells #[.int .i64 x.f0,.int .i64 x.f1] 58 (0,0))):=⟨yd' W1 _⟩
 have HB2 : qz (Below W1.heap.size W1 (W1.alloc (.cells #[.int .i64 x.f0,.int .i64 x.f1] 58))):=⟨qo (Below.refl _ _) _⟩
 generalize W1.alloc (.cells #[.int .i64 x.f0,.int .i64 x.f1] 58) = W2 at *
 rw [e1] at BX2
 clear e1
 have HB3 : qz (Below w.heap.size w W2):=⟨qy HB1.o HB2.o⟩
 have BX3:=qz.mk (qx BX1.o HB2.o)
 have hx0 : W2.cell? ⟨w.heap.size,0,none⟩ = some (.int .i64 x.f0):=(qq BX3.o 0).trans rfl
 have hy0 : W2.cell? ⟨w.heap.size + 1,0,none⟩ = some (.int .i64 x.f0):=(qq BX2.o 0).trans rfl
 have hx1 : W2.cell? ⟨w.heap.size,1,none⟩ = some (.int .i64 x.f1):=(qq BX3.o 1).trans rfl
 have hy1 : W2.cell? ⟨w.heap.size + 1,1,none⟩ = some (.int .i64 x.f1):=(qq BX2.o 1).trans rfl
 have cn0 : (x.f0 != x.f0) = false:=by simp
 have cn1 : (x.f1 != x.f1) = false:=by simp
 go_wp2_with fail
 go_ret
 exact ⟨rfl,HB3.o⟩
theorem Pn' (x : S73) (w : World) :
  Calls Tryz.prog 56 #[.agg #[.int .i64 x.f0,.int .i64 x.f1,.int .i64 x.f2,.int .i64 x.f3,.int .i64 x.f4],.agg #[.int .i64 x.f0,.int .i64 x.f1,.int .i64 x.f2,.int .i64 x.f3,.int .i64 x.f4]] w fun e w'=>e = .returned (.bool true) ∧ Below w.heap.size w w':=by
 have hu73:=Tryz.underlying73
 go_enter Tryz.func56,Tryz.ntmps56
 go_upto_region 1 with fail
 have e1 : (w.alloc (.cells #[.int .i64 x.f0,.int .i64 x.f1,.int .i64 x.f2,.int .i64 x.f3,.int .i64 x.f4] 73)).heap.size = w.heap.size + 1:=by simp
 have BX1 : qz ((w.alloc (.cells #[.int .i64 x.f0,.int .i64 x.f1,.int .i64 x.f2,.int .i64 x.f3,.int .i64 x.f4] 73)).heap[w.heap.size]? = some (.cells #[.int .i64 x.f0,.int .i64 x.f1,.int .i64 x.f2,.int .i64 x.f3,.int .i64 x.f4] 73 (0,0))):=⟨yd' w _⟩
 have HB1 : qz (Below w.heap.size w (w.alloc (.cells #[.int .i64 x.f0,.int .i64 x.f1,.int .i64 x.f2,.int .i64 x.f3,.int .i64 x.f4] 73))):=⟨qo (Below.refl _ _) _⟩
 generalize w.alloc (.cells #[.int .i64 x.f0,.int .i64 x.f1,.int .i64 x.f2,.int .i64 x.f3,.int .i64 x.f4] 73) = W1 at *
 have BX2 : qz ((W1.alloc (.cells #[.int .i64 x.f0,.int .i64 x.f1,.int .i64 x.f2,.int .i64 x.f3,.int .i64 x.f4] 73)).heap[W1.heap.size]? = some (.cells #[.int .i64 x.f0,.int .i64 x.f1,.int .i64 x.f2,.int .i64 x.f3,.int .i64 x.f4] 73 (0,0))):=⟨yd' W1 _⟩
 have HB2 : qz (Below W1.heap.size W1 (W1.alloc (.cells #[.int .i64 x.f0,.int .i64 x.f1,.int .i64 x.f2,.int .i64 x.f3,.int .i64 x.f4] 73))):=⟨qo (Below.refl _ _) _⟩
 generalize W1.alloc (.cells #[.int .i64 x.f0,.int .i64 x.f1,.int .i64 x.f2,.int .i64 x.f3,.int .i64 x.f4] 73) = W2 at *
 rw [e1] at BX2
 clear e1
 have HB3 : qz (Below w.heap.size w W2):=⟨qy HB1.o HB2.o⟩
 have BX3:=qz.mk (qx BX1.o HB2.o)
 have hx0 : W2.cell? ⟨w.heap.size,0,none⟩ = some (.int .i64 x.f0):=(qq BX3.o 0).trans rfl
 have hy0 : W2.cell? ⟨w.heap.size + 1,0,none⟩ = some (.int .i64 x.f0):=(qq BX2.o 0).trans rfl
 have hx1 : W2.cell? ⟨w.heap.size,1,none⟩ = some (.int .i64 x.f1):=(qq BX3.o 1).trans rfl
 have hy1 : W2.cell? ⟨w.heap.size + 1,1,none⟩ = some (.int .i64 x.f1):=(qq BX2.o 1).trans rfl
 have hx2 : W2.cell? ⟨w.heap.size,2,none⟩ = some (.int .i64 x.f2):=(qq BX3.o 2).trans rfl
 have hy2 : W2.cell? ⟨w.heap.size + 1,2,none⟩ = some (.int .i64 x.f2):=(qq BX2.o 2).trans rfl
 have hx3 : W2.cell? ⟨w.heap.size,3,none⟩ = some (.int .i64 x.f3):=(qq BX3.o 3).trans rfl
 have hy3 : W2.cell? ⟨w.heap.size + 1,3,none⟩ = some (.int .i64 x.f3):=(qq BX2.o 3).trans rfl
 have hx4 : W2.cell? ⟨w.heap.size,4,none⟩ = some (.int .i64 x.f4):=(qq BX3.o 4).trans rfl
 have hy4 : W2.cell? ⟨w.heap.size + 1,4,none⟩ = some (.int .i64 x.f4):=(qq BX2.o 4).trans rfl
 have cn0 : (x.f0 != x.f0) = false:=by simp
 have cn1 : (x.f1 != x.f1) = false:=by simp
 have cn2 : (x.f2 != x.f2) = false:=by simp
 have cn3 : (x.f3 != x.f3) = false:=by simp
 have cn4 : (x.f4 != x.f4) = false:=by simp
 go_wp2_with fail
 go_ret
 exact ⟨rfl,HB3.o⟩
theorem un' (x : S80) (A B : Option Addr) (ca cb : Nat) (w : World) (ha : Kd.C (Kd.int .i64) w A x.f0.length x.f0) (hb : Kd.C (Kd.int .i64) w B x.f0.length x.f0) (hl : x.f0.length ≤ 1000000000) :
  Calls Tryz.prog 55 #[.agg #[.slice A x.f0.length ca,.int .i64 x.f1],.agg #[.slice B x.f0.length cb,.int .i64 x.f1]] w fun e w'=>e = .returned (.bool true) ∧ Below w.heap.size w w':=by
 have hu80:=Tryz.underlying80
 have HA:=qz.mk ha
 have HB:=qz.mk hb
 have HL:=qz.mk hl
 clear ha hb hl
 go_enter Tryz.func55,Tryz.ntmps55
 go_upto_region 1 with fail
 have e1 : (w.alloc (.cells #[.slice A x.f0.length ca,.int .i64 x.f1] 80)).heap.size = w.heap.size + 1:=by simp
 have BX1 : qz ((w.alloc (.cells #[.slice A x.f0.length ca,.int .i64 x.f1] 80)).heap[w.heap.size]? = some (.cells #[.slice A x.f0.length ca,.int .i64 x.f1] 80 (0,0))):=⟨yd' w _⟩
 have HB1 : qz (Below w.heap.size w (w.alloc (.cells #[.slice A x.f0.length ca,.int .i64 x.f1] 80))):=⟨qo (Below.refl _ _) _⟩
 generalize w.alloc (.cells #[.slice A x.f0.length ca,.int .i64 x.f1] 80) = W1 at *
 have BX2 : qz ((W1.alloc (.cells #[.slice B x.f0.length cb,.int .i64 x.f1] 80)).heap[W1.heap.size]? = some (.cells #[.slice B x.f0.length cb,.int .i64 x.f1] 80 (0,0))):=⟨yd' W1 _⟩
 have HB2 : qz (Below W1.heap.size W1 (W1.alloc (.cells #[.slice B x.f0.length cb,.int .i64 x.f1] 80))):=⟨qo (Below.refl _ _) _⟩
 generalize W1.alloc (.cells #[.slice B x.f0.length cb,.int .i64 x.f1] 80) = W2 at *
 rw [e1] at BX2
 clear e1
 have HB3 : qz (Below w.heap.size w W2):=⟨qy HB1.o HB2.o⟩
 have BX3:=qz.mk (qx BX1.o HB2.o)
 have hx0 : W2.cell? ⟨w.heap.size,0,none⟩ = some (.slice A x.f0.length ca):=(qq BX3.o 0).trans rfl
 have hy0 : W2.cell? ⟨w.heap.size + 1,0,none⟩ = some (.slice B x.f0.length cb):=(qq BX2.o 0).trans rfl
 have hx1 : W2.cell? ⟨w.heap.size,1,none⟩ = some (.int .i64 x.f1):=(qq BX3.o 1).trans rfl
 have hy1 : W2.cell? ⟨w.heap.size + 1,1,none⟩ = some (.int .i64 x.f1):=(qq BX2.o 1).trans rfl
 have cn : (x.f1 != x.f1) = false:=by simp
 have HEI:=qz.mk (ek' A B ca cb x.f0 W2 (Kd.C_below HA.o HB3.o) (Kd.C_below HB.o HB3.o) HL.o)
 go_upto_region 3 with (first|(go_at_call 29;refine HEI.o.mono ?_;rintro e w3 ⟨rfl,hb⟩;have HB4:=qz.mk (qy HB3.o hb);have BY1:=qz.mk (qx BX3.o hb);have BY2:=qz.mk (qx BX2.o hb);clear hb))
 clear hx0 hx1 hy0 hy1
 have hx0 : w3.cell? ⟨w.heap.size,0,none⟩ = some (.slice A x.f0.length ca):=(qq BY1.o 0).trans rfl
 have hy0 : w3.cell? ⟨w.heap.size + 1,0,none⟩ = some (.slice B x.f0.length cb):=(qq BY2.o 0).trans rfl
 have hx1 : w3.cell? ⟨w.heap.size,1,none⟩ = some (.int .i64 x.f1):=(qq BY1.o 1).trans rfl
 have hy1 : w3.cell? ⟨w.heap.size + 1,1,none⟩ = some (.int .i64 x.f1):=(qq BY2.o 1).trans rfl
 go_wp2_with fail
 go_ret
 exact ⟨rfl,HB4.o⟩
theorem ph' (A B : Option Addr) (ca0 cb0 : Nat) (l : List S58) (w : World) (ha : Kd.C k58 w A l.length l) (hb : Kd.C k58 w B l.length l) (hl : l.length ≤ 1000000000) :
  Calls Tryz.prog 8 #[.slice A l.length ca0,.slice B l.length cb0] w fun e w'=>e = .returned (.bool true) ∧ Below w.heap.size w w':=by
 have hu58:=Tryz.underlying58
 have HA:=qz.mk ha
 have HB:=qz.mk hb
 have HL:=qz.mk hl
 have cn : ((l.length : Int) != (l.length : Int)) = false:=by simp
 clear ha hb hl
 go_enter Tryz.func8,Tryz.ntmps8
 go_wp2_with fail
 go_loopg [5] (l.length + 1) (fun kq v5 w'=>∃ i : Nat,v5 = .int .i64 (i : Int) ∧ qz (i + kq = l.length + 1 ∧ i ≤ l.length) ∧ qz (Below w.heap.size w w'))
 case atStart=>exact ⟨0,rfl,⟨aa',aa'⟩,⟨Below.refl _ _⟩⟩
 obtain ⟨i,rfl,HI,HBw⟩:=hrel
 generalize wr = w9 at *
 have HA2:=qz.mk (Kd.C_below HA.o HBw.o)
 have HB2:=qz.mk (Kd.C_below HB.o HBw.o)
 cases gk with
 | zero =>
  exfalso
  have:=HI.o
  omega
 | succ k1 =>
  by_cases c : i < l.length
  ·have cl : decide ((i : Int) < (l.length : Int)) = true:=decide_eq_true aa'
   obtain ⟨a,e_,ax0,ax1⟩:=zm' HA2.o (i : Int) aa' aa'
   subst e_
   obtain ⟨b,e_,bx0,bx1⟩:=zm' HB2.o (i : Int) aa' aa'
   subst e_
   obtain ⟨X,hX⟩ : ∃ X,ci' l (i : Int) = X:=⟨_,rfl⟩
   simp only [hX,Int.toNat_natCast] at ax0 ax1 bx0 bx1
   have hi:=wi_ (i:=i) oa'
   have p : ((0 : Int) ≤ (i : Int)) = True:=eq_true aa'
   have q : ((i : Int) < (l.length : Int)) = True:=eq_true aa'
   have HC:=qz.mk c
   have cl2:=eq_true c
   clear c hX HA2 HB2
   go_upto_region 6 with fail
   refine Md' (n:=10) (S:=fun w'=>w'.cell? (a.add (i * 2)) = some (.int .i64 X.f0) ∧ w'.cell? ⟨(a.add (i * 2)).block,(a.add (i * 2)).off + 1,none⟩ = some (.int .i64 X.f1) ∧ w'.cell? (b.add (i * 2)) = some (.int .i64 X.f0) ∧ w'.cell? ⟨(b.add (i * 2)).block,(b.add (i * 2)).off + 1,none⟩ = some (.int .i64 X.f1)) (ds:=[]) (Array.replicate 10 false) da' rfl rfl ⟨ax0,ax1,bx0,bx1⟩ (fun hHeld=>?_)
   refine pa_ 0 17 (bz_ 10 1) ?_
   refine pa_ 1 18 (bz_ 10 3) ?_
   refine pa_ 2 19 (bz_ 10 7) ?_
   refine pa_ 4 21 (bz_ 10 23) ?_
   refine pa_ 5 22 (bz_ 10 55) ?_
   refine pa_ 6 23 (bz_ 10 119) ?_
   refine ta_ 3 20 (bz_ 10 127) hHeld (hy:=Or.inl ⟨ca',na'⟩) (h:=?_)
   refine ta_ 7 24 (bz_ 10 255) hHeld (hy:=Or.inl ⟨ca',na'⟩) (h:=?_)
   refine Td' (i:=8) (N:=some 25) (bz_ 10 511) rfl rfl da' ba' (fun K hK=>?_)
   refine goes_ Tryz.func28 da' rfl #[.agg #[.int .i64 X.f0,.int .i64 X.f1],.agg #[.int .i64 X.f0,.int .i64 X.f1]] ca' rfl rfl xa' ?_
   refine (mm' X w9.drew).mono ?_
   rintro e_ w2 ⟨rfl,hb2⟩
   have HB2:=qz.mk (qy (qh (Below.refl w9.heap.size w9)) hb2)
   refine ⟨_,rfl,?_⟩
   refine hK.out _ _ ⟨vd' hb2 hHeld.1,vd' hb2 hHeld.2.1,vd' hb2 hHeld.2.2.1,vd' hb2 hHeld.2.2.2⟩ (fun hHeld=>?_)
   clear hK K
   refine zd' (a':=?_) ?_ ?_
   rotate_left
   ·show Act.put _ (some 25) _ = _
    simp only [Act.put,List.setIfInBounds_toArray,List.set_cons_zero,List.set_cons_succ,Bd',Cd']
    rfl
   refine pa_ 9 26 (bz_ 10 1023) ?_
   refine Wd' da' ?_
   have HBn:=qz.mk (qy HBw.o HB2.o)
   clear hHeld HB2
   go_wp2_with fail
   go_roundg k1
   case measure=>omega
   case rel=>exact ⟨i + 1,by rw [hi],⟨fa',HC.o⟩,HBn⟩
  have cl : decide ((i : Int) < (l.length : Int)) = false:=decide_eq_false aa'
  have cl2:=eq_false c
  clear c
  go_wp2_with fail
  go_ret
  exact ⟨rfl,HBw.o⟩
theorem vn' (A B : Option Addr) (ca0 cb0 : Nat) (l : List S73) (w : World) (ha : Kd.C k73 w A l.length l) (hb : Kd.C k73 w B l.length l) (hl : l.length ≤ 1000000000) :
  Calls Tryz.prog 31 #[.slice A l.length ca0,.slice B l.length cb0] w fun e w'=>e = .returned (.bool true) ∧ Below w.heap.size w w':=by
 have hu73:=Tryz.underlying73
 have HA:=qz.mk ha
 have HB:=qz.mk hb
 have HL:=qz.mk hl
 have cn : ((l.length : Int) != (l.length : Int)) = false:=by simp
 clear ha hb hl
 go_enter Tryz.func31,Tryz.ntmps31
 go_wp2_with fail
 go_loopg [5] (l.length + 1) (fun kq v5 w'=>∃ i : Nat,v5 = .int .i64 (i : Int) ∧ qz (i + kq = l.length + 1 ∧ i ≤ l.length) ∧ qz (Below w.heap.size w w'))
 case atStart=>exact ⟨0,rfl,⟨aa',aa'⟩,⟨Below.refl _ _⟩⟩
 obtain ⟨i,rfl,HI,HBw⟩:=hrel
 generalize wr = w9 at *
 have HA2:=qz.mk (Kd.C_below HA.o HBw.o)
 have HB2:=qz.mk (Kd.C_below HB.o HBw.o)
 cases gk with
 | zero =>
  exfalso
  have:=HI.o
  omega
 | succ k1 =>
  by_cases c : i < l.length
  ·have cl : decide ((i : Int) < (l.length : Int)) = true:=decide_eq_true aa'
   obtain ⟨a,e_,ax0,ax1,ax2,ax3,ax4⟩:=of' HA2.o (i : Int) aa' aa'
   subst e_
   obtain ⟨b,e_,bx0,bx1,bx2,bx3,bx4⟩:=of' HB2.o (i : Int) aa' aa'
   subst e_
   obtain ⟨X,hX⟩ : ∃ X,ud' l (i : Int) = X:=⟨_,rfl⟩
   simp only [hX,Int.toNat_natCast] at ax0 ax1 ax2 ax3 ax4 bx0 bx1 bx2 bx3 bx4
   have hi:=wi_ (i:=i) oa'
   have p : ((0 : Int) ≤ (i : Int)) = True:=eq_true aa'
   have q : ((i : Int) < (l.length : Int)) = True:=eq_true aa'
   have HC:=qz.mk c
   have cl2:=eq_true c
   clear c hX HA2 HB2
   go_upto_region 6 with fail
   refine Md' (n:=10) (S:=fun w'=>w'.cell? (a.add (i * 5)) = some (.int .i64 X.f0) ∧ w'.cell? ⟨(a.add (i * 5)).block,(a.add (i * 5)).off + 1,none⟩ = some (.int .i64 X.f1) ∧ w'.cell? ⟨(a.add (i * 5)).block,(a.add (i * 5)).off + 2,none⟩ = some (.int .i64 X.f2) ∧ w'.cell? ⟨(a.add (i * 5)).block,(a.add (i * 5)).off + 3,none⟩ = some (.int .i64 X.f3) ∧ w'.cell? ⟨(a.add (i * 5)).block,(a.add (i * 5)).off + 4,none⟩ = some (.int .i64 X.f4) ∧ w'.cell? (b.add (i * 5)) = some (.int .i64 X.f0) ∧ w'.cell? ⟨(b.add (i * 5)).block,(b.add (i * 5)).off + 1,none⟩ = some (.int .i64 X.f1) ∧ w'.cell? ⟨(b.add (i * 5)).block,(b.add (i * 5)).off + 2,none⟩ = some (.int .i64 X.f2) ∧ w'.cell? ⟨(b.add (i * 5)).block,(b.add (i * 5)).off + 3,none⟩ = some (.int .i64 X.f3) ∧ w'.cell? ⟨(b.add (i * 5)).block,(b.add (i * 5)).off + 4,none⟩ = some (.int .i64 X.f4)) (ds:=[]) (Array.replicate 10 false) da' rfl rfl ⟨ax0,ax1,ax2,ax3,ax4,bx0,bx1,bx2,bx3,bx4⟩ (fun hHeld=>?_)
   refine pa_ 0 17 (bz_ 10 1) ?_
   refine pa_ 1 18 (bz_ 10 3) ?_
   refine pa_ 2 19 (bz_ 10 7) ?_
   refine pa_ 4 21 (bz_ 10 23) ?_
   refine pa_ 5 22 (bz_ 10 55) ?_
   refine pa_ 6 23 (bz_ 10 119) ?_
   refine ta_ 3 20 (bz_ 10 127) hHeld (hy:=Or.inl ⟨ca',pd'⟩) (h:=?_)
   refine ta_ 7 24 (bz_ 10 255) hHeld (hy:=Or.inl ⟨ca',pd'⟩) (h:=?_)
   refine Td' (i:=8) (N:=some 25) (bz_ 10 511) rfl rfl da' ba' (fun K hK=>?_)
   refine goes_ Tryz.func56 da' rfl #[.agg #[.int .i64 X.f0,.int .i64 X.f1,.int .i64 X.f2,.int .i64 X.f3,.int .i64 X.f4],.agg #[.int .i64 X.f0,.int .i64 X.f1,.int .i64 X.f2,.int .i64 X.f3,.int .i64 X.f4]] ca' rfl rfl xa' ?_
   refine (Pn' X w9.drew).mono ?_
   rintro e_ w2 ⟨rfl,hb2⟩
   have HB2:=qz.mk (qy (qh (Below.refl w9.heap.size w9)) hb2)
   refine ⟨_,rfl,?_⟩
   refine hK.out _ _ ⟨vd' hb2 hHeld.1,vd' hb2 hHeld.2.1,vd' hb2 hHeld.2.2.1,vd' hb2 hHeld.2.2.2.1,vd' hb2 hHeld.2.2.2.2.1,vd' hb2 hHeld.2.2.2.2.2.1,vd' hb2 hHeld.2.2.2.2.2.2.1,vd' hb2 hHeld.2.2.2.2.2.2.2.1,vd' hb2 hHeld.2.2.2.2.2.2.2.2.1,vd' hb2 hHeld.2.2.2.2.2.2.2.2.2⟩ (fun hHeld=>?_)
   clear hK K
   refine zd' (a':=?_) ?_ ?_
   rotate_left
   ·show Act.put _ (some 25) _ = _
    simp only [Act.put,List.setIfInBounds_toArray,List.set_cons_zero,List.set_cons_succ,Bd',Cd']
    rfl
   refine pa_ 9 26 (bz_ 10 1023) ?_
   refine Wd' da' ?_
   have HBn:=qz.mk (qy HBw.o HB2.o)
   clear hHeld HB2
   go_wp2_with fail
   go_roundg k1
   case measure=>omega
   case rel=>exact ⟨i + 1,by rw [hi],⟨fa',HC.o⟩,HBn⟩
  have cl : decide ((i : Int) < (l.length : Int)) = false:=decide_eq_false aa'
  have cl2:=eq_false c
  clear c
  go_wp2_with fail
  go_ret
  exact ⟨rfl,HBw.o⟩
theorem nm' (A B : Option Addr) (ca0 cb0 : Nat) (l : List S80) (w : World) (ha : Kd.C k80 w A l.length l) (hb : Kd.C k80 w B l.length l) (hl : l.length ≤ 1000000000) (hx : ∀ x ∈ l,x.f0.length ≤ 1000000000) :
  Calls Tryz.prog 30 #[.slice A l.length ca0,.slice B l.length cb0] w fun e w'=>e = .returned (.bool true) ∧ Below w.heap.size w w':=by
 have hu80:=Tryz.underlying80
 have HA:=qz.mk ha
 have HB:=qz.mk hb
 have HL:=qz.mk hl
 have HX:=qz.mk hx
 have cn : ((l.length : Int) != (l.length : Int)) = false:=by simp
 clear ha hb hl hx
 go_enter Tryz.func30,Tryz.ntmps30
 go_wp2_with fail
 go_loopg [5] (l.length + 1) (fun kq v5 w'=>∃ i : Nat,v5 = .int .i64 (i : Int) ∧ qz (i + kq = l.length + 1 ∧ i ≤ l.length) ∧ qz (Below w.heap.size w w'))
 case atStart=>exact ⟨0,rfl,⟨aa',aa'⟩,⟨Below.refl _ _⟩⟩
 obtain ⟨i,rfl,HI,HBw⟩:=hrel
 generalize wr = w9 at *
 have HA2:=qz.mk (Kd.C_below HA.o HBw.o)
 have HB2:=qz.mk (Kd.C_below HB.o HBw.o)
 cases gk with
 | zero =>
  exfalso
  have:=HI.o
  omega
 | succ k1 =>
  by_cases c : i < l.length
  ·have cl : decide ((i : Int) < (l.length : Int)) = true:=decide_eq_true aa'
   obtain ⟨a,Aa,ca,e_,ax0,ax1,al,ar⟩:=Fk' HA2.o (i : Int) aa' aa'
   subst e_
   obtain ⟨b,Ab,cb,e_,bx0,bx1,bl,br⟩:=Fk' HB2.o (i : Int) aa' aa'
   subst e_
   have hmem : Lf' l (i : Int) ∈ l:=by
    have : Lf' l (i : Int) = l[i]:=by simp [Lf',c]
    rw [this]
    exact List.getElem_mem c
   have HXL:=qz.mk (HX.o _ hmem)
   clear hmem
   obtain ⟨X,hX⟩ : ∃ X,Lf' l (i : Int) = X:=⟨_,rfl⟩
   simp only [hX,Int.toNat_natCast] at ax0 ax1 bx0 bx1 al ar bl br HXL
   have hi:=wi_ (i:=i) oa'
   have p : ((0 : Int) ≤ (i : Int)) = True:=eq_true aa'
   have q : ((i : Int) < (l.length : Int)) = True:=eq_true aa'
   have HC:=qz.mk c
   have cl2:=eq_true c
   clear c hX HA2 HB2
   go_upto_region 6 with fail
   refine Md' (n:=10) (S:=fun w'=>w'.cell? (a.add (i * 2)) = some (.slice Aa X.f0.length ca) ∧ w'.cell? ⟨(a.add (i * 2)).block,(a.add (i * 2)).off + 1,none⟩ = some (.int .i64 X.f1) ∧ w'.cell? (b.add (i * 2)) = some (.slice Ab X.f0.length cb) ∧ w'.cell? ⟨(b.add (i * 2)).block,(b.add (i * 2)).off + 1,none⟩ = some (.int .i64 X.f1)) (ds:=[]) (Array.replicate 10 false) da' rfl rfl ⟨ax0,ax1,bx0,bx1⟩ (fun hHeld=>?_)
   refine pa_ 0 17 (bz_ 10 1) ?_
   refine pa_ 1 18 (bz_ 10 3) ?_
   refine pa_ 2 19 (bz_ 10 7) ?_
   refine pa_ 4 21 (bz_ 10 23) ?_
   refine pa_ 5 22 (bz_ 10 55) ?_
   refine pa_ 6 23 (bz_ 10 119) ?_
   refine ta_ 3 20 (bz_ 10 127) hHeld (hy:=Or.inl ⟨ca',na'⟩) (h:=?_)
   refine ta_ 7 24 (bz_ 10 255) hHeld (hy:=Or.inl ⟨ca',na'⟩) (h:=?_)
   refine Td' (i:=8) (N:=some 25) (bz_ 10 511) rfl rfl da' ba' (fun K hK=>?_)
   refine goes_ Tryz.func55 da' rfl #[.agg #[.slice Aa X.f0.length ca,.int .i64 X.f1],.agg #[.slice Ab X.f0.length cb,.int .i64 X.f1]] ca' rfl rfl xa' ?_
   refine (un' X Aa Ab ca cb w9.drew (Kd.C_below ar (qh (Below.refl _ _))) (Kd.C_below br (qh (Below.refl _ _))) HXL.o).mono ?_
   rintro e_ w2 ⟨rfl,hb2⟩
   have HB2:=qz.mk (qy (qh (Below.refl w9.heap.size w9)) hb2)
   refine ⟨_,rfl,?_⟩
   refine hK.out _ _ ⟨vd' hb2 hHeld.1,vd' hb2 hHeld.2.1,vd' hb2 hHeld.2.2.1,vd' hb2 hHeld.2.2.2⟩ (fun hHeld=>?_)
   clear hK K
   refine zd' (a':=?_) ?_ ?_
   rotate_left
   ·show Act.put _ (some 25) _ = _
    simp only [Act.put,List.setIfInBounds_toArray,List.set_cons_zero,List.set_cons_succ,Bd',Cd']
    rfl
   refine pa_ 9 26 (bz_ 10 1023) ?_
   refine Wd' da' ?_
   have HBn:=qz.mk (qy HBw.o HB2.o)
   clear hHeld HB2
   go_wp2_with fail
   go_roundg k1
   case measure=>omega
   case rel=>exact ⟨i + 1,by rw [hi],⟨fa',HC.o⟩,HBn⟩
  have cl : decide ((i : Int) < (l.length : Int)) = false:=decide_eq_false aa'
  have cl2:=eq_false c
  clear c
  go_wp2_with fail
  go_ret
  exact ⟨rfl,HBw.o⟩
theorem mi' (Y : List Int) (G : List S80) (A B D E : Option Addr) (ca cb cd ce : Nat) (w : World) (ha : Kd.C (Kd.int .i64) w A Y.length Y) (hb : Kd.C (Kd.int .i64) w B Y.length Y) (hd : Kd.C k80 w D G.length G) (he : Kd.C k80 w E G.length G) (hl : Y.length ≤ 1000000000 ∧ G.length ≤ 1000000000 ∧ ∀ x ∈ G,x.f0.length ≤ 1000000000) :
  Calls Tryz.prog 9 #[.agg #[.slice A Y.length ca,.slice D G.length cd],.agg #[.slice B Y.length cb,.slice E G.length ce]] w fun e w'=>e = .returned (.bool true) ∧ Below w.heap.size w w':=by
 have hu30:=Tryz.underlying30
 have HA:=qz.mk ha
 have HB:=qz.mk hb
 have HD:=qz.mk hd
 have HE:=qz.mk he
 have HL:=qz.mk hl
 clear ha hb hd he hl
 go_enter Tryz.func9,Tryz.ntmps9
 go_upto_region 1 with fail
 have e1 : (w.alloc (.cells #[.slice A Y.length ca,.slice D G.length cd] 30)).heap.size = w.heap.size + 1:=by simp
 have BX1 : qz ((w.alloc (.cells #[.slice A Y.length ca,.slice D G.length cd] 30)).heap[w.heap.size]? = some (.cells #[.slice A Y.length ca,.slice D G.length cd] 30 (0,0))):=⟨yd' w _⟩
 have HB1 : qz (Below w.heap.size w (w.alloc (.cells #[.slice A Y.length ca,.slice D G.length cd] 30))):=⟨qo (Below.refl _ _) _⟩
 generalize w.alloc (.cells #[.slice A Y.length ca,.slice D G.length cd] 30) = W1 at *
 have BX2 : qz ((W1.alloc (.cells #[.slice B Y.length cb,.slice E G.length ce] 30)).heap[W1.heap.size]? = some (.cells #[.slice B Y.length cb,.slice E G.length ce] 30 (0,0))):=⟨yd' W1 _⟩
 have HB2 : qz (Below W1.heap.size W1 (W1.alloc (.cells #[.slice B Y.length cb,.slice E G.length ce] 30))):=⟨qo (Below.refl _ _) _⟩
 generalize W1.alloc (.cells #[.slice B Y.length cb,.slice E G.length ce] 30) = W2 at *
 rw [e1] at BX2
 clear e1
 have HB3 : qz (Below w.heap.size w W2):=⟨qy HB1.o HB2.o⟩
 have BX3:=qz.mk (qx BX1.o HB2.o)
 have hx0 : W2.cell? ⟨w.heap.size,0,none⟩ = some (.slice A Y.length ca):=(qq BX3.o 0).trans rfl
 have hy0 : W2.cell? ⟨w.heap.size + 1,0,none⟩ = some (.slice B Y.length cb):=(qq BX2.o 0).trans rfl
 have hx1 : W2.cell? ⟨w.heap.size,1,none⟩ = some (.slice D G.length cd):=(qq BX3.o 1).trans rfl
 have hy1 : W2.cell? ⟨w.heap.size + 1,1,none⟩ = some (.slice E G.length ce):=(qq BX2.o 1).trans rfl
 have HEI:=qz.mk (ek' A B ca cb Y W2 (Kd.C_below HA.o HB3.o) (Kd.C_below HB.o HB3.o) HL.o.1)
 go_upto_region 3 with (first|(go_at_call 29;refine HEI.o.mono ?_;rintro e w3 ⟨rfl,hb⟩;have HB4:=qz.mk (qy HB3.o hb);have BY1:=qz.mk (qx BX3.o hb);have BY2:=qz.mk (qx BX2.o hb);clear hb))
 clear hx0 hx1 hy0 hy1
 have hx0 : w3.cell? ⟨w.heap.size,0,none⟩ = some (.slice A Y.length ca):=(qq BY1.o 0).trans rfl
 have hy0 : w3.cell? ⟨w.heap.size + 1,0,none⟩ = some (.slice B Y.length cb):=(qq BY2.o 0).trans rfl
 have hx1 : w3.cell? ⟨w.heap.size,1,none⟩ = some (.slice D G.length cd):=(qq BY1.o 1).trans rfl
 have hy1 : w3.cell? ⟨w.heap.size + 1,1,none⟩ = some (.slice E G.length ce):=(qq BY2.o 1).trans rfl
 have HEG:=qz.mk (nm' D E cd ce G w3 (Kd.C_below HD.o HB4.o) (Kd.C_below HE.o HB4.o) HL.o.2.1 HL.o.2.2)
 go_wp2_with (first|(go_at_call 30;refine HEG.o.mono ?_;rintro e w4 ⟨rfl,hb⟩;have HB5:=qz.mk (qy HB4.o hb);clear hb))
 go_ret
 exact ⟨rfl,HB5.o⟩
theorem wn' (n : Int) (l : List S73) (A B : Option Addr) (ca cb : Nat) (w : World) (ha : Kd.C k73 w A l.length l) (hb : Kd.C k73 w B l.length l) (hl : l.length ≤ 1000000000) :
  Calls Tryz.prog 10 #[.agg #[.int .i64 n,.slice A l.length ca],.agg #[.int .i64 n,.slice B l.length cb]] w fun e w'=>e = .returned (.bool true) ∧ Below w.heap.size w w':=by
 have hu35:=Tryz.underlying35
 have HA:=qz.mk ha
 have HB:=qz.mk hb
 have HL:=qz.mk hl
 clear ha hb hl
 go_enter Tryz.func10,Tryz.ntmps10
 go_upto_region 1 with fail
 have e1 : (w.alloc (.cells #[.int .i64 n,.slice A l.length ca] 35)).heap.size = w.heap.size + 1:=by simp
 have BX1 : qz ((w.alloc (.cells #[.int .i64 n,.slice A l.length ca] 35)).heap[w.heap.size]? = some (.cells #[.int .i64 n,.slice A l.length ca] 35 (0,0))):=⟨yd' w _⟩
 have HB1 : qz (Below w.heap.size w (w.alloc (.cells #[.int .i64 n,.slice A l.length ca] 35))):=⟨qo (Below.refl _ _) _⟩
 generalize w.alloc (.cells #[.int .i64 n,.slice A l.length ca] 35) = W1 at *
 have BX2 : qz ((W1.alloc (.cells #[.int .i64 n,.slice B l.length cb] 35)).heap[W1.heap.size]? = some (.cells #[.int .i64 n,.slice B l.length cb] 35 (0,0))):=⟨yd' W1 _⟩
 have HB2 : qz (Below W1.heap.size W1 (W1.alloc (.cells #[.int .i64 n,.slice B l.length cb] 35))):=⟨qo (Below.refl _ _) _⟩
 generalize W1.alloc (.cells #[.int .i64 n,.slice B l.length cb] 35) = W2 at *
 rw [e1] at BX2
 clear e1
 have HB3 : qz (Below w.heap.size w W2):=⟨qy HB1.o HB2.o⟩
 have BX3:=qz.mk (qx BX1.o HB2.o)
 have hx0 : W2.cell? ⟨w.heap.size,0,none⟩ = some (.int .i64 n):=(qq BX3.o 0).trans rfl
 have hy0 : W2.cell? ⟨w.heap.size + 1,0,none⟩ = some (.int .i64 n):=(qq BX2.o 0).trans rfl
 have hx1 : W2.cell? ⟨w.heap.size,1,none⟩ = some (.slice A l.length ca):=(qq BX3.o 1).trans rfl
 have hy1 : W2.cell? ⟨w.heap.size + 1,1,none⟩ = some (.slice B l.length cb):=(qq BX2.o 1).trans rfl
 have cn : (n != n) = false:=by simp
 have HEG:=qz.mk (vn' A B ca cb l W2 (Kd.C_below HA.o HB3.o) (Kd.C_below HB.o HB3.o) HL.o)
 go_wp2_with (first|(go_at_call 31;refine HEG.o.mono ?_;rintro e w4 ⟨rfl,hb⟩;have HB5:=qz.mk (qy HB3.o hb);clear hb))
 go_ret
 exact ⟨rfl,HB5.o⟩
def MkI (l : List Int) (m : Int) : Prop:=∀ i : Nat,i < l.length → rd l (i : Int) = m + i
def MkC (l : List S58) (m : Int) : Prop:=∀ i : Nat,i < l.length → ci' l (i : Int) = ⟨m + 2 * i,m + 2 * i + 1⟩
inductive MkG : List S80 → Int → Int → Prop
 | nil {m : Int} : MkG [] m m
 | cons {x : S80} {l : List S80} {m r : Int} (h : MkI x.f0 m) (hz : x.f1 = m + x.f0.length) (hl : x.f0.length ≤ 1000000) (rest : MkG l (x.f1 + 1) r) : MkG (x :: l) m r
theorem MkG.le {l : List S80} {m r : Int} (h : MkG l m r) : m ≤ r:=by
 induction h with
 | nil=>exact Int.le_refl _
 | cons h hz hl rest ih=>omega
theorem w1_ {m : Int} (h0 : 0 ≤ m) (h1 : m ≤ 1000000000000) : wrap64 (m + 1) = m + 1:=by unfold wrap64;omega
theorem nb_ {m : Int} (h0 : 0 ≤ m) : decide (m < 0) = false:=decide_eq_false aa'
theorem fk' (A : Option Addr) (c : Nat) (l : List Int) (m : Int) (w : World) (ha : Kd.C (Kd.int .i64) w A l.length l) (hm : MkI l m) (h0 : 0 ≤ m) (h1 : m + l.length ≤ 1000000000) :
  Calls Tryz.prog 35 #[.slice A l.length c,.int .i64 m] w fun e w'=>e = .returned (.int .i64 (m + l.length)) ∧ w' = w:=by
 have HA:=qz.mk ha
 have HM:=qz.mk hm
 have HL:=qz.mk (And.intro h0 h1)
 clear ha hm h0 h1
 go_enter Tryz.func35,Tryz.ntmps35
 go_wp2_with fail
 go_loopg [1,5] (l.length + 1) (fun kq v1 v5 w'=>∃ i : Nat,v1 = .int .i64 (m + i) ∧ v5 = .int .i64 (i : Int) ∧ qz (i + kq = l.length + 1 ∧ i ≤ l.length) ∧ w = w')
 case atStart=>exact ⟨0,ia',rfl,⟨aa',aa'⟩,rfl⟩
 obtain ⟨i,rfl,rfl,HI,rfl⟩:=hrel
 cases gk with
 | zero =>
  exfalso
  have:=HI.o
  omega
 | succ k1 =>
  by_cases c : i < l.length
  ·have cl : decide ((i : Int) < (l.length : Int)) = true:=decide_eq_true aa'
   obtain ⟨a,e_,ha0⟩:=Kd.at_int HA.o (i : Int) aa' aa'
   subst e_
   rw [HM.o i c] at ha0
   simp only [Int.toNat_natCast] at ha0
   have cx : (m + (i : Int) != m + (i : Int)) = false:=by simp
   have p : ((0 : Int) ≤ (i : Int)) = True:=eq_true aa'
   have q : ((i : Int) < (l.length : Int)) = True:=eq_true aa'
   have HC:=qz.mk c
   have cl2:=eq_true c
   clear c
   go_wp2_with fail
   go_roundg k1
   case measure=>omega
   case rel=>exact ⟨i + 1,qd',qb',⟨fa',HC.o⟩,rfl⟩
  have cl : decide ((i : Int) < (l.length : Int)) = false:=decide_eq_false aa'
  have cl2:=eq_false c
  have hi : i = l.length:=by have:=HI.o;omega
  subst hi
  clear c
  go_wp2_with fail
  go_ret
  exact ⟨rfl,rfl⟩
theorem Bl' (A : Option Addr) (c : Nat) (l : List S58) (m : Int) (w : World) (ha : Kd.C k58 w A l.length l) (hm : MkC l m) (h0 : 0 ≤ m) (h1 : m + 2 * l.length ≤ 1000000000) :
  Calls Tryz.prog 14 #[.slice A l.length c,.int .i64 m] w fun e w'=>e = .returned (.int .i64 (m + 2 * l.length)) ∧ w' = w:=by
 have HA:=qz.mk ha
 have HM:=qz.mk hm
 have HL:=qz.mk (And.intro h0 h1)
 clear ha hm h0 h1
 go_enter Tryz.func14,Tryz.ntmps14
 go_wp2_with fail
 go_loopg [1,5] (l.length + 1) (fun kq v1 v5 w'=>∃ i : Nat,v1 = .int .i64 (m + 2 * i) ∧ v5 = .int .i64 (i : Int) ∧ qz (i + kq = l.length + 1 ∧ i ≤ l.length) ∧ w = w')
 case atStart=>exact ⟨0,ia',rfl,⟨aa',aa'⟩,rfl⟩
 obtain ⟨i,rfl,rfl,HI,rfl⟩:=hrel
 cases gk with
 | zero =>
  exfalso
  have:=HI.o
  omega
 | succ k1 =>
  by_cases c : i < l.length
  ·have cl : decide ((i : Int) < (l.length : Int)) = true:=decide_eq_true aa'
   obtain ⟨a,e_,ha0,ha1⟩:=zm' HA.o (i : Int) aa' aa'
   subst e_
   rw [HM.o i c] at ha0 ha1
   simp only [Int.toNat_natCast] at ha0 ha1
   have hw:=w1_ (m:=m + 2 * (i : Int)) oa' oa'
   have cx : (m + 2 * (i : Int) != m + 2 * (i : Int)) = false:=by simp
   have cy : (m + 2 * (i : Int) + 1 != wrap64 (m + 2 * (i : Int) + 1)) = false:=by rw [hw];simp
   have p : ((0 : Int) ≤ (i : Int)) = True:=eq_true aa'
   have q : ((i : Int) < (l.length : Int)) = True:=eq_true aa'
   have HC:=qz.mk c
   have HW:=qz.mk hw
   have cl2:=eq_true c
   clear c hw
   go_wp2_with fail
   go_roundg k1
   case measure=>omega
   case rel=>exact ⟨i + 1,by rw [HW.o,w1_ oa' Ma'];congr 1;omega,qb',⟨fa',HC.o⟩,rfl⟩
  have cl : decide ((i : Int) < (l.length : Int)) = false:=decide_eq_false aa'
  have cl2:=eq_false c
  have hi : i = l.length:=by have:=HI.o;omega
  subst hi
  clear c
  go_wp2_with fail
  go_ret
  exact ⟨rfl,rfl⟩
theorem om' (A : Option Addr) (c : Nat) (l : List S80) (m r : Int) (w : World) (ha : Kd.C k80 w A l.length l) (hm : MkG l m r) (h0 : 0 ≤ m) (h1 : r ≤ 1000000000) (hl : l.length ≤ 1000000) :
  Calls Tryz.prog 36 #[.slice A l.length c,.int .i64 m] w fun e w'=>e = .returned (.int .i64 r) ∧ w' = w:=by
 have hu80:=Tryz.underlying80
 have HA:=qz.mk ha
 have HM:=qz.mk hm
 have HL:=qz.mk (And.intro h0 (And.intro h1 hl))
 clear ha hm h0 h1 hl
 go_enter Tryz.func36,Tryz.ntmps36
 go_wp2_with fail
 go_loopg [1,5] (l.length + 1) (fun kq v1 v5 w'=>∃ (i : Nat) (k : Int),v1 = .int .i64 k ∧ v5 = .int .i64 (i : Int) ∧ qz (i + kq = l.length + 1 ∧ i ≤ l.length ∧ 0 ≤ k) ∧ qz (MkG (l.drop i) k r) ∧ w = w')
 case atStart=>exact ⟨0,m,rfl,rfl,⟨aa',aa',HL.o.1⟩,HM,rfl⟩
 clear HM
 obtain ⟨i,k,rfl,rfl,HI,HM,rfl⟩:=hrel
 have h:=HM.o
 clear HM
 cases gk with
 | zero =>
  exfalso
  have:=HI.o
  omega
 | succ k1 =>
  by_cases c : i < l.length
  ·have cl : decide ((i : Int) < (l.length : Int)) = true:=decide_eq_true aa'
   obtain ⟨a,Aa,ca,e_,ha0,ha1,hal,har⟩:=Fk' HA.o (i : Int) aa' aa'
   subst e_
   have hx : Lf' l (i : Int) = l[i]:=by simp [Lf',c]
   rw [List.drop_eq_getElem_cons c,← hx] at h
   obtain ⟨X,hX⟩ : ∃ X,Lf' l (i : Int) = X:=⟨_,rfl⟩
   simp only [hX,Int.toNat_natCast] at ha0 ha1 hal har h
   cases h with
   | cons h hz hxl rest =>
    have hr:=rest.le
    have hk:=HI.o.2.2
    have HHI:=qz.mk (fk' Aa ca X.f0 k w har h hk oa')
    have cz : (X.f1 != k + (X.f0.length : Int)) = false:=by rw [hz];simp
    have cn:=nb_ (m:=k + (X.f0.length : Int)) aa'
    have HR : qz (MkG (l.drop (i + 1)) (k + X.f0.length + 1) r):=⟨by rw [← hz];exact rest⟩
    have HKK : qz (0 ≤ k + (X.f0.length : Int) ∧ k + (X.f0.length : Int) ≤ 1000000000):=⟨oa'⟩
    have p : ((0 : Int) ≤ (i : Int)) = True:=eq_true aa'
    have q : ((i : Int) < (l.length : Int)) = True:=eq_true aa'
    have HC:=qz.mk c
    have cl2:=eq_true c
    clear c hx hX h hz hxl rest hr hk har hal
    go_wp2_with (first|(go_at_call 35;refine HHI.o.mono ?_;rintro e w2 ⟨rfl,h2⟩;replace h2:=h2.symm;subst h2))
    go_roundg k1
    case measure=>omega
    case rel=>exact ⟨i + 1,_,by rw [w1_ HKK.o.1 (by have:=HKK.o;omega)],qb',⟨fa',HC.o,by have:=HKK.o;omega⟩,HR,rfl⟩
  have cl : decide ((i : Int) < (l.length : Int)) = false:=decide_eq_false aa'
  have cl2:=eq_false c
  rw [List.drop_eq_nil_of_le aa'] at h
  cases h
  clear c
  go_wp2_with fail
  go_ret
  exact ⟨rfl,rfl⟩
theorem xn' (A B : Option Addr) (ca cb : Nat) (Y : List Int) (G : List S80) (m r : Int) (w : World) (ha : Kd.C (Kd.int .i64) w A Y.length Y) (hb : Kd.C k80 w B G.length G) (hm : MkI Y m) (hg : MkG G (m + Y.length) r) (h0 : 0 ≤ m) (h1 : r ≤ 1000000000) (hl : G.length ≤ 1000000) :
  Calls Tryz.prog 15 #[.agg #[.slice A Y.length ca,.slice B G.length cb],.int .i64 m] w fun e w'=>e = .returned (.int .i64 r) ∧ Below w.heap.size w w':=by
 have hu30:=Tryz.underlying30
 have hle:=hg.le
 have HA:=qz.mk ha
 have HB:=qz.mk hb
 have HM:=qz.mk hm
 have HG:=qz.mk hg
 have HL:=qz.mk (And.intro h0 (And.intro h1 (And.intro hl hle)))
 have cn1:=nb_ (m:=m + (Y.length : Int)) aa'
 have cn2:=nb_ (m:=r) aa'
 clear ha hb hm hg h0 h1 hl hle
 go_enter Tryz.func15,Tryz.ntmps15
 go_upto_region 1 with fail
 have BX1 : qz ((w.alloc (.cells #[.slice A Y.length ca,.slice B G.length cb] 30)).heap[w.heap.size]? = some (.cells #[.slice A Y.length ca,.slice B G.length cb] 30 (0,0))):=⟨yd' w _⟩
 have HB1 : qz (Below w.heap.size w (w.alloc (.cells #[.slice A Y.length ca,.slice B G.length cb] 30))):=⟨qo (Below.refl _ _) _⟩
 generalize w.alloc (.cells #[.slice A Y.length ca,.slice B G.length cb] 30) = W1 at *
 have hb0 : W1.cell? ⟨w.heap.size,0,none⟩ = some (.slice A Y.length ca):=(qq BX1.o 0).trans rfl
 have hb1 : W1.cell? ⟨w.heap.size,1,none⟩ = some (.slice B G.length cb):=(qq BX1.o 1).trans rfl
 have HHI:=qz.mk (fk' A ca Y m W1 (Kd.C_below HA.o HB1.o) HM.o HL.o.1 oa')
 have HHG:=qz.mk (om' B cb G _ r W1 (Kd.C_below HB.o HB1.o) HG.o oa' HL.o.2.1 HL.o.2.2.1)
 go_wp2_with (first|(go_at_call 35;refine HHI.o.mono ?_;rintro e w2 ⟨rfl,h2⟩;replace h2:=h2.symm;subst h2)|(go_at_call 36;refine HHG.o.mono ?_;rintro e w2 ⟨rfl,h2⟩;replace h2:=h2.symm;subst h2))
 go_ret
 exact ⟨rfl,HB1.o⟩
theorem uo' {α : Type} {d : Kd α} {e base g n cap : Nat} {ok okp : Nat → Prop} {W : World} {xs : List α} (h : d.R e W base ok (.slice (some ⟨g,0,none⟩) n cap) xs) (z : α) (i : Nat) (h1 : i < n) {x' : α} {seg : List Value} (hs : seg.length = d.sz) (hM : d.M W base okp x' seg) (hok : ∀ k,okp k → ok k ∧ k ≠ g) :
  d.R e (W.setCells g (i * d.sz) seg) base ok (.slice (some ⟨g,0,none⟩) n cap) (xs.set i x'):=by
 obtain ⟨c,hcl,-,hcc,-⟩:=Kd.R_elem h z (i : Int) aa' aa'
 have:=(Kd.R_seg h (i : Int) aa' aa' (c:=c) (seg:=seg) (j:=0) (x':=x') (okp:=okp) hcl hcc aa' (by
  rw [List.take_zero,List.nil_append,Nat.zero_add,List.drop_eq_nil_of_le aa',List.append_nil]
  exact hM) hok).1
 simpa using this
theorem gk' (P : Nat → Prop) (u : Value) (l : List Int) (m : Int) (w0 w : World) (hB : Below w0.heap.size w0 w) (ho : Kd.R (Kd.int .i64) 3 w w0.heap.size P u l) (h0 : 0 ≤ m) (h1 : m + l.length ≤ 1000000000) :
  Calls Tryz.prog 33 #[u,.int .i64 m] w fun e w'=>∃ r,e = .returned (.int .i64 (m + l.length)) ∧ r.length = l.length ∧ MkI r m ∧ Kd.R (Kd.int .i64) 3 w' w0.heap.size P u r ∧ Below w0.heap.size w0 w' ∧ oe' w w' P:=by
 obtain ⟨A,c,e_⟩:=Kd.R_slice ho
 subst e_
 have HO:=qz.mk ho
 have HB:=qz.mk hB
 have HK:=qz.mk (oe'.refl w P)
 have HL:=qz.mk (And.intro h0 h1)
 clear ho hB h0 h1
 go_enter Tryz.func33,Tryz.ntmps33
 go_wp2_with fail
 go_loopg [1,5] (l.length + 1) (fun kq v1 v5 w'=>∃ (i : Nat) (xs : List Int),v1 = .int .i64 (m + i) ∧ v5 = .int .i64 (i : Int) ∧ qz (i + kq = l.length + 1 ∧ i ≤ l.length) ∧ qz (xs.length = l.length ∧ ∀ j : Nat,j < i → rd xs (j : Int) = m + j) ∧ qz (Kd.R (Kd.int .i64) 3 w' w0.heap.size P (.slice A l.length c) xs) ∧ qz (Below w0.heap.size w0 w') ∧ qz (oe' w w' P))
 case atStart=>exact ⟨0,l,ia',rfl,⟨aa',aa'⟩,⟨rfl,fun j h=>by omega⟩,HO,HB,HK⟩
 clear HO HB HK
 obtain ⟨i,xs,rfl,rfl,HI,HX,HO,HB,HK⟩:=hrel
 cases gk with
 | zero =>
  exfalso
  have:=HI.o
  omega
 | succ k1 =>
  by_cases q : i < l.length
  ·have cl : decide ((i : Int) < (l.length : Int)) = true:=decide_eq_true aa'
   obtain ⟨b,c',e1_,hb,hbb,-⟩:=fe' HO.o Hb'
   obtain rfl : A = some ⟨b,0,none⟩:=by injection e1_
   clear e1_
   obtain ⟨x0,f0⟩:=Gd' HO.o (i : Int) aa' Hb'
   have hp:=Kd.R_putn HO.o (i : Int) (m + i)
   simp only [Int.toNat_natCast] at x0 f0 hp
   have HP : qz (Kd.R (Kd.int .i64) 3 (wr.setCell ⟨b,i,none⟩ (.int .i64 (m + i))) w0.heap.size P (.slice (some ⟨b,0,none⟩) l.length c) (xs.set i (m + i))):=⟨hp⟩
   have HBB:=qz.mk (And.intro hb hbb)
   have p : ((0 : Int) ≤ (i : Int)) = True:=eq_true aa'
   have q' : ((i : Int) < (l.length : Int)) = True:=eq_true aa'
   have HC:=qz.mk q
   have cl2:=eq_true q
   clear hp hb hbb q
   go_wp2_with fail
   go_roundg k1
   case measure=>omega
   case rel=>exact ⟨i + 1,xs.set i (m + i),qd',qb',⟨fa',HC.o⟩,⟨by rw [List.length_set];exact HX.o.1,fun j hj=>by
    unfold rd
    rw [Int.toNat_natCast,List.getD_eq_getElem?_getD,List.getElem?_set]
    by_cases e : i = j
    ·subst e
     rw [if_pos rfl,if_pos (by have:=HX.o.1;have:=HC.o;omega)]
     rfl
    rw [if_neg e]
    have:=HX.o.2 j aa'
    unfold rd at this
    rw [Int.toNat_natCast,List.getD_eq_getElem?_getD] at this
    exact this⟩,HP,⟨qp HB.o HBB.o.2⟩,⟨oe'.setCell HK.o (.inl HBB.o.1) _⟩⟩
  have cl : decide ((i : Int) < (l.length : Int)) = false:=decide_eq_false aa'
  have cl2:=eq_false q
  have hi : i = l.length:=by have:=HI.o;omega
  subst hi
  clear q
  go_wp2_with fail
  go_ret
  exact ⟨xs,rfl,HX.o.1,fun j hj=>HX.o.2 j Hb',HO.o,HB.o,HK.o⟩
theorem Cl' (P : Nat → Prop) (u : Value) (l : List S58) (m : Int) (w0 w : World) (hB : Below w0.heap.size w0 w) (ho : Kd.R k58 58 w w0.heap.size P u l) (h0 : 0 ≤ m) (h1 : m + 2 * l.length ≤ 1000000000) :
  Calls Tryz.prog 12 #[u,.int .i64 m] w fun e w'=>e = .returned (.int .i64 (m + 2 * l.length)) ∧ Below w0.heap.size w0 w' ∧ oe' w w' P ∧ ∃ r,r.length = l.length ∧ MkC r m ∧ Kd.R k58 58 w' w0.heap.size P u r:=by
 have hu58:=Tryz.underlying58
 obtain ⟨A,c,e_⟩:=Kd.R_slice ho
 subst e_
 have HO:=qz.mk ho
 have HB:=qz.mk hB
 have HK:=qz.mk (oe'.refl w P)
 have HL:=qz.mk (And.intro h0 h1)
 clear ho hB h0 h1
 go_enter Tryz.func12,Tryz.ntmps12
 go_wp2_with fail
 go_loopg [1,5] (l.length + 1) (fun kq v1 v5 w'=>∃ (i : Nat) (xs : List S58),v1 = .int .i64 (m + 2 * (i : Int)) ∧ v5 = .int .i64 (i : Int) ∧ qz (i + kq = l.length + 1 ∧ i ≤ l.length) ∧ qz (xs.length = l.length ∧ ∀ j : Nat,j < i → ci' xs (j : Int) = ⟨m + 2 * j,m + 2 * j + 1⟩) ∧ qz (Kd.R k58 58 w' w0.heap.size P (.slice A l.length c) xs) ∧ qz (Below w0.heap.size w0 w') ∧ qz (oe' w w' P))
 case atStart=>exact ⟨0,l,ia',rfl,⟨aa',aa'⟩,⟨rfl,fun j h=>by omega⟩,HO,HB,HK⟩
 clear HO HB HK
 obtain ⟨i,xs,rfl,rfl,HI,HX,HO,HB,HK⟩:=hrel
 cases gk with
 | zero =>
  exfalso
  have:=HI.o
  omega
 | succ k1 =>
  by_cases q : i < l.length
  ·have cl : decide ((i : Int) < (l.length : Int)) = true:=decide_eq_true aa'
   obtain ⟨b,c',e1_,hb,hbb,-⟩:=fe' HO.o Hb'
   obtain rfl : A = some ⟨b,0,none⟩:=by injection e1_
   clear e1_
   obtain ⟨cc,hcl,hM,hcc,hfr⟩:=Kd.R_elem HO.o z58 (i : Int) aa' aa'
   obtain rfl:=cp' hM
   have hp:=uo' HO.o z58 i q (x':=(⟨(m + 2 * (i : Int)),(wrap64 ((m + 2 * (i : Int)) + 1))⟩ : S58)) (seg:=[.int .i64 (m + 2 * (i : Int)),.int .i64 (wrap64 ((m + 2 * (i : Int)) + 1))]) (okp:=fun _=>False) rfl (Lj' _ _ _ (⟨(m + 2 * (i : Int)),(wrap64 ((m + 2 * (i : Int)) + 1))⟩ : S58)) (fun _ h=>h.elim)
   have h1 : wrap64 ((m + 2 * (i : Int)) + 1) = m + 2 * (i : Int) + 1:=by
    rw [w1_ oa' oa']
   have h2 : wrap64 ((wrap64 ((m + 2 * (i : Int)) + 1)) + 1) = m + 2 * (i : Int) + 2:=by
    rw [h1];rw [w1_ oa' oa'];omega
   have x0 : wr.cell? ⟨b,(i : Int).toNat * 2 + 0,none⟩ = some _:=hcc 0 _ rfl
   have f0 : wr.frozen? ⟨b,(i : Int).toNat * 2 + 0,none⟩ = false:=hfr 0
   have x1 : wr.cell? ⟨b,(i : Int).toNat * 2 + 1,none⟩ = some _:=hcc 1 _ rfl
   have f1 : wr.frozen? ⟨b,(i : Int).toNat * 2 + 1,none⟩ = false:=hfr 1
   simp only [Int.toNat_natCast,Nat.add_zero] at x0 f0 x1 f1
   have HP : qz (Kd.R k58 58 ((wr.setCell ⟨b,i * 2,none⟩ (.int .i64 (m + 2 * (i : Int)))).setCell ⟨b,i * 2 + 1,none⟩ (.int .i64 (wrap64 ((m + 2 * (i : Int)) + 1)))) w0.heap.size P (.slice (some ⟨b,0,none⟩) l.length c) (xs.set i (⟨(m + 2 * (i : Int)),(wrap64 ((m + 2 * (i : Int)) + 1))⟩ : S58))):=⟨hp⟩
   have HBB:=qz.mk (And.intro hb hbb)
   have H1:=qz.mk h1
   have HN:=qz.mk h2
   have p : ((0 : Int) ≤ (i : Int)) = True:=eq_true aa'
   have q' : ((i : Int) < (l.length : Int)) = True:=eq_true aa'
   have HC:=qz.mk q
   have cl2:=eq_true q
   clear hp hcl hM hcc hfr hb hbb q h1 h2
   go_wp2_with fail
   go_roundg k1
   case measure=>omega
   case rel=>exact ⟨i + 1,xs.set i (⟨(m + 2 * (i : Int)),(wrap64 ((m + 2 * (i : Int)) + 1))⟩ : S58),by rw [HN.o];congr 1;omega,qb',⟨fa',HC.o⟩,⟨by rw [List.length_set];exact HX.o.1,fun j hj=>by
    unfold ci'
    rw [Int.toNat_natCast,List.getD_eq_getElem?_getD,List.getElem?_set]
    by_cases e : i = j
    ·subst e
     rw [if_pos rfl,if_pos (by have:=HX.o.1;have:=HC.o;omega),Option.getD_some,H1.o]
    rw [if_neg e]
    have:=HX.o.2 j aa'
    unfold ci' at this
    rw [Int.toNat_natCast,List.getD_eq_getElem?_getD] at this
    exact this⟩,HP,⟨rd'⟩,⟨sd'⟩⟩
  have cl : decide ((i : Int) < (l.length : Int)) = false:=decide_eq_false aa'
  have cl2:=eq_false q
  have hi : i = l.length:=by have:=HI.o;omega
  subst hi
  clear q
  go_wp2_with fail
  go_ret
  exact ⟨rfl,HB.o,HK.o,xs,HX.o.1,fun j hj=>HX.o.2 j Hb',HO.o⟩
theorem yn' (P : Nat → Prop) (u : Value) (l : List S73) (m : Int) (w0 w : World) (hB : Below w0.heap.size w0 w) (ho : Kd.R k73 73 w w0.heap.size P u l) (h0 : 0 ≤ m) (h1 : m + 5 * l.length ≤ 1000000000) :
  Calls Tryz.prog 32 #[u,.int .i64 m] w fun e w'=>e = .returned (.int .i64 (m + 5 * l.length)) ∧ Below w0.heap.size w0 w' ∧ oe' w w' P:=by
 have hu73:=Tryz.underlying73
 obtain ⟨A,c,e_⟩:=Kd.R_slice ho
 subst e_
 have HO:=qz.mk ho
 have HB:=qz.mk hB
 have HK:=qz.mk (oe'.refl w P)
 have HL:=qz.mk (And.intro h0 h1)
 clear ho hB h0 h1
 go_enter Tryz.func32,Tryz.ntmps32
 go_wp2_with fail
 go_loopg [1,5] (l.length + 1) (fun kq v1 v5 w'=>∃ (i : Nat) (xs : List S73),v1 = .int .i64 (m + 5 * (i : Int)) ∧ v5 = .int .i64 (i : Int) ∧ qz (i + kq = l.length + 1 ∧ i ≤ l.length) ∧ qz (xs.length = l.length) ∧ qz (Kd.R k73 73 w' w0.heap.size P (.slice A l.length c) xs) ∧ qz (Below w0.heap.size w0 w') ∧ qz (oe' w w' P))
 case atStart=>exact ⟨0,l,ia',rfl,⟨aa',aa'⟩,⟨rfl⟩,HO,HB,HK⟩
 clear HO HB HK
 obtain ⟨i,xs,rfl,rfl,HI,HX,HO,HB,HK⟩:=hrel
 cases gk with
 | zero =>
  exfalso
  have:=HI.o
  omega
 | succ k1 =>
  by_cases q : i < l.length
  ·have cl : decide ((i : Int) < (l.length : Int)) = true:=decide_eq_true aa'
   obtain ⟨b,c',e1_,hb,hbb,-⟩:=fe' HO.o (by have:=HX.o;omega)
   obtain rfl : A = some ⟨b,0,none⟩:=by injection e1_
   clear e1_
   obtain ⟨cc,hcl,hM,hcc,hfr⟩:=Kd.R_elem HO.o z73 (i : Int) aa' aa'
   obtain rfl:=oj' hM
   have hp:=uo' HO.o z73 i q (x':=(⟨(m + 5 * (i : Int)),(wrap64 ((m + 5 * (i : Int)) + 1)),(wrap64 ((wrap64 ((m + 5 * (i : Int)) + 1)) + 1)),(wrap64 ((wrap64 ((wrap64 ((m + 5 * (i : Int)) + 1)) + 1)) + 1)),(wrap64 ((wrap64 ((wrap64 ((wrap64 ((m + 5 * (i : Int)) + 1)) + 1)) + 1)) + 1))⟩ : S73)) (seg:=[.int .i64 (m + 5 * (i : Int)),.int .i64 (wrap64 ((m + 5 * (i : Int)) + 1)),.int .i64 (wrap64 ((wrap64 ((m + 5 * (i : Int)) + 1)) + 1)),.int .i64 (wrap64 ((wrap64 ((wrap64 ((m + 5 * (i : Int)) + 1)) + 1)) + 1)),.int .i64 (wrap64 ((wrap64 ((wrap64 ((wrap64 ((m + 5 * (i : Int)) + 1)) + 1)) + 1)) + 1))]) (okp:=fun _=>False) rfl (nl' _ _ _ (⟨(m + 5 * (i : Int)),(wrap64 ((m + 5 * (i : Int)) + 1)),(wrap64 ((wrap64 ((m + 5 * (i : Int)) + 1)) + 1)),(wrap64 ((wrap64 ((wrap64 ((m + 5 * (i : Int)) + 1)) + 1)) + 1)),(wrap64 ((wrap64 ((wrap64 ((wrap64 ((m + 5 * (i : Int)) + 1)) + 1)) + 1)) + 1))⟩ : S73)) (fun _ h=>h.elim)
   have h1 : wrap64 ((m + 5 * (i : Int)) + 1) = m + 5 * (i : Int) + 1:=by
    rw [w1_ oa' oa']
   have h2 : wrap64 ((wrap64 ((m + 5 * (i : Int)) + 1)) + 1) = m + 5 * (i : Int) + 2:=by
    rw [h1];rw [w1_ oa' oa'];omega
   have h3 : wrap64 ((wrap64 ((wrap64 ((m + 5 * (i : Int)) + 1)) + 1)) + 1) = m + 5 * (i : Int) + 3:=by
    rw [h2];rw [w1_ oa' oa'];omega
   have h4 : wrap64 ((wrap64 ((wrap64 ((wrap64 ((m + 5 * (i : Int)) + 1)) + 1)) + 1)) + 1) = m + 5 * (i : Int) + 4:=by
    rw [h3];rw [w1_ oa' oa'];omega
   have h5 : wrap64 ((wrap64 ((wrap64 ((wrap64 ((wrap64 ((m + 5 * (i : Int)) + 1)) + 1)) + 1)) + 1)) + 1) = m + 5 * (i : Int) + 5:=by
    rw [h4];rw [w1_ oa' oa'];omega
   have x0 : wr.cell? ⟨b,(i : Int).toNat * 5 + 0,none⟩ = some _:=hcc 0 _ rfl
   have f0 : wr.frozen? ⟨b,(i : Int).toNat * 5 + 0,none⟩ = false:=hfr 0
   have x1 : wr.cell? ⟨b,(i : Int).toNat * 5 + 1,none⟩ = some _:=hcc 1 _ rfl
   have f1 : wr.frozen? ⟨b,(i : Int).toNat * 5 + 1,none⟩ = false:=hfr 1
   have x2 : wr.cell? ⟨b,(i : Int).toNat * 5 + 2,none⟩ = some _:=hcc 2 _ rfl
   have f2 : wr.frozen? ⟨b,(i : Int).toNat * 5 + 2,none⟩ = false:=hfr 2
   have x3 : wr.cell? ⟨b,(i : Int).toNat * 5 + 3,none⟩ = some _:=hcc 3 _ rfl
   have f3 : wr.frozen? ⟨b,(i : Int).toNat * 5 + 3,none⟩ = false:=hfr 3
   have x4 : wr.cell? ⟨b,(i : Int).toNat * 5 + 4,none⟩ = some _:=hcc 4 _ rfl
   have f4 : wr.frozen? ⟨b,(i : Int).toNat * 5 + 4,none⟩ = false:=hfr 4
   simp only [Int.toNat_natCast,Nat.add_zero] at x0 f0 x1 f1 x2 f2 x3 f3 x4 f4
   have HP : qz (Kd.R k73 73 (((((wr.setCell ⟨b,i * 5,none⟩ (.int .i64 (m + 5 * (i : Int)))).setCell ⟨b,i * 5 + 1,none⟩ (.int .i64 (wrap64 ((m + 5 * (i : Int)) + 1)))).setCell ⟨b,i * 5 + 2,none⟩ (.int .i64 (wrap64 ((wrap64 ((m + 5 * (i : Int)) + 1)) + 1)))).setCell ⟨b,i * 5 + 3,none⟩ (.int .i64 (wrap64 ((wrap64 ((wrap64 ((m + 5 * (i : Int)) + 1)) + 1)) + 1)))).setCell ⟨b,i * 5 + 4,none⟩ (.int .i64 (wrap64 ((wrap64 ((wrap64 ((wrap64 ((m + 5 * (i : Int)) + 1)) + 1)) + 1)) + 1)))) w0.heap.size P (.slice (some ⟨b,0,none⟩) l.length c) (xs.set i (⟨(m + 5 * (i : Int)),(wrap64 ((m + 5 * (i : Int)) + 1)),(wrap64 ((wrap64 ((m + 5 * (i : Int)) + 1)) + 1)),(wrap64 ((wrap64 ((wrap64 ((m + 5 * (i : Int)) + 1)) + 1)) + 1)),(wrap64 ((wrap64 ((wrap64 ((wrap64 ((m + 5 * (i : Int)) + 1)) + 1)) + 1)) + 1))⟩ : S73))):=⟨hp⟩
   have HBB:=qz.mk (And.intro hb hbb)
   have H1:=qz.mk h1
   have HN:=qz.mk h5
   have p : ((0 : Int) ≤ (i : Int)) = True:=eq_true aa'
   have q' : ((i : Int) < (l.length : Int)) = True:=eq_true aa'
   have HC:=qz.mk q
   have cl2:=eq_true q
   clear hp hcl hM hcc hfr hb hbb q h1 h2 h3 h4 h5
   go_wp2_with fail
   go_roundg k1
   case measure=>omega
   case rel=>exact ⟨i + 1,xs.set i (⟨(m + 5 * (i : Int)),(wrap64 ((m + 5 * (i : Int)) + 1)),(wrap64 ((wrap64 ((m + 5 * (i : Int)) + 1)) + 1)),(wrap64 ((wrap64 ((wrap64 ((m + 5 * (i : Int)) + 1)) + 1)) + 1)),(wrap64 ((wrap64 ((wrap64 ((wrap64 ((m + 5 * (i : Int)) + 1)) + 1)) + 1)) + 1))⟩ : S73),by rw [HN.o];congr 1;omega,qb',⟨fa',HC.o⟩,⟨by rw [List.length_set];exact HX.o⟩,HP,⟨rd'⟩,⟨sd'⟩⟩
  have cl : decide ((i : Int) < (l.length : Int)) = false:=decide_eq_false aa'
  have cl2:=eq_false q
  have hi : i = l.length:=by have:=HI.o;omega
  subst hi
  clear q
  go_wp2_with fail
  go_ret
  exact ⟨rfl,HB.o,HK.o⟩
theorem zn' (P : Nat → Prop) (n : Int) (u : Value) (l : List S73) (m : Int) (w0 w : World) (hB : Below w0.heap.size w0 w) (ho : Kd.R k73 73 w w0.heap.size P u l) (h0 : 0 ≤ m) (h1 : m + 5 * l.length ≤ 1000000000) :
  Calls Tryz.prog 11 #[.agg #[.int .i64 n,u],.int .i64 m] w fun e w'=>e = .returned (.int .i64 (m + 5 * l.length)) ∧ Below w0.heap.size w0 w' ∧ oe' w w' P:=by
 have hu35:=Tryz.underlying35
 obtain ⟨A,c,e_⟩:=Kd.R_slice ho
 subst e_
 have HO:=qz.mk ho
 have HB:=qz.mk hB
 have HL:=qz.mk (And.intro h0 h1)
 clear ho hB h0 h1
 go_enter Tryz.func11,Tryz.ntmps11
 go_upto_region 1 with fail
 have BX1 : qz ((w.alloc (.cells #[.int .i64 n,.slice A l.length c] 35)).heap[w.heap.size]? = some (.cells #[.int .i64 n,.slice A l.length c] 35 (0,0))):=⟨yd' w _⟩
 have HB1 : qz (Below w.heap.size w (w.alloc (.cells #[.int .i64 n,.slice A l.length c] 35))):=⟨qo (Below.refl _ _) _⟩
 generalize w.alloc (.cells #[.int .i64 n,.slice A l.length c] 35) = W1 at *
 have hb1 : W1.cell? ⟨w.heap.size,1,none⟩ = some (.slice A l.length c):=(qq BX1.o 1).trans rfl
 have HME:=qz.mk (yn' P (.slice A l.length c) l m w0 W1 (qy HB.o HB1.o) (Kd.R_below HO.o HB1.o) HL.o.1 HL.o.2)
 go_wp2_with (first|(go_at_call 32;refine HME.o.mono ?_;rintro e w2 ⟨rfl,hb,hk⟩;have HB2:=qz.mk hb;have HK2:=qz.mk hk;clear hb hk))
 go_ret
 exact ⟨rfl,HB2.o,(oe'.of_below HB1.o P).then_ HK2.o (fun _ h=>.inl h)⟩
end Go.Proofs.YtnffimpoekjkpaaGreat.QFnExactSolve
