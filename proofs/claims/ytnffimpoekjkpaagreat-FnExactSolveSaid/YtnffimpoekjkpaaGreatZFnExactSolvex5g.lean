import Derived.Test.YtnffimpoekjkpaaGreatZFnExactSolvex0
set_option linter.all false
namespace Go.Proofs.YtnffimpoekjkpaaGreat.QFnExactSolve
open Go.RowKit Go.Proofs.YtnffimpoekjkpaaGreatW.PrintWords Go.Proofs.YtnffimpoekjkpaaGreatW.PrintLast Go.Proofs.YtnffimpoekjkpaaGreatW.PrintMore
attribute [local go_sem] Od' Pd' Xd' Yd' Jd' Kd' Qd' Rd'
set_option maxHeartbeats 8000000
set_option maxRecDepth 100000
def impl_lesser.f (a0 : Int) (a1 : Int) : Option (Int):=if a0 < 0 then (some a1) else (if a1 < a0 then (some a1) else (some a0))
theorem impl_lesser.calls (a0 : Int) (a1 : Int) (r : Int) (w : World) (h : impl_lesser.f a0 a1 = some r) :
  Calls Tryz.prog 86 #[.int .i64 a0,.int .i64 a1] w fun e w'=>e = .returned (.int .i64 r) ∧ re' w w':=by
 have H : (if a0 < 0 then (some a1) else (if a1 < a0 then (some a1) else (some a0))) = some r:=h
 clear h
 by_cases c3 : a0 < 0
 ·rw [if_pos c3] at H
  have c3b0 : decide (a0 < 0) = true:=decide_eq_true c3
  clear c3
  obtain rfl:=Option.some.inj H
  go_enter Tryz.func86,Tryz.ntmps86
  go_wp2
  go_ret
  exact ⟨wa',ma'⟩
 rw [if_neg c3] at H
 have c3b0 : decide (a0 < 0) = false:=decide_eq_false c3
 clear c3
 by_cases c4 : a1 < a0
 ·rw [if_pos c4] at H
  have c4b0 : decide (a1 < a0) = true:=decide_eq_true c4
  clear c4
  obtain rfl:=Option.some.inj H
  go_enter Tryz.func86,Tryz.ntmps86
  go_wp2
  go_ret
  exact ⟨wa',ma'⟩
 rw [if_neg c4] at H
 have c4b0 : decide (a1 < a0) = false:=decide_eq_false c4
 clear c4
 obtain rfl:=Option.some.inj H
 go_enter Tryz.func86,Tryz.ntmps86
 go_wp2
 go_ret
 exact ⟨wa',ma'⟩
def impl_hasInt.l0 : Nat → Int → List Int → Int → Int → Option (Bool)
 | 0,_,_,_,_=>none
 | k + 1,x1,x7,x8,x9=>if x9 < x8 then (if 0 ≤ x9 then (if x9 < (x7.length : Int) then (if (rd x7 x9) = x1 then (some true) else (impl_hasInt.l0 k x1 x7 x8 (wrap64 (x9 + 1)))) else (none)) else (none)) else (some false)
def impl_hasInt.f (k : Nat) (l0 : List Int) (a1 : Int) : Option (Bool):=impl_hasInt.l0 k a1 l0 (l0.length : Int) 0
theorem impl_hasInt.calls (k : Nat) (A0 : Option Addr) (c0 : Nat) (l0 : List Int) (a1 : Int) (r : Bool) (w : World) (hr0 : Kd.C (Kd.int .i64) w A0 l0.length l0) (hc0 : l0.length ≤ c0) (h : impl_hasInt.f k l0 a1 = some r) :
  Calls Tryz.prog 88 #[.slice A0 l0.length c0,.int .i64 a1] w fun e w'=>e = .returned (.bool r) ∧ re' w w':=by
 have HR0:=qz.mk hr0
 have HC0:=qz.mk hc0
 clear hr0 hc0
 have H : (impl_hasInt.l0 k a1 l0 (l0.length : Int) 0) = some r:=h
 clear h
 have H':=qz.mk H
 clear H
 go_enter Tryz.func88,Tryz.ntmps88
 go_wp2
 go_loopg [9] k (fun kq v9 w'=>∃ (x9_1 : Int),v9 = .int .i64 x9_1 ∧ qz (impl_hasInt.l0 kq a1 l0 (l0.length : Int) x9_1 = some r) ∧ qz (kq ≤ k) ∧ re' w w')
 case atStart=>exact ⟨(0),rs_,H',⟨Nat.le_refl _⟩,ma'⟩
 clear H'
 try clear p2
 obtain ⟨x9_1,rfl,HA,HK1,⟨m1,rfl⟩⟩:=hrel
 obtain _|k1:=gk
 ·exact absurd HA.o (by simp [impl_hasInt.l0])
 have H:=HA.o
 clear HA
 simp only [impl_hasInt.l0] at H
 by_cases c3 : x9_1 < (l0.length : Int)
 ·rw [if_pos c3] at H
  have c3b0 : decide (x9_1 < (l0.length : Int)) = true:=decide_eq_true c3
  clear c3
  by_cases c4 : 0 ≤ x9_1
  ·rw [if_pos c4] at H
   have c4b0 : decide (0 ≤ x9_1) = true:=decide_eq_true c4
   clear c4
   by_cases c5 : x9_1 < (l0.length : Int)
   ·rw [if_pos c5] at H
    have c5b0 : decide (x9_1 < (l0.length : Int)) = true:=decide_eq_true c5
    clear c5
    by_cases c6 : (rd l0 x9_1) = a1
    ·rw [if_pos c6] at H
     have c6b0 : ((rd l0 x9_1) == a1) = true:=beq_iff_eq.mpr c6
     have c6b1 : ((rd l0 x9_1) != a1) = false:=bne_eq_false_iff_eq.mpr c6
     clear c6
     obtain rfl:=Option.some.inj H
     have p369 : 0 ≤ (x9_1 : Int):=dt_
     have q369 : x9_1 < (l0.length : Int):=dt_
     obtain ⟨ad369,e369,hx369_0⟩:=Kd.at_int HR0.o x9_1 p369 q369
     cases e369
     replace p369:=eq_true p369
     replace q369:=eq_true q369
     go_wp2
     go_ret
     exact ⟨wa',ma'⟩
    rw [if_neg c6] at H
    have c6b0 : ((rd l0 x9_1) == a1) = false:=beq_eq_false_iff_ne.mpr c6
    have c6b1 : ((rd l0 x9_1) != a1) = true:=bne_iff_ne.mpr c6
    have H':=qz.mk H
    clear H
    have p369 : 0 ≤ (x9_1 : Int):=dt_
    have q369 : x9_1 < (l0.length : Int):=dt_
    obtain ⟨ad369,e369,hx369_0⟩:=Kd.at_int HR0.o x9_1 p369 q369
    cases e369
    replace p369:=eq_true p369
    replace q369:=eq_true q369
    go_wp2
    go_roundg k1
    case measure=>have:=HK1.o;omega
    case rel=>exact ⟨(wrap64 (x9_1 + 1)),rs_,H',⟨vb'⟩,ma'⟩
   rw [if_neg c5] at H
   exact absurd H ia'
  rw [if_neg c4] at H
  exact absurd H ia'
 rw [if_neg c3] at H
 have c3b0 : decide (x9_1 < (l0.length : Int)) = false:=decide_eq_false c3
 clear c3
 obtain rfl:=Option.some.inj H
 go_wp2
 go_ret
 exact ⟨wa',ma'⟩
def impl_copyInts.f (l0 : List Int) : Option (List Int):=if ([] : List Int).length + l0.length < 17592186044416 then (some (([] : List Int) ++ l0)) else (none)
theorem impl_copyInts.calls (A0 : Option Addr) (c0 : Nat) (l0 : List Int) (r : List Int) (w : World) (hr0 : Kd.C (Kd.int .i64) w A0 l0.length l0) (hc0 : l0.length ≤ c0) (h : impl_copyInts.f l0 = some r) :
  Calls Tryz.prog 48 #[.slice A0 l0.length c0] w fun e w'=>∃ v0_ : Value,e = .returned (v0_) ∧ Kd.R (Kd.int .i64) 3 w' w.heap.size (fun _=>True) v0_ r ∧ Below w.heap.size w w':=by
 have HR0:=qz.mk hr0
 have HC0:=qz.mk hc0
 clear hr0 hc0
 have HB:=qz.mk (Below.refl w.heap.size w)
 have H : (if ([] : List Int).length + l0.length < 17592186044416 then (some (([] : List Int) ++ l0)) else (none)) = some r:=h
 clear h
 by_cases c2 : ([] : List Int).length + l0.length < 17592186044416
 ·rw [if_pos c2] at H
  have LMc2:=qz.mk c2
  clear c2
  obtain ⟨y412,hy412⟩ : ∃ y_ : List Int,y_ = (([] : List Int) ++ l0):=⟨_,rfl⟩
  replace H : (some y412) = some r:=by first|(rw [hy412];with_reducible exact H)|(have H2_:=(Option.bind_some _ _).symm.trans H;rw [hy412];with_reducible exact H2_)|(have H2_:=(Option.bind_some _ _).symm.trans H;with_reducible exact H2_)|with_reducible exact H|(rw [hy412];exact H)|exact H
  have Ny412:=qz.mk hy412
  clear hy412
  obtain rfl:=Option.some.inj H
  go_enter Tryz.func48,Tryz.ntmps48
  go_wp2_with (first|((with_reducible refine Ld' (b:=.append) (xs:=#[.const (.slice none 0 0),.tmp 3]) rfl ?_);at_builtin;refine Kd.R_append_rows (Kd.int .i64) (w0:=w) w.heap.size rfl (.const (.slice none 0 0)) (.tmp 3) 27 3 (.int .i64 0) 8 rfl Tryz.underlying27 Ud' rfl ba' aa' (.slice none 0 0) ([] : List Int) l0 _ _ _ (fun _=>True) (fun _=>False) rfl rfl ?aO ?aR (fun _ _ h=>h) (fun _ h=>h.elim) ?aF ?aB ?aS ?aL ?_;(case aR=>repeat (first|exact HR0.o|(with_reducible refine Kd.C_alloc ?_ _)|(with_reducible refine Kd.C_drewN ?_ _)|(with_reducible refine Kd.C_drew ?_)));(case aB=>exact hx_);(case aF=>exact (fun _ _=>trivial));(case aO=>exact ((Kd.R_nil _ _ _ _ (fun _=>True))));(case aS=>exact (qv hx_));(case aL=>have:=LMc2.o;omega);intro v413 w3 ho hb hg hat;rw [← Ny412.o] at ho;replace HB:=qz.mk (hb);have HO414:=qz.mk (ho);clear ho hb hg hat))
  go_ret
  exact ⟨_,rt_,by (with_reducible repeat (first|apply Kd.R_alloc|apply Kd.R_drewN|apply Kd.R_drew));exact HO414.o,hx_⟩
 rw [if_neg c2] at H
 exact absurd H ia'
end Go.Proofs.YtnffimpoekjkpaaGreat.QFnExactSolve
