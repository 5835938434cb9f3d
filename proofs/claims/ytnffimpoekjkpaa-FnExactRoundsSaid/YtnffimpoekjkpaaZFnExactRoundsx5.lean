/- Lean functions for the Go functions that the law FnExactRounds reaches, and that each Go function comes to just its Lean function's answer; by a program of this session. -/
import Derived.Test.YtnffimpoekjkpaaZFnExactRoundsx0
namespace Go.Proofs.Ytnffimpoekjkpaa.QFnExactRounds
open Go.RowKit Go.Proofs.YtnffimpoekjkpaaW.PrintWords Go.Proofs.YtnffimpoekjkpaaW.PrintLast Go.Proofs.YtnffimpoekjkpaaW.PrintMore
attribute [local go_sem] max2_int min2_int max_two min_two max_three min_three max_four min_four   -- for this text's walks alone
set_option linter.unusedVariables false
set_option linter.unusedSimpArgs false

/-- A state of type 47 at block g of W; what its slices lead to came in by w0. -/
def IsS47 (w0 W : World) (g : Nat) (f0 : Int) (f1 : List (S51)) (f2 : List Int) (f3 : List (S60)) (f4 : List Int) (f5 : List Int) (f6 : List Int) (f7 : Int) : Prop:=∃ A1 c1,∃ A2 c2,∃ A3 c3,∃ A4 c4,∃ A5 c5,∃ A6 c6,W.heap[g]? = some (.cells #[.int .i64 f0,.slice A1 f1.length c1,.slice A2 f2.length c2,.slice A3 f3.length c3,.slice A4 f4.length c4,.slice A5 f5.length c5,.slice A6 f6.length c6,.int .i64 f7] 47 (0,0)) ∧ w0.heap.size ≤ g ∧ Kd.C k51 w0 A1 f1.length f1 ∧ Kd.C (Kd.int .i64) w0 A2 f2.length f2 ∧ Kd.C k60 w0 A3 f3.length f3 ∧ Kd.C (Kd.int .i64) w0 A4 f4.length f4 ∧ Kd.C (Kd.int .i64) w0 A5 f5.length f5 ∧ Kd.C (Kd.int .i64) w0 A6 f6.length f6
theorem IsS47.grown {w0 W : World} {g : Nat} {f0 : Int} {f1 : List (S51)} {f2 : List Int} {f3 : List (S60)} {f4 : List Int} {f5 : List Int} {f6 : List Int} {f7 : Int} {W1 : World} {row : Option Nat} (h : IsS47 w0 W g f0 f1 f2 f3 f4 f5 f6 f7) (hw : W.grownBy W1 row) (hne : some g ≠ row) : IsS47 w0 W1 g f0 f1 f2 f3 f4 f5 f6 f7:=by
 obtain ⟨A1,c1,A2,c2,A3,c3,A4,c4,A5,c5,A6,c6,hb,hg,hr1,hr2,hr3,hr4,hr5,hr6⟩:=h
 exact ⟨A1,c1,A2,c2,A3,c3,A4,c4,A5,c5,A6,c6,blk_grown hb hw hne,hg,hr1,hr2,hr3,hr4,hr5,hr6⟩
theorem IsS47.fresh {w0 W : World} {g : Nat} {f0 : Int} {f1 : List (S51)} {f2 : List Int} {f3 : List (S60)} {f4 : List Int} {f5 : List Int} {f6 : List Int} {f7 : Int} (h : IsS47 w0 W g f0 f1 f2 f3 f4 f5 f6 f7) : ∀ k,W.heap.size ≤ k → k ≠ g:=by
 obtain ⟨A1,c1,A2,c2,A3,c3,A4,c4,A5,c5,A6,c6,hb,hg,hr1,hr2,hr3,hr4,hr5,hr6⟩:=h
 exact Kd.freshB hb
theorem IsS47.kept {w0 W : World} {g : Nat} {f0 : Int} {f1 : List (S51)} {f2 : List Int} {f3 : List (S60)} {f4 : List Int} {f5 : List Int} {f6 : List Int} {f7 : Int} {W1 : World} {S : Nat → Prop} (h : IsS47 w0 W g f0 f1 f2 f3 f4 f5 f6 f7) (hk : Kept W W1 S) (hne : ¬ S g) : IsS47 w0 W1 g f0 f1 f2 f3 f4 f5 f6 f7:=by
 obtain ⟨A1,c1,A2,c2,A3,c3,A4,c4,A5,c5,A6,c6,hb,hg,hr1,hr2,hr3,hr4,hr5,hr6⟩:=h
 exact ⟨A1,c1,A2,c2,A3,c3,A4,c4,A5,c5,A6,c6,blk_kept hb hk hne,hg,hr1,hr2,hr3,hr4,hr5,hr6⟩
theorem IsS47.below {w0 W : World} {g : Nat} {f0 : Int} {f1 : List (S51)} {f2 : List Int} {f3 : List (S60)} {f4 : List Int} {f5 : List Int} {f6 : List Int} {f7 : Int} {W1 : World} (h : IsS47 w0 W g f0 f1 f2 f3 f4 f5 f6 f7) (hw : Below W.heap.size W W1) : IsS47 w0 W1 g f0 f1 f2 f3 f4 f5 f6 f7:=h.grown (grown_of_below hw none) (by simp)
theorem IsS47.alloc {w0 W : World} {g : Nat} {f0 : Int} {f1 : List (S51)} {f2 : List Int} {f3 : List (S60)} {f4 : List Int} {f5 : List Int} {f6 : List Int} {f7 : Int} (h : IsS47 w0 W g f0 f1 f2 f3 f4 f5 f6 f7) (o : Obj) : IsS47 w0 (W.alloc o) g f0 f1 f2 f3 f4 f5 f6 f7:=h.below (qo (Below.refl _ _) o)
theorem IsS47.drewN {w0 W : World} {g : Nat} {f0 : Int} {f1 : List (S51)} {f2 : List Int} {f3 : List (S60)} {f4 : List Int} {f5 : List Int} {f6 : List Int} {f7 : Int} (h : IsS47 w0 W g f0 f1 f2 f3 f4 f5 f6 f7) (m : Nat) : IsS47 w0 (W.drewN m) g f0 f1 f2 f3 f4 f5 f6 f7:=h
theorem IsS47.drew {w0 W : World} {g : Nat} {f0 : Int} {f1 : List (S51)} {f2 : List Int} {f3 : List (S60)} {f4 : List Int} {f5 : List Int} {f6 : List Int} {f7 : Int} (h : IsS47 w0 W g f0 f1 f2 f3 f4 f5 f6 f7) : IsS47 w0 W.drew g f0 f1 f2 f3 f4 f5 f6 f7:=h
theorem IsS47.at_ {w0 W : World} {g : Nat} {f0 : Int} {f1 : List (S51)} {f2 : List Int} {f3 : List (S60)} {f4 : List Int} {f5 : List Int} {f6 : List Int} {f7 : Int} {w' : World} {m : Nat} (hq : W.drewN m = w') (h : IsS47 w0 W g f0 f1 f2 f3 f4 f5 f6 f7) : IsS47 w0 w' g f0 f1 f2 f3 f4 f5 f6 f7:=by subst hq;exact IsS47.drewN h m
theorem IsS47.apart {w0 W : World} {g : Nat} {f0 : Int} {f1 : List (S51)} {f2 : List Int} {f3 : List (S60)} {f4 : List Int} {f5 : List Int} {f6 : List Int} {f7 : Int} {α : Type} {d : Kd α} {e : Nat} {base : Nat} {ok : Nat → Prop} {v : Value} {xs : List α} (h : IsS47 w0 W g f0 f1 f2 f3 f4 f5 f6 f7) (ho : d.R e W base ok v xs) (ht : ∀ q,q ∈ e :: d.E → q ≠ 47) : d.R e W base (fun k=>ok k ∧ k ≠ g) v xs:=by
 obtain ⟨A1,c1,A2,c2,A3,c3,A4,c4,A5,c5,A6,c6,hb,hg,hr1,hr2,hr3,hr4,hr5,hr6⟩:=h
 exact Kd.R_types ho hb ht
theorem IsS47.own_ne {w0 W : World} {g : Nat} {f0 : Int} {f1 : List (S51)} {f2 : List Int} {f3 : List (S60)} {f4 : List Int} {f5 : List Int} {f6 : List Int} {f7 : Int} {α : Type} {d : Kd α} {e : Nat} {base : Nat} {ok : Nat → Prop} {v : Value} {xs : List α} (h : IsS47 w0 W g f0 f1 f2 f3 f4 f5 f6 f7) (ho : d.R e W base ok v xs) (ht : e ≠ 47) : some g ≠ v.ownBlock:=by
 obtain ⟨A1,c1,A2,c2,A3,c3,A4,c4,A5,c5,A6,c6,hb,hg,hr1,hr2,hr3,hr4,hr5,hr6⟩:=h
 exact Kd.R_ne ho hb ht
theorem IsS47.lt {w0 W : World} {g : Nat} {f0 : Int} {f1 : List (S51)} {f2 : List Int} {f3 : List (S60)} {f4 : List Int} {f5 : List Int} {f6 : List Int} {f7 : Int} (h : IsS47 w0 W g f0 f1 f2 f3 f4 f5 f6 f7) : g < W.heap.size:=by
 obtain ⟨A1,c1,A2,c2,A3,c3,A4,c4,A5,c5,A6,c6,hb,hg,hr1,hr2,hr3,hr4,hr5,hr6⟩:=h
 exact blk_lt hb
theorem IsS47.ge {w0 W : World} {g : Nat} {f0 : Int} {f1 : List (S51)} {f2 : List Int} {f3 : List (S60)} {f4 : List Int} {f5 : List Int} {f6 : List Int} {f7 : Int} (h : IsS47 w0 W g f0 f1 f2 f3 f4 f5 f6 f7) : w0.heap.size ≤ g:=by
 obtain ⟨A1,c1,A2,c2,A3,c3,A4,c4,A5,c5,A6,c6,hb,hg,hr1,hr2,hr3,hr4,hr5,hr6⟩:=h
 exact hg
theorem IsS47.far {w0 W : World} {g : Nat} {f0 : Int} {f1 : List (S51)} {f2 : List Int} {f3 : List (S60)} {f4 : List Int} {f5 : List Int} {f6 : List Int} {f7 : Int} {p : Addr} (h : IsS47 w0 W g f0 f1 f2 f3 f4 f5 f6 f7) (hne : g ≠ p.block) (u : Value) : IsS47 w0 (W.setCell p u) g f0 f1 f2 f3 f4 f5 f6 f7:=by
 obtain ⟨A1,c1,A2,c2,A3,c3,A4,c4,A5,c5,A6,c6,hb,hg,hr1,hr2,hr3,hr4,hr5,hr6⟩:=h
 exact ⟨A1,c1,A2,c2,A3,c3,A4,c4,A5,c5,A6,c6,blk_far hb hne u,hg,hr1,hr2,hr3,hr4,hr5,hr6⟩
theorem IsS47.new (w0 W : World) (A1 : Option Addr) (c1 : Nat) (A2 : Option Addr) (c2 : Nat) (A3 : Option Addr) (c3 : Nat) (A4 : Option Addr) (c4 : Nat) (A5 : Option Addr) (c5 : Nat) (A6 : Option Addr) (c6 : Nat) (f0 : Int) (f1 : List (S51)) (f2 : List Int) (f3 : List (S60)) (f4 : List Int) (f5 : List Int) (f6 : List Int) (f7 : Int) (hB : Below w0.heap.size w0 W) (hr1 : Kd.C k51 w0 A1 f1.length f1) (hr2 : Kd.C (Kd.int .i64) w0 A2 f2.length f2) (hr3 : Kd.C k60 w0 A3 f3.length f3) (hr4 : Kd.C (Kd.int .i64) w0 A4 f4.length f4) (hr5 : Kd.C (Kd.int .i64) w0 A5 f5.length f5) (hr6 : Kd.C (Kd.int .i64) w0 A6 f6.length f6) : IsS47 w0 (W.alloc (.cells #[.int .i64 f0,.slice A1 f1.length c1,.slice A2 f2.length c2,.slice A3 f3.length c3,.slice A4 f4.length c4,.slice A5 f5.length c5,.slice A6 f6.length c6,.int .i64 f7] 47)) W.heap.size f0 f1 f2 f3 f4 f5 f6 f7:=⟨A1,c1,A2,c2,A3,c3,A4,c4,A5,c5,A6,c6,by simpa using heap_alloc_new W _,hB.size,hr1,hr2,hr3,hr4,hr5,hr6⟩

/-! ### impl_lesser: function 54 -/
def impl_lesser.f (a0 : Int) (a1 : Int) : Option (Int):=if a0 < 0 then (some a1) else (if a1 < a0 then (some a1) else (some a0))
set_option maxHeartbeats 8000000 in
set_option maxRecDepth 100000 in
theorem impl_lesser.calls (a0 : Int) (a1 : Int) (r : Int) (w : World) (h : impl_lesser.f a0 a1 = some r) :
  Calls Try.prog 54 #[.int .i64 a0,.int .i64 a1] w fun e w'=>e = .returned (.int .i64 r) ∧ Drawn0 w w':=by
 have H : (if a0 < 0 then (some a1) else (if a1 < a0 then (some a1) else (some a0))) = some r:=h
 clear h
 by_cases c3 : a0 < 0
 ·rw [if_pos c3] at H
  have c3b0 : decide (a0 < 0) = true:=decide_eq_true c3
  clear c3
  obtain rfl:=Option.some.inj H
  go_enter Try.func54,Try.ntmps54
  go_wp2
  go_ret
  exact ⟨by first|rfl|(simp;done)|(simp [*];done),by repeat (first|exact Drawn0.refl _|apply Drawn0.step)⟩
 rw [if_neg c3] at H
 have c3b0 : decide (a0 < 0) = false:=decide_eq_false c3
 clear c3
 by_cases c4 : a1 < a0
 ·rw [if_pos c4] at H
  have c4b0 : decide (a1 < a0) = true:=decide_eq_true c4
  clear c4
  obtain rfl:=Option.some.inj H
  go_enter Try.func54,Try.ntmps54
  go_wp2
  go_ret
  exact ⟨by first|rfl|(simp;done)|(simp [*];done),by repeat (first|exact Drawn0.refl _|apply Drawn0.step)⟩
 rw [if_neg c4] at H
 have c4b0 : decide (a1 < a0) = false:=decide_eq_false c4
 clear c4
 obtain rfl:=Option.some.inj H
 go_enter Try.func54,Try.ntmps54
 go_wp2
 go_ret
 exact ⟨by first|rfl|(simp;done)|(simp [*];done),by repeat (first|exact Drawn0.refl _|apply Drawn0.step)⟩

-- NOT PRINTED: function 53 (impl_solver_step)

-- NOT PRINTED: function 33 (impl_solver_change)

end Go.Proofs.Ytnffimpoekjkpaa.QFnExactRounds
