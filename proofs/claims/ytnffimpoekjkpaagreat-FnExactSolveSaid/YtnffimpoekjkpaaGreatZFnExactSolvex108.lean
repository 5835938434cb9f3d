import Derived.Test.YtnffimpoekjkpaaGreatZFnExactSolvex20
set_option linter.all false
namespace Go.Proofs.YtnffimpoekjkpaaGreat.QFnExactSolve
open Go.RowKit Go.Proofs.YtnffimpoekjkpaaGreatW.PrintWords Go.Proofs.YtnffimpoekjkpaaGreatW.PrintLast Go.Proofs.YtnffimpoekjkpaaGreatW.PrintMore
set_option maxHeartbeats 8000000
set_option maxRecDepth 100000
attribute [local go_sem] Od' Pd' Xd' Yd' Jd' Kd' Qd' Rd'
def edB (n : Int) (e : S73) : Bool:=decide (0 ≤ e.f0 ∧ e.f0 < e.f1 ∧ e.f1 < n ∧ (0 ≤ e.f2 ∧ e.f2 ≤ 50) ∧ (0 ≤ e.f3 ∧ e.f3 ≤ 50) ∧ (0 ≤ e.f4 ∧ e.f4 ≤ 50))
def edL (p e : S73) : Bool:=decide (p.f0 < e.f0 ∨ p.f0 = e.f0 ∧ p.f1 < e.f1)
def gkAt (n : Int) (l : List S73) (i : Int) : Bool:=edB n (ud' l i) && (decide (i = 0) || edL (ud' l (i - 1)) (ud' l i))
def gkF (n : Int) (l : List S73) : Nat → Int → Bool
 | 0,_=>true
 | d + 1,i=>gkAt n l i && gkF n l d (i + 1)
def gkB (n : Int) (l : List S73) : Bool:=decide (0 ≤ n ∧ n ≤ 9) && gkF n l l.length 0
def Yp' (N : Int) (x : S73) : Prop:=(decide (0 ≤ x.f0 ∧ x.f0 ≤ N - 1) = false ∨ (decide (0 ≤ x.f0 ∧ x.f0 ≤ N - 1) = true ∧ decide (0 ≤ x.f1 ∧ x.f1 ≤ N - 1) = false) ∨ (decide (0 ≤ x.f0 ∧ x.f0 ≤ N - 1) = true ∧ decide (0 ≤ x.f1 ∧ x.f1 ≤ N - 1) = true ∧ decide (x.f1 ≤ x.f0) = true) ∨
  (decide (0 ≤ x.f0 ∧ x.f0 ≤ N - 1) = true ∧ decide (0 ≤ x.f1 ∧ x.f1 ≤ N - 1) = true ∧ decide (x.f1 ≤ x.f0) = false ∧ decide (0 ≤ x.f2 ∧ x.f2 ≤ 50) = false) ∨ (decide (0 ≤ x.f0 ∧ x.f0 ≤ N - 1) = true ∧ decide (0 ≤ x.f1 ∧ x.f1 ≤ N - 1) = true ∧ decide (x.f1 ≤ x.f0) = false ∧ decide (0 ≤ x.f2 ∧ x.f2 ≤ 50) = true ∧ decide (0 ≤ x.f3 ∧ x.f3 ≤ 50) = false) ∨
  (decide (0 ≤ x.f0 ∧ x.f0 ≤ N - 1) = true ∧ decide (0 ≤ x.f1 ∧ x.f1 ≤ N - 1) = true ∧ decide (x.f1 ≤ x.f0) = false ∧ decide (0 ≤ x.f2 ∧ x.f2 ≤ 50) = true ∧ decide (0 ≤ x.f3 ∧ x.f3 ≤ 50) = true ∧ decide (0 ≤ x.f4 ∧ x.f4 ≤ 50) = false))
theorem edge_c {g : Prop} (N : Int) (x : S73) (F : Yp' N x → edB N x = false → g)
  (T : decide (0 ≤ x.f0 ∧ x.f0 ≤ N - 1) = true → decide (0 ≤ x.f1 ∧ x.f1 ≤ N - 1) = true → decide (x.f1 ≤ x.f0) = false → decide (0 ≤ x.f2 ∧ x.f2 ≤ 50) = true → decide (0 ≤ x.f3 ∧ x.f3 ≤ 50) = true → decide (0 ≤ x.f4 ∧ x.f4 ≤ 50) = true → edB N x = true → g) : g:=by
 unfold edB at F T
 unfold Yp' at F
 simp only [decide_eq_true_eq,decide_eq_false_iff_not] at F T
 by_cases h0 : 0 ≤ x.f0 ∧ x.f0 ≤ N - 1
 ·by_cases h1 : 0 ≤ x.f1 ∧ x.f1 ≤ N - 1
  ·by_cases h2 : x.f1 ≤ x.f0
   ·exact F (by simp only [h0,h1,h2];simp) aa'
   by_cases h3 : 0 ≤ x.f2 ∧ x.f2 ≤ 50
   ·by_cases h4 : 0 ≤ x.f3 ∧ x.f3 ≤ 50
    ·by_cases h5 : 0 ≤ x.f4 ∧ x.f4 ≤ 50
     ·exact T h0 h1 h2 h3 h4 h5 aa'
     exact F (.inr (.inr (.inr (.inr (.inr ⟨h0,h1,h2,h3,h4,h5⟩))))) aa'
    exact F (.inr (.inr (.inr (.inr (.inl ⟨h0,h1,h2,h3,h4⟩))))) aa'
   exact F (.inr (.inr (.inr (.inl ⟨h0,h1,h2,h3⟩)))) aa'
  exact F (.inr (.inl ⟨h0,h1⟩)) aa'
 exact F (.inl h0) aa'
theorem lt_c {g : Prop} (p x : S73) (F : (decide (x.f0 < p.f0) = true ∨ decide (x.f0 < p.f0) = false ∧ (p.f0 == x.f0) = true ∧ decide (x.f1 ≤ p.f1) = true) → edL p x = false → g)
  (T : (decide (x.f0 < p.f0) = false ∧ (p.f0 == x.f0) = false ∨ decide (x.f0 < p.f0) = false ∧ (p.f0 == x.f0) = true ∧ decide (x.f1 ≤ p.f1) = false) → edL p x = true → g) : g:=by
 unfold edL at F T
 simp only [decide_eq_true_eq,decide_eq_false_iff_not,beq_iff_eq,beq_eq_false_iff_ne,ne_eq] at F T
 by_cases h0 : x.f0 < p.f0
 ·exact F (.inl h0) aa'
 by_cases h1 : p.f0 = x.f0
 ·by_cases h2 : x.f1 ≤ p.f1
  ·exact F (.inr ⟨h0,h1,h2⟩) aa'
  exact T (.inr ⟨h0,h1,h2⟩) aa'
 exact T (.inl ⟨h0,h1⟩) aa'
theorem Ai' (a b c : Int) (x : Bool) (w : World) (h : decide (b ≤ a ∧ a ≤ c) = x) : Calls Tryz.prog 45 #[.int .i64 a,.int .i64 b,.int .i64 c] w fun e w'=>e = .returned (.bool x) ∧ w' = w:=by
 subst h
 by_cases q : b ≤ a
 ·have c1 : decide (b ≤ a) = true:=decide_eq_true q
  have c2 : decide (b ≤ a ∧ a ≤ c) = decide (a ≤ c):=by simp [q]
  rw [c2]
  go_enter Tryz.func45,Tryz.ntmps45
  go_wp2_with fail
  go_ret
  exact ⟨rfl,rfl⟩
 have c1 : decide (b ≤ a) = false:=decide_eq_false q
 have c2 : decide (b ≤ a ∧ a ≤ c) = false:=decide_eq_false (fun h=>q h.1)
 rw [c2]
 go_enter Tryz.func45,Tryz.ntmps45
 go_wp2_with fail
 go_ret
 exact ⟨rfl,rfl⟩
theorem Bi' (w : World) (N : Int) (Ae : Option Addr) (ce : Nat) (es : List S73) (hC : Kd.C k73 w Ae es.length es) (hl : es.length ≤ 1048576) (R : Bool) (hR : gkB N es = R) :
  Calls Tryz.prog 23 #[.agg #[.int .i64 N,.slice Ae es.length ce]] w fun e w'=>e = .returned (.bool R) ∧ Below w.heap.size w w':=by
 have hu35:=Tryz.underlying35
 have hu73:=Tryz.underlying73
 have HC:=qz.mk hC
 have HL:=qz.mk hl
 clear hC hl
 go_enter Tryz.func23,Tryz.ntmps23
 go_upto_region 1 with fail
 have BX1 : qz ((w.alloc (.cells #[.int .i64 N,.slice Ae es.length ce] 35)).heap[w.heap.size]? = some (.cells #[.int .i64 N,.slice Ae es.length ce] 35 (0,0))):=⟨yd' w _⟩
 have HB1 : qz (Below w.heap.size w (w.alloc (.cells #[.int .i64 N,.slice Ae es.length ce] 35))):=⟨qo (Below.refl _ _) _⟩
 generalize w.alloc (.cells #[.int .i64 N,.slice Ae es.length ce] 35) = W1 at *
 generalize hgb : w.heap.size = gb at BX1 HB1 ⊢
 have hb0 : W1.cell? ⟨gb,0,none⟩ = some (.int .i64 N):=(qq BX1.o 0).trans rfl
 have hb1 : W1.cell? ⟨gb,1,none⟩ = some (.slice Ae es.length ce):=(qq BX1.o 1).trans rfl
 by_cases qn : 0 ≤ N ∧ N ≤ 9
 ·have cn : decide (0 ≤ N ∧ N ≤ 9) = true:=decide_eq_true qn
  have EG : qz (gkF N es es.length 0 = R):=⟨kd'⟩
  clear hR
  have QN:=qz.mk qn
  clear qn
  go_wp2_with (first|(go_at_call 45;with_reducible refine (Ai' _ _ _ true _ ta').mono ?_;rintro e_ w7 ⟨rfl,h2⟩;replace h2:=h2.symm;subst h2)|(go_at_call 45;with_reducible refine (Ai' _ _ _ false _ ta').mono ?_;rintro e_ w7 ⟨rfl,h2⟩;replace h2:=h2.symm;subst h2))
  clear cn
  go_loopg [13] (es.length + 1) (fun kq v13 w'=>∃ i : Int,v13 = .int .i64 i ∧ qz (0 ≤ i ∧ i + kq = es.length + 1 ∧ i ≤ es.length) ∧ qz (gkF N es (kq - 1) i = R) ∧ qz (w'.heap[gb]? = some (.cells #[.int .i64 N,.slice Ae es.length ce] 35 (0,0))) ∧ qz (Below gb w w'))
  case atStart=>exact ⟨0,rfl,⟨aa',aa',aa'⟩,EG,BX1,HB1⟩
  clear hb0 hb1 EG BX1 HB1
  obtain ⟨i,rfl,HI,EG,BX,HB⟩:=hrel
  have hb0 : wr.cell? ⟨gb,0,none⟩ = some (.int .i64 N):=(qq BX.o 0).trans rfl
  have hb1 : wr.cell? ⟨gb,1,none⟩ = some (.slice Ae es.length ce):=(qq BX.o 1).trans rfl
  cases gk with
  | zero =>
   exfalso
   have:=HI.o
   omega
  | succ k1 =>
   by_cases q : i < (es.length : Int)
   ·have cl : decide (i < (es.length : Int)) = true:=decide_eq_true q
    obtain ⟨ad,e_,hx0,hx1,hx2,hx3,hx4⟩:=of' (Kd.C_below HC.o (hgb ▸ HB.o)) i HI.o.1 q
    subst e_
    have p1 : (0 ≤ i) = True:=eq_true HI.o.1
    have p2 : (i < (es.length : Int)) = True:=eq_true q
    go_upto_region 6 with fail
    have BX2 : qz ((wr.alloc (.cells #[.int .i64 (ud' es i).f0,.int .i64 (ud' es i).f1,.int .i64 (ud' es i).f2,.int .i64 (ud' es i).f3,.int .i64 (ud' es i).f4] 73)).heap[wr.heap.size]? = some (.cells #[.int .i64 (ud' es i).f0,.int .i64 (ud' es i).f1,.int .i64 (ud' es i).f2,.int .i64 (ud' es i).f3,.int .i64 (ud' es i).f4] 73 (0,0))):=⟨yd' wr _⟩
    have HB2 : qz (Below wr.heap.size wr (wr.alloc (.cells #[.int .i64 (ud' es i).f0,.int .i64 (ud' es i).f1,.int .i64 (ud' es i).f2,.int .i64 (ud' es i).f3,.int .i64 (ud' es i).f4] 73))):=⟨qo (Below.refl _ _) _⟩
    generalize wr.alloc (.cells #[.int .i64 (ud' es i).f0,.int .i64 (ud' es i).f1,.int .i64 (ud' es i).f2,.int .i64 (ud' es i).f3,.int .i64 (ud' es i).f4] 73) = W2 at *
    have BX3:=qz.mk (qx BX.o HB2.o)
    have HB3 : qz (Below gb w W2):=⟨ld'⟩
    generalize wr.heap.size = gc at BX2 HB2 ⊢
    clear hb0 hb1 hx0 hx1 hx2 hx3 hx4 BX HB HB2
    have hb0 : W2.cell? ⟨gb,0,none⟩ = some (.int .i64 N):=(qq BX3.o 0).trans rfl
    have hb1 : W2.cell? ⟨gb,1,none⟩ = some (.slice (some ad) es.length ce):=(qq BX3.o 1).trans rfl
    have hc0 : W2.cell? ⟨gc,0,none⟩ = some (.int .i64 (ud' es i).f0):=(qq BX2.o 0).trans rfl
    have hc1 : W2.cell? ⟨gc,1,none⟩ = some (.int .i64 (ud' es i).f1):=(qq BX2.o 1).trans rfl
    have hc2 : W2.cell? ⟨gc,2,none⟩ = some (.int .i64 (ud' es i).f2):=(qq BX2.o 2).trans rfl
    have hc3 : W2.cell? ⟨gc,3,none⟩ = some (.int .i64 (ud' es i).f3):=(qq BX2.o 3).trans rfl
    have hc4 : W2.cell? ⟨gc,4,none⟩ = some (.int .i64 (ud' es i).f4):=(qq BX2.o 4).trans rfl
    obtain ⟨k2,rfl⟩ : ∃ k2,k1 = k2 + 1:=⟨k1 - 1,fa'⟩
    have EG2 : qz ((edB N (ud' es i) && (decide (i = 0) || edL (ud' es (i - 1)) (ud' es i)) && gkF N es k2 (i + 1)) = R):=⟨EG.o⟩
    have wN : wrap64 (N - 1) = N - 1:=by have:=QN.o;unfold wrap64;omega
    have w1 : wrap64 (i - 1) = i - 1:=by have:=HI.o;have:=HL.o;unfold wrap64;omega
    have w2 : wrap64 (i + 1) = i + 1:=by have:=HI.o;have:=HL.o;unfold wrap64;omega
    clear EG cl p1 p2
    go_cut [58] (fun v58 wc=>∃ b : Bool,v58 = .bool b ∧ qz (edB N (ud' es i) = !b) ∧ qz (wc.heap[gb]? = some (.cells #[.int .i64 N,.slice (some ad) es.length ce] 35 (0,0))) ∧ qz (wc.heap[gc]? = some (.cells #[.int .i64 (ud' es i).f0,.int .i64 (ud' es i).f1,.int .i64 (ud' es i).f2,.int .i64 (ud' es i).f3,.int .i64 (ud' es i).f4] 73 (0,0))) ∧ qz (Below gb w wc))
    case first =>
     clear EG2
     refine edge_c N (ud' es i) (fun hF he=>?_) (fun h0 h1 h2 h3 h4 h5 he=>?_)
     ·have HE:=qz.mk he
      clear he
      rcases hF with h0|⟨h0,h1⟩|⟨h0,h1,h2⟩|⟨h0,h1,h2,h3⟩|⟨h0,h1,h2,h3,h4⟩|⟨h0,h1,h2,h3,h4,h5⟩
      all_goals
       go_wp2_with (first|(go_at_call 45;with_reducible refine (Ai' _ _ _ true _ ta').mono ?_;rintro e_ w7 ⟨rfl,h2⟩;replace h2:=h2.symm;subst h2)|(go_at_call 45;with_reducible refine (Ai' _ _ _ false _ ta').mono ?_;rintro e_ w7 ⟨rfl,h2⟩;replace h2:=h2.symm;subst h2))
       go_meet
       case rel=>exact ⟨true,rfl,HE,BX3,BX2,HB3⟩
     have HE:=qz.mk he
     clear he
     go_wp2_with (first|(go_at_call 45;with_reducible refine (Ai' _ _ _ true _ ta').mono ?_;rintro e_ w7 ⟨rfl,h2⟩;replace h2:=h2.symm;subst h2)|(go_at_call 45;with_reducible refine (Ai' _ _ _ false _ ta').mono ?_;rintro e_ w7 ⟨rfl,h2⟩;replace h2:=h2.symm;subst h2))
     go_meet
     case rel=>exact ⟨false,rfl,HE,BX3,BX2,HB3⟩
    clear hb0 hb1 hc0 hc1 hc2 hc3 hc4 BX2 BX3 HB3 wN
    obtain ⟨b,rfl,HE,BX3,BX2,HB3⟩:=hcut
    have hb0 : wc.cell? ⟨gb,0,none⟩ = some (.int .i64 N):=(qq BX3.o 0).trans rfl
    have hb1 : wc.cell? ⟨gb,1,none⟩ = some (.slice (some ad) es.length ce):=(qq BX3.o 1).trans rfl
    have hc0 : wc.cell? ⟨gc,0,none⟩ = some (.int .i64 (ud' es i).f0):=(qq BX2.o 0).trans rfl
    have hc1 : wc.cell? ⟨gc,1,none⟩ = some (.int .i64 (ud' es i).f1):=(qq BX2.o 1).trans rfl
    rw [HE.o] at EG2
    clear HE
    cases b with
    | true =>
     obtain rfl : false = R:=by rw [← EG2.o];rfl
     clear EG2
     go_wp2_with fail
     go_ret
     subst hgb
     exact ⟨rfl,HB3.o⟩
    | false =>
     rw [Bool.not_false,Bool.true_and] at EG2
     by_cases q0 : i = 0
     ·subst q0
      have EG3 : qz (gkF N es k2 (0 + 1) = R):=⟨by have h:=EG2.o;simpa using h⟩
      clear EG2
      go_wp2_with fail
      repeat (go_quiet (fail);try go_wp2)
      go_roundg (k2 + 1)
      case measure=>omega
      case rel=>exact ⟨0 + 1,jc',⟨aa',fa',fa'⟩,EG3,⟨qx BX3.o Eb'⟩,⟨nb'⟩⟩
     have ci : decide (0 < i) = true:=decide_eq_true fa'
     obtain ⟨j,hj⟩ : ∃ j,i - 1 = j:=⟨_,rfl⟩
     rw [hj] at EG2
     have w3 : IntKind.i64.wrap (i - 1) = j:=(Bd' _).trans (w1.trans hj)
     replace w1:=w1.trans hj
     obtain ⟨ad2,e_,hy0,hy1,-⟩:=of' (Kd.C_below HC.o (hgb ▸ HB3.o)) j fa' aa'
     cases e_
     have p1 : (0 ≤ j) = True:=eq_true fa'
     have p2 : (j < (es.length : Int)) = True:=eq_true aa'
     have Q:=qz.mk q
     clear hj q
     refine lt_c (ud' es j) (ud' es i) (fun hF he=>?_) (fun hT he=>?_)
     ·obtain rfl : false = R:=by rw [← EG2.o,he];simp [q0]
      clear EG2 he q0
      rcases hF with h6|⟨h6,h7,h8⟩
      all_goals
       go_wp2_with fail
       repeat (go_quiet (fail);try go_wp2)
       go_ret
       subst hgb
       exact ⟨rfl,nb'⟩
     have EG3 : qz (gkF N es k2 (i + 1) = R):=⟨md'⟩
     clear EG2 he q0
     rcases hT with ⟨h6,h7⟩|⟨h6,h7,h8⟩
     all_goals
      go_wp2_with fail
      repeat (go_quiet (fail);try go_wp2)
      go_roundg (k2 + 1)
      case measure=>omega
      case rel=>exact ⟨i + 1,jc',⟨fa',fa',by have:=Q.o;omega⟩,EG3,⟨qx BX3.o Eb'⟩,⟨nb'⟩⟩
   have cl : decide (i < (es.length : Int)) = false:=decide_eq_false q
   obtain rfl : true = R:=by rw [← EG.o,show k1 + 1 - 1 = 0 by have:=HI.o;omega];rfl
   go_wp2_with fail
   go_ret
   subst hgb
   exact ⟨rfl,HB.o⟩
 have cn : decide (0 ≤ N ∧ N ≤ 9) = false:=decide_eq_false qn
 obtain rfl : false = R:=by rw [← hR];unfold gkB;rw [cn,Bool.false_and]
 go_wp2_with (first|(go_at_call 45;with_reducible refine (Ai' _ _ _ true _ ta').mono ?_;rintro e_ w7 ⟨rfl,h2⟩;replace h2:=h2.symm;subst h2)|(go_at_call 45;with_reducible refine (Ai' _ _ _ false _ ta').mono ?_;rintro e_ w7 ⟨rfl,h2⟩;replace h2:=h2.symm;subst h2))
 go_ret
 subst hgb
 exact ⟨rfl,HB1.o⟩
theorem dg' (a b c : Int) (x : Bool) (w : World) (h : decide (b ≤ a ∧ a ≤ c) = x) : Calls Tryz.prog 37 #[.int .i64 a,.int .i64 b,.int .i64 c] w fun e w'=>e = .returned (.bool x) ∧ w' = w:=by
 subst h
 by_cases q : b ≤ a
 ·have c1 : decide (b ≤ a) = true:=decide_eq_true q
  have c2 : decide (b ≤ a ∧ a ≤ c) = decide (a ≤ c):=by simp [q]
  rw [c2]
  go_enter Tryz.func37,Tryz.ntmps37
  go_wp2_with fail
  go_ret
  exact ⟨rfl,rfl⟩
 have c1 : decide (b ≤ a) = false:=decide_eq_false q
 have c2 : decide (b ≤ a ∧ a ≤ c) = false:=decide_eq_false (fun h=>q h.1)
 rw [c2]
 go_enter Tryz.func37,Tryz.ntmps37
 go_wp2_with fail
 go_ret
 exact ⟨rfl,rfl⟩
theorem ug' (a : Int) (x : Bool) (w : World) (h : decide (0 ≤ a ∧ a ≤ 50) = x) : Calls Tryz.prog 38 #[.int .i64 a] w fun e w'=>e = .returned (.bool x) ∧ w' = w:=by
 go_enter Tryz.func38,Tryz.ntmps38
 go_wp2_with (go_at_call 37;with_reducible refine (dg' _ _ _ _ _ h).mono ?_;rintro e_ w7 ⟨rfl,h2⟩;replace h2:=h2.symm;subst h2)
 go_ret
 exact ⟨rfl,rfl⟩
theorem sedge_c {g : Prop} (N : Int) (x : S73) (F : (decide (x.f0 < 0) = true ∨ (decide (x.f0 < 0) = false ∧ decide (x.f1 ≤ x.f0) = true) ∨ (decide (x.f0 < 0) = false ∧ decide (x.f1 ≤ x.f0) = false ∧ decide (N ≤ x.f1) = true) ∨ (decide (x.f0 < 0) = false ∧ decide (x.f1 ≤ x.f0) = false ∧ decide (N ≤ x.f1) = false ∧ decide (0 ≤ x.f2 ∧ x.f2 ≤ 50) = false) ∨ (decide (x.f0 < 0) = false ∧ decide (x.f1 ≤ x.f0) = false ∧ decide (N ≤ x.f1) = false ∧ decide (0 ≤ x.f2 ∧ x.f2 ≤ 50) = true ∧ decide (0 ≤ x.f3 ∧ x.f3 ≤ 50) = false) ∨ (decide (x.f0 < 0) = false ∧ decide (x.f1 ≤ x.f0) = false ∧ decide (N ≤ x.f1) = false ∧ decide (0 ≤ x.f2 ∧ x.f2 ≤ 50) = true ∧ decide (0 ≤ x.f3 ∧ x.f3 ≤ 50) = true ∧ decide (0 ≤ x.f4 ∧ x.f4 ≤ 50) = false)) → edB N x = false → g)
  (T : decide (x.f0 < 0) = false → decide (x.f1 ≤ x.f0) = false → decide (N ≤ x.f1) = false → decide (0 ≤ x.f2 ∧ x.f2 ≤ 50) = true → decide (0 ≤ x.f3 ∧ x.f3 ≤ 50) = true → decide (0 ≤ x.f4 ∧ x.f4 ≤ 50) = true → edB N x = true → g) : g:=by
 unfold edB at F T
 simp only [decide_eq_true_eq,decide_eq_false_iff_not] at F T
 by_cases h0 : x.f0 < 0
 ·exact F (.inl h0) aa'
 by_cases h1 : x.f1 ≤ x.f0
 ·exact F (.inr (.inl ⟨h0,h1⟩)) aa'
 by_cases h2 : N ≤ x.f1
 ·exact F (.inr (.inr (.inl ⟨h0,h1,h2⟩))) aa'
 by_cases h3 : 0 ≤ x.f2 ∧ x.f2 ≤ 50
 ·by_cases h4 : 0 ≤ x.f3 ∧ x.f3 ≤ 50
  ·by_cases h5 : 0 ≤ x.f4 ∧ x.f4 ≤ 50
   ·exact T h0 h1 h2 h3 h4 h5 aa'
   exact F (.inr (.inr (.inr (.inr (.inr ⟨h0,h1,h2,h3,h4,h5⟩))))) aa'
  exact F (.inr (.inr (.inr (.inr (.inl ⟨h0,h1,h2,h3,h4⟩))))) aa'
 exact F (.inr (.inr (.inr (.inl ⟨h0,h1,h2,h3⟩)))) aa'
theorem Ci' (w : World) (N : Int) (Ae : Option Addr) (ce : Nat) (es : List S73) (hC : Kd.C k73 w Ae es.length es) (hl : es.length ≤ 1048576) (R : Bool) (hR : gkB N es = R) :
  Calls Tryz.prog 17 #[.agg #[.int .i64 N,.slice Ae es.length ce]] w fun e w'=>e = .returned (.bool R) ∧ Below w.heap.size w w':=by
 have hu35:=Tryz.underlying35
 have hu73:=Tryz.underlying73
 have HC:=qz.mk hC
 have HL:=qz.mk hl
 clear hC hl
 go_enter Tryz.func17,Tryz.ntmps17
 go_upto_region 1 with fail
 have BX1 : qz ((w.alloc (.cells #[.int .i64 N,.slice Ae es.length ce] 35)).heap[w.heap.size]? = some (.cells #[.int .i64 N,.slice Ae es.length ce] 35 (0,0))):=⟨yd' w _⟩
 have HB1 : qz (Below w.heap.size w (w.alloc (.cells #[.int .i64 N,.slice Ae es.length ce] 35))):=⟨qo (Below.refl _ _) _⟩
 generalize w.alloc (.cells #[.int .i64 N,.slice Ae es.length ce] 35) = W1 at *
 generalize hgb : w.heap.size = gb at BX1 HB1 ⊢
 have hb0 : W1.cell? ⟨gb,0,none⟩ = some (.int .i64 N):=(qq BX1.o 0).trans rfl
 have hb1 : W1.cell? ⟨gb,1,none⟩ = some (.slice Ae es.length ce):=(qq BX1.o 1).trans rfl
 by_cases qn : 0 ≤ N ∧ N ≤ 9
 ·have cn : decide (0 ≤ N ∧ N ≤ 9) = true:=decide_eq_true qn
  have EG : qz (gkF N es es.length 0 = R):=⟨kd'⟩
  clear hR
  have QN:=qz.mk qn
  clear qn
  go_wp2_with (first|(go_at_call 37;with_reducible refine (dg' _ _ _ true _ ta').mono ?_;rintro e_ w7 ⟨rfl,h2⟩;replace h2:=h2.symm;subst h2)|(go_at_call 37;with_reducible refine (dg' _ _ _ false _ ta').mono ?_;rintro e_ w7 ⟨rfl,h2⟩;replace h2:=h2.symm;subst h2)|(go_at_call 38;with_reducible refine (ug' _ true _ ta').mono ?_;rintro e_ w7 ⟨rfl,h2⟩;replace h2:=h2.symm;subst h2)|(go_at_call 38;with_reducible refine (ug' _ false _ ta').mono ?_;rintro e_ w7 ⟨rfl,h2⟩;replace h2:=h2.symm;subst h2))
  clear cn
  go_loopg [3] (es.length + 1) (fun kq v3 w'=>∃ i : Int,v3 = .int .i64 i ∧ qz (0 ≤ i ∧ i + kq = es.length + 1 ∧ i ≤ es.length) ∧ qz (gkF N es (kq - 1) i = R) ∧ qz (w'.heap[gb]? = some (.cells #[.int .i64 N,.slice Ae es.length ce] 35 (0,0))) ∧ qz (Below gb w w'))
  case atStart=>exact ⟨0,rfl,⟨aa',aa',aa'⟩,EG,BX1,HB1⟩
  clear hb0 hb1 EG BX1 HB1
  obtain ⟨i,rfl,HI,EG,BX,HB⟩:=hrel
  have hb0 : wr.cell? ⟨gb,0,none⟩ = some (.int .i64 N):=(qq BX.o 0).trans rfl
  have hb1 : wr.cell? ⟨gb,1,none⟩ = some (.slice Ae es.length ce):=(qq BX.o 1).trans rfl
  cases gk with
  | zero =>
   exfalso
   have:=HI.o
   omega
  | succ k1 =>
   by_cases q : i < (es.length : Int)
   ·have cl : decide (i < (es.length : Int)) = true:=decide_eq_true q
    obtain ⟨ad,e_,hx0,hx1,hx2,hx3,hx4⟩:=of' (Kd.C_below HC.o (hgb ▸ HB.o)) i HI.o.1 q
    subst e_
    have p1 : (0 ≤ i) = True:=eq_true HI.o.1
    have p2 : (i < (es.length : Int)) = True:=eq_true q
    go_upto_region 7 with fail
    have BX2 : qz ((wr.alloc (.cells #[.int .i64 (ud' es i).f0,.int .i64 (ud' es i).f1,.int .i64 (ud' es i).f2,.int .i64 (ud' es i).f3,.int .i64 (ud' es i).f4] 73)).heap[wr.heap.size]? = some (.cells #[.int .i64 (ud' es i).f0,.int .i64 (ud' es i).f1,.int .i64 (ud' es i).f2,.int .i64 (ud' es i).f3,.int .i64 (ud' es i).f4] 73 (0,0))):=⟨yd' wr _⟩
    have HB2 : qz (Below wr.heap.size wr (wr.alloc (.cells #[.int .i64 (ud' es i).f0,.int .i64 (ud' es i).f1,.int .i64 (ud' es i).f2,.int .i64 (ud' es i).f3,.int .i64 (ud' es i).f4] 73))):=⟨qo (Below.refl _ _) _⟩
    generalize wr.alloc (.cells #[.int .i64 (ud' es i).f0,.int .i64 (ud' es i).f1,.int .i64 (ud' es i).f2,.int .i64 (ud' es i).f3,.int .i64 (ud' es i).f4] 73) = W2 at *
    have BX3:=qz.mk (qx BX.o HB2.o)
    have HB3 : qz (Below gb w W2):=⟨ld'⟩
    generalize wr.heap.size = gc at BX2 HB2 ⊢
    clear hb0 hb1 hx0 hx1 hx2 hx3 hx4 BX HB HB2
    have hb0 : W2.cell? ⟨gb,0,none⟩ = some (.int .i64 N):=(qq BX3.o 0).trans rfl
    have hb1 : W2.cell? ⟨gb,1,none⟩ = some (.slice (some ad) es.length ce):=(qq BX3.o 1).trans rfl
    have hc0 : W2.cell? ⟨gc,0,none⟩ = some (.int .i64 (ud' es i).f0):=(qq BX2.o 0).trans rfl
    have hc1 : W2.cell? ⟨gc,1,none⟩ = some (.int .i64 (ud' es i).f1):=(qq BX2.o 1).trans rfl
    have hc2 : W2.cell? ⟨gc,2,none⟩ = some (.int .i64 (ud' es i).f2):=(qq BX2.o 2).trans rfl
    have hc3 : W2.cell? ⟨gc,3,none⟩ = some (.int .i64 (ud' es i).f3):=(qq BX2.o 3).trans rfl
    have hc4 : W2.cell? ⟨gc,4,none⟩ = some (.int .i64 (ud' es i).f4):=(qq BX2.o 4).trans rfl
    obtain ⟨k2,rfl⟩ : ∃ k2,k1 = k2 + 1:=⟨k1 - 1,fa'⟩
    have EG2 : qz ((edB N (ud' es i) && (decide (i = 0) || edL (ud' es (i - 1)) (ud' es i)) && gkF N es k2 (i + 1)) = R):=⟨EG.o⟩
    have wN : wrap64 (N - 1) = N - 1:=by have:=QN.o;unfold wrap64;omega
    have w1 : wrap64 (i - 1) = i - 1:=by have:=HI.o;have:=HL.o;unfold wrap64;omega
    have w2 : wrap64 (i + 1) = i + 1:=by have:=HI.o;have:=HL.o;unfold wrap64;omega
    clear EG cl p1 p2
    go_cut [55] (fun v55 wc=>∃ b : Bool,v55 = .bool b ∧ qz (edB N (ud' es i) = !b) ∧ qz (wc.heap[gb]? = some (.cells #[.int .i64 N,.slice (some ad) es.length ce] 35 (0,0))) ∧ qz (wc.heap[gc]? = some (.cells #[.int .i64 (ud' es i).f0,.int .i64 (ud' es i).f1,.int .i64 (ud' es i).f2,.int .i64 (ud' es i).f3,.int .i64 (ud' es i).f4] 73 (0,0))) ∧ qz (Below gb w wc))
    case first =>
     clear EG2
     refine sedge_c N (ud' es i) (fun hF he=>?_) (fun h0 h1 h2 h3 h4 h5 he=>?_)
     ·have HE:=qz.mk he
      clear he
      rcases hF with h0|⟨h0,h1⟩|⟨h0,h1,h2⟩|⟨h0,h1,h2,h3⟩|⟨h0,h1,h2,h3,h4⟩|⟨h0,h1,h2,h3,h4,h5⟩
      all_goals
       go_wp2_with (first|(go_at_call 37;with_reducible refine (dg' _ _ _ true _ ta').mono ?_;rintro e_ w7 ⟨rfl,h2⟩;replace h2:=h2.symm;subst h2)|(go_at_call 37;with_reducible refine (dg' _ _ _ false _ ta').mono ?_;rintro e_ w7 ⟨rfl,h2⟩;replace h2:=h2.symm;subst h2)|(go_at_call 38;with_reducible refine (ug' _ true _ ta').mono ?_;rintro e_ w7 ⟨rfl,h2⟩;replace h2:=h2.symm;subst h2)|(go_at_call 38;with_reducible refine (ug' _ false _ ta').mono ?_;rintro e_ w7 ⟨rfl,h2⟩;replace h2:=h2.symm;subst h2))
       go_meet
       case rel=>exact ⟨true,rfl,HE,BX3,BX2,HB3⟩
     have HE:=qz.mk he
     clear he
     go_wp2_with (first|(go_at_call 37;with_reducible refine (dg' _ _ _ true _ ta').mono ?_;rintro e_ w7 ⟨rfl,h2⟩;replace h2:=h2.symm;subst h2)|(go_at_call 37;with_reducible refine (dg' _ _ _ false _ ta').mono ?_;rintro e_ w7 ⟨rfl,h2⟩;replace h2:=h2.symm;subst h2)|(go_at_call 38;with_reducible refine (ug' _ true _ ta').mono ?_;rintro e_ w7 ⟨rfl,h2⟩;replace h2:=h2.symm;subst h2)|(go_at_call 38;with_reducible refine (ug' _ false _ ta').mono ?_;rintro e_ w7 ⟨rfl,h2⟩;replace h2:=h2.symm;subst h2))
     go_meet
     case rel=>exact ⟨false,rfl,HE,BX3,BX2,HB3⟩
    clear hb0 hb1 hc0 hc1 hc2 hc3 hc4 BX2 BX3 HB3 wN
    obtain ⟨b,rfl,HE,BX3,BX2,HB3⟩:=hcut
    have hb0 : wc.cell? ⟨gb,0,none⟩ = some (.int .i64 N):=(qq BX3.o 0).trans rfl
    have hb1 : wc.cell? ⟨gb,1,none⟩ = some (.slice (some ad) es.length ce):=(qq BX3.o 1).trans rfl
    have hc0 : wc.cell? ⟨gc,0,none⟩ = some (.int .i64 (ud' es i).f0):=(qq BX2.o 0).trans rfl
    have hc1 : wc.cell? ⟨gc,1,none⟩ = some (.int .i64 (ud' es i).f1):=(qq BX2.o 1).trans rfl
    rw [HE.o] at EG2
    clear HE
    cases b with
    | true =>
     obtain rfl : false = R:=by rw [← EG2.o];rfl
     clear EG2
     go_wp2_with fail
     go_ret
     subst hgb
     exact ⟨rfl,HB3.o⟩
    | false =>
     rw [Bool.not_false,Bool.true_and] at EG2
     by_cases q0 : i = 0
     ·subst q0
      have EG3 : qz (gkF N es k2 (0 + 1) = R):=⟨by have h:=EG2.o;simpa using h⟩
      clear EG2
      go_wp2_with fail
      repeat (go_quiet (fail);try go_wp2)
      go_roundg (k2 + 1)
      case measure=>omega
      case rel=>exact ⟨0 + 1,jc',⟨aa',fa',fa'⟩,EG3,⟨qx BX3.o Eb'⟩,⟨nb'⟩⟩
     have ci : decide (0 < i) = true:=decide_eq_true fa'
     obtain ⟨j,hj⟩ : ∃ j,i - 1 = j:=⟨_,rfl⟩
     rw [hj] at EG2
     have w3 : IntKind.i64.wrap (i - 1) = j:=(Bd' _).trans (w1.trans hj)
     replace w1:=w1.trans hj
     obtain ⟨ad2,e_,hy0,hy1,-⟩:=of' (Kd.C_below HC.o (hgb ▸ HB3.o)) j fa' aa'
     cases e_
     have p1 : (0 ≤ j) = True:=eq_true fa'
     have p2 : (j < (es.length : Int)) = True:=eq_true aa'
     have Q:=qz.mk q
     clear hj q
     refine lt_c (ud' es j) (ud' es i) (fun hF he=>?_) (fun hT he=>?_)
     ·obtain rfl : false = R:=by rw [← EG2.o,he];simp [q0]
      clear EG2 he q0
      rcases hF with h6|⟨h6,h7,h8⟩
      all_goals
       go_wp2_with fail
       repeat (go_quiet (fail);try go_wp2)
       go_ret
       subst hgb
       exact ⟨rfl,nb'⟩
     have EG3 : qz (gkF N es k2 (i + 1) = R):=⟨md'⟩
     clear EG2 he q0
     rcases hT with ⟨h6,h7⟩|⟨h6,h7,h8⟩
     all_goals
      go_wp2_with fail
      repeat (go_quiet (fail);try go_wp2)
      go_roundg (k2 + 1)
      case measure=>omega
      case rel=>exact ⟨i + 1,jc',⟨fa',fa',by have:=Q.o;omega⟩,EG3,⟨qx BX3.o Eb'⟩,⟨nb'⟩⟩
   have cl : decide (i < (es.length : Int)) = false:=decide_eq_false q
   obtain rfl : true = R:=by rw [← EG.o,show k1 + 1 - 1 = 0 by have:=HI.o;omega];rfl
   go_wp2_with fail
   go_ret
   subst hgb
   exact ⟨rfl,HB.o⟩
 have cn : decide (0 ≤ N ∧ N ≤ 9) = false:=decide_eq_false qn
 obtain rfl : false = R:=by rw [← hR];unfold gkB;rw [cn,Bool.false_and]
 go_wp2_with (first|(go_at_call 37;with_reducible refine (dg' _ _ _ true _ ta').mono ?_;rintro e_ w7 ⟨rfl,h2⟩;replace h2:=h2.symm;subst h2)|(go_at_call 37;with_reducible refine (dg' _ _ _ false _ ta').mono ?_;rintro e_ w7 ⟨rfl,h2⟩;replace h2:=h2.symm;subst h2)|(go_at_call 38;with_reducible refine (ug' _ true _ ta').mono ?_;rintro e_ w7 ⟨rfl,h2⟩;replace h2:=h2.symm;subst h2)|(go_at_call 38;with_reducible refine (ug' _ false _ ta').mono ?_;rintro e_ w7 ⟨rfl,h2⟩;replace h2:=h2.symm;subst h2))
 go_ret
 subst hgb
 exact ⟨rfl,HB1.o⟩
end Go.Proofs.YtnffimpoekjkpaaGreat.QFnExactSolve
