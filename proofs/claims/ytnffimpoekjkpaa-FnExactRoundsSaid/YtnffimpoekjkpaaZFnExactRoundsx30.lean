/- The program's solver: step. -/
import Derived.Test.YtnffimpoekjkpaaZFnExactRoundsx29
import Derived.Test.YtnffimpoekjkpaaZFnExactRoundsx5
namespace Go.Proofs.Ytnffimpoekjkpaa.QFnExactRounds
open Go.RowKit Go.Proofs.YtnffimpoekjkpaaW.PrintWords Go.Proofs.YtnffimpoekjkpaaW.PrintLast Go.Proofs.YtnffimpoekjkpaaW.PrintMore
attribute [local go_sem] max2_int min2_int max_two min_two max_three min_three max_four min_four
set_option linter.unusedVariables false
set_option linter.unusedSimpArgs false
def lesserI (d n : Int) : Int:=if d < 0 then n else if n < d then n else d
theorem lesser_is (d n : Int) : impl_lesser.f d n = some (lesserI d n):=by
 unfold impl_lesser.f lesserI
 split
 ·rfl
 split <;> rfl
def stY (nd : List (S60)) (y lb : List Int) : Nat → Int → Int → Int
 | 0,_,d=>d
 | k + 1,i,d=>if i < (y.length : Int) then stY nd y lb k (i + 1) (if rd lb (topI nd i) = 1 then lesserI d (rd y i) else d) else d
/-- What an edge lets all numbers change by. -/
def edD (y : List Int) (nd : List (S60)) (lb : List Int) (x : S51) (d : Int) : Int :=
 if topI nd x.f0 = topI nd x.f1 then d
 else if rd lb (topI nd x.f0) = 1 ∧ rd lb (topI nd x.f1) = 1 then min d (wrap64 ((slackI y nd x).tdiv 2))
 else if rd lb (topI nd x.f0) = 1 ∧ rd lb (topI nd x.f1) = 0 ∨ rd lb (topI nd x.f0) = 0 ∧ rd lb (topI nd x.f1) = 1 then min d (slackI y nd x)
 else d
def stE (y : List Int) (nd : List (S60)) (lb : List Int) (es : List (S51)) : Nat → Int → Int → Int
 | 0,_,d=>d
 | k + 1,i,d=>if i < (es.length : Int) then stE y nd lb es k (i + 1) (edD y nd lb (rd_T51 es i) d) else d
def stN (nd : List (S60)) (lb : List Int) : Nat → Int → Int → Int
 | 0,_,d=>d
 | k + 1,i,d=>if i < (nd.length : Int) then stN nd lb k (i + 1) (if isTopB (rd_T60 nd i) = true ∧ rd lb i = 2 then min d (wrap64 ((rd_T60 nd i).f5.tdiv 2)) else d) else d
def stepI (N : Int) (y : List Int) (nd : List (S60)) (lb : List Int) (es : List (S51)) : Int :=
 if stY nd y lb (y.length + 1) 0 (-1) < 0 then stY nd y lb (y.length + 1) 0 (-1)
 else stN nd lb (nd.length + 1) N (stE y nd lb es (es.length + 1) 0 (stY nd y lb (y.length + 1) 0 (-1)))
set_option maxHeartbeats 8000000 in
set_option maxRecDepth 100000 in
theorem step_calls {w0 W : World} {g : Nat} {N : Int} {Ae : Option Addr} {ce : Nat} {es : List (S51)} {col : Nat → Nat} {vy vn vl va vb : Value} {s : SI} (hS : Sol w0 W g N Ae ce es col vy vn vl va vb s) (hw : WFn s.nd) (ho : EOk es s.nd.length) (hoy : EOk es s.y.length) (hN : N = s.y.length) (hNn : N ≤ s.nd.length) (hl : s.lb.length = s.nd.length) (hsz : s.nd.length ≤ 1000000) :
  Calls Try.prog 53 #[.pointer (some ⟨g,0,none⟩)] W fun e w'=>e = .returned (.int .i64 (stepI N s.y s.nd s.lb es)) ∧ Below W.heap.size W w':=by
 have hu47:=Try.underlying47
 have hu60:=Try.underlying60
 have hu51:=Try.underlying51
 have hu29:=Try.underlying29
 have HS:=qy.mk hS
 clear hS
 obtain ⟨An,cn,e_⟩:=Kd.R_slice HS.out.rn
 subst e_
 obtain ⟨Al,cl,e_⟩:=Kd.R_slice HS.out.rl
 rw [hl] at e_
 subst e_
 obtain ⟨Ay,cy,e_⟩:=Kd.R_slice HS.out.ry
 subst e_
 have HW:=qy.mk hw
 have HE:=qy.mk ho
 have HY:=qy.mk hoy
 have HL:=qy.mk hl
 have H0:=qy.mk (And.intro hsz (And.intro hN hNn))
 have HM:=qy.mk (Kd.C_max HS.out.he)
 have hc:=HS.out.cells
 obtain ⟨dy,hdy⟩ : ∃ dy,stY s.nd s.y s.lb (s.y.length + 1) 0 (-1) = dy:=⟨_,rfl⟩
 have HT:=qy.mk hdy
 obtain ⟨R,hR⟩ : ∃ R,stepI N s.y s.nd s.lb es = R:=⟨_,rfl⟩
 rw [hR]
 rw [stepI,hdy] at hR
 have HR:=qy.mk hR
 clear hR
 clear hw ho hoy hl hsz hdy hN hNn
 go_enter Try.func53,Try.ntmps53
 go_wp2_with fail
 clear hc
 go_loopg [3,17] (s.y.length + 1) (fun kq v3 v17 w'=>∃ d i : Int,v3 = .int .i64 d ∧ v17 = .int .i64 i ∧ qy (0 ≤ i ∧ i + kq = s.y.length + 1 ∧ i ≤ s.y.length) ∧ qy (stY s.nd s.y s.lb kq i d = dy) ∧ qy (Below W.heap.size W w'))
 case atStart=>exact ⟨-1,0,rfl,rfl,⟨by omega,by omega,by omega⟩,HT,⟨Below.refl _ _⟩⟩
 clear HT
 obtain ⟨d,i,rfl,rfl,HI,HT,HB⟩:=hrel
 have HS1:=qy.mk (HS.out.to HB.out)
 have hc:=HS1.out.cells
 cases gk with
 | zero =>
  exfalso
  have h1:=HI.out
  omega
 | succ k1 =>
  have h:=HT.out
  clear HT
  rw [stY] at h
  by_cases c : i < (s.y.length : Int)
  ·rw [if_pos c] at h
   have hi0:=HI.out.1
   have HIL:=qy.mk c
   have HIN : qy (inR i s.nd.length):=⟨⟨hi0,by have:=H0.out;omega⟩⟩
   have cl0 : decide (i < (s.y.length : Int)) = true:=decide_eq_true c
   have hp0 : 0 < s.nd.length:=by have:=H0.out;omega
   obtain ⟨bl,_,e_,-⟩:=row_at HS.out.rl (by rw [HL.out];exact hp0)
   injection e_ with e_ e2_ e3_
   clear e2_ e3_
   subst e_
   clear hp0
   obtain ⟨ady,e_,hy⟩:=Kd.at_int (Kd.R_reads' HS1.out.ry).2.2 i hi0 c
   subst e_
   have pi:=eq_true hi0
   have qi:=eq_true c
   have HTI:=qy.mk (topI_in HW.out HIN.out)
   have HTO:=qy.mk (top_is HW.out HIN.out)
   obtain ⟨xl,fl⟩:=int_at HS1.out.rl (topI s.nd i) HTI.out.1 (by rw [HL.out];exact HTI.out.2)
   have pt:=eq_true HTI.out.1
   have qt:=eq_true HTI.out.2
   clear c
   by_cases ct : rd s.lb (topI s.nd i) = 1
   ·rw [if_pos ct] at h
    have HT:=qy.mk h
    have cb : (rd s.lb (topI s.nd i) == 1) = true:=by simpa using ct
    clear h ct
    go_wp2_with fail
    go_quiet ((go_at_call 35;exact Calls.quiet_of_same (top_calls (by first|exact HS1.out|exact HS1.out.to) _ _ _ HTO.out)))
    go_wp2_with (first|(go_at_call 54;(with_reducible refine (impl_lesser.calls d (rd s.y i) _ _ (lesser_is _ _)).mono ?_);rintro e w7 ⟨rfl,⟨nd,rfl⟩⟩))
    go_roundg k1
    case measure=>omega
    case rel=>exact ⟨_,i + 1,rfl,by rw [w64 (by omega) (by have:=HIL.out;have:=H0.out;omega)],⟨by omega,by have:=HI.out;omega,by have:=HIL.out;omega⟩,HT,⟨qd HB.out _⟩⟩
   rw [if_neg ct] at h
   have HT:=qy.mk h
   have cb : (rd s.lb (topI s.nd i) == 1) = false:=by simpa using ct
   clear h ct
   go_wp2_with fail
   go_quiet ((go_at_call 35;exact Calls.quiet_of_same (top_calls (by first|exact HS1.out|exact HS1.out.to) _ _ _ HTO.out)))
   go_wp2_with fail
   go_roundg k1
   case measure=>omega
   case rel=>exact ⟨d,i + 1,rfl,by rw [w64 (by omega) (by have:=HIL.out;have:=H0.out;omega)],⟨by omega,by have:=HI.out;omega,by have:=HIL.out;omega⟩,HT,⟨qd HB.out _⟩⟩
  rw [if_neg c] at h
  have cl0 : decide (i < (s.y.length : Int)) = false:=decide_eq_false c
  subst h
  clear c
  by_cases cd : d < 0
  ·have cd0 : decide (d < 0) = true:=decide_eq_true cd
   have hR:=HR.out
   rw [if_pos cd] at hR
   clear HR
   go_wp2_with fail
   go_ret
   exact ⟨by rw [← hR];rfl,HB.out⟩
  have cd0 : decide (d < 0) = false:=decide_eq_false cd
  have hR:=HR.out
  rw [if_neg cd] at hR
  clear HR
  have HR:=qy.mk hR
  clear hR
  clear HI hc HS1
  obtain ⟨d1,hd1⟩ : ∃ d1,stE s.y s.nd s.lb es (es.length + 1) 0 d = d1:=⟨_,rfl⟩
  have HT:=qy.mk hd1
  have hR:=HR.out
  rw [hd1] at hR
  replace HR:=qy.mk hR
  clear hR hd1
  have HB0:=HB
  have hcw:=(HS.out.to HB.out).cells
  clear HB
  go_wp2_with fail
  clear hcw
  go_loopg [3,45] (es.length + 1) (fun kq v3 v45 w'=>∃ d i : Int,v3 = .int .i64 d ∧ v45 = .int .i64 i ∧ qy (0 ≤ i ∧ i + kq = es.length + 1 ∧ i ≤ es.length) ∧ qy (stE s.y s.nd s.lb es kq i d = d1) ∧ qy (Below W.heap.size W w'))
  case atStart=>exact ⟨d,0,rfl,rfl,⟨by omega,by omega,by omega⟩,HT,HB0⟩
  clear HT HB0
  obtain ⟨d,i,rfl,rfl,HI,HT,HB⟩:=hrel
  have HS1:=qy.mk (HS.out.to HB.out)
  have hc:=HS1.out.cells
  cases gk with
  | zero =>
   exfalso
   have h1:=HI.out
   omega
  | succ k1 =>
   have h:=HT.out
   clear HT
   rw [stE] at h
   by_cases c : i < (es.length : Int)
   ·rw [if_pos c] at h
    have HIR : qy (inR i es.length):=⟨⟨HI.out.1,c⟩⟩
    have HTA:=qy.mk (topI_in HW.out (HE.out i HIR.out).1)
    have HTB:=qy.mk (topI_in HW.out (HE.out i HIR.out).2)
    have cl0 : decide (i < (es.length : Int)) = true:=decide_eq_true c
    clear c
    rw [edD] at h
    by_cases c1 : topI s.nd (rd_T51 es i).f0 = topI s.nd (rd_T51 es i).f1
    ·rw [if_pos c1] at h
     have cb1 : (topI s.nd (rd_T51 es i).f0 == topI s.nd (rd_T51 es i).f1) = true:=by simpa using c1
     have HT:=qy.mk h
     clear c1 h
     go_wp2_with (first|(go_at_call 60;(with_reducible refine (ends_calls (by first|exact HS1.out|exact HS1.out.to) HW.out HE.out i HIR.out).mono ?_);rintro e w2 ⟨rfl,m,rfl⟩))
     (all_goals (go_roundg k1;(case measure=>omega);(case rel=>exact ⟨_,i + 1,rfl,by rw [w64 (by have:=HI.out;omega) (by have:=HIR.out.2;have:=HM.out;omega)],⟨by have:=HI.out;omega,by have:=HI.out;omega,by have:=HIR.out.2;omega⟩,by first|exact HT|exact ⟨(congrArg (stE s.y s.nd s.lb es k1 (i + 1)) (by omega)).trans HT.out⟩,by first|exact HB3|exact HB|exact ⟨qd HB.out _⟩⟩)))
    rw [if_neg c1] at h
    have cb1 : (topI s.nd (rd_T51 es i).f0 == topI s.nd (rd_T51 es i).f1) = false:=by simpa using c1
    clear c1
    have hp0 : 0 < s.nd.length:=by have h1:=HTA.out.1;have h2:=HTA.out.2;omega
    obtain ⟨bl,_,e_,-⟩:=row_at HS.out.rl (by rw [HL.out];exact hp0)
    injection e_ with e_ e2_ e3_
    clear e2_ e3_
    subst e_
    clear hp0
    obtain ⟨xa,fa⟩:=int_at HS1.out.rl (topI s.nd (rd_T51 es i).f0) HTA.out.1 (by rw [HL.out];exact HTA.out.2)
    obtain ⟨xb,fb⟩:=int_at HS1.out.rl (topI s.nd (rd_T51 es i).f1) HTB.out.1 (by rw [HL.out];exact HTB.out.2)
    have pa:=eq_true HTA.out.1
    have qa:=eq_true HTA.out.2
    have pb:=eq_true HTB.out.1
    have qb:=eq_true HTB.out.2
    go_wp2_with (first|(go_at_call 60;(with_reducible refine (ends_calls (by first|exact HS1.out|exact HS1.out.to) HW.out HE.out i HIR.out).mono ?_);rintro e w2 ⟨rfl,m,rfl⟩))
    go_quiet (fail)
    generalize rd s.lb (topI s.nd (rd_T51 es i).f0) = x at h ⊢
    generalize rd s.lb (topI s.nd (rd_T51 es i).f1) = y at h ⊢
    by_cases x1 : x = 1
    ·have xb1 : (x == 1) = true:=by simpa using x1
     by_cases y1 : y = 1
     ·have yb1 : (y == 1) = true:=by simpa using y1
      rw [if_pos ⟨x1,y1⟩] at h
      have HT:=qy.mk h
      clear h x1 y1
      go_wp2_with (first|(go_at_call 61;(with_reducible refine (slack_calls (by first|exact HS1.out|exact HS1.out.to) HW.out HE.out HY.out i HIR.out).mono ?_);rintro e w3 ⟨rfl,hb⟩;have HB3 : qy (Below W.heap.size W w3):=⟨qx (by repeat (first|exact HB.out|apply qd)) hb⟩;clear hb))
      (all_goals (go_roundg k1;(case measure=>omega);(case rel=>exact ⟨_,i + 1,rfl,by rw [w64 (by have:=HI.out;omega) (by have:=HIR.out.2;have:=HM.out;omega)],⟨by have:=HI.out;omega,by have:=HI.out;omega,by have:=HIR.out.2;omega⟩,by first|exact HT|exact ⟨(congrArg (stE s.y s.nd s.lb es k1 (i + 1)) (by omega)).trans HT.out⟩,by first|exact HB3|exact HB|exact ⟨qd HB.out _⟩⟩)))
     have yb1 : (y == 1) = false:=by simpa using y1
     rw [if_neg (fun h=>y1 h.2)] at h
     by_cases y0 : y = 0
     ·have yb0 : (y == 0) = true:=by simpa using y0
      rw [if_pos (.inl ⟨x1,y0⟩)] at h
      have HT:=qy.mk h
      clear h x1 y1 y0
      go_wp2_with (first|(go_at_call 61;(with_reducible refine (slack_calls (by first|exact HS1.out|exact HS1.out.to) HW.out HE.out HY.out i HIR.out).mono ?_);rintro e w3 ⟨rfl,hb⟩;have HB3 : qy (Below W.heap.size W w3):=⟨qx (by repeat (first|exact HB.out|apply qd)) hb⟩;clear hb))
      (all_goals (go_roundg k1;(case measure=>omega);(case rel=>exact ⟨_,i + 1,rfl,by rw [w64 (by have:=HI.out;omega) (by have:=HIR.out.2;have:=HM.out;omega)],⟨by have:=HI.out;omega,by have:=HI.out;omega,by have:=HIR.out.2;omega⟩,by first|exact HT|exact ⟨(congrArg (stE s.y s.nd s.lb es k1 (i + 1)) (by omega)).trans HT.out⟩,by first|exact HB3|exact HB|exact ⟨qd HB.out _⟩⟩)))
     have yb0 : (y == 0) = false:=by simpa using y0
     have xb0 : (x == 0) = false:=by rw [x1];rfl
     rw [if_neg (fun h=>h.elim (fun h=>y0 h.2) (fun h=>y1 h.2))] at h
     have HT:=qy.mk h
     clear h x1 y1 y0
     go_wp2_with (first|(go_at_call 61;(with_reducible refine (slack_calls (by first|exact HS1.out|exact HS1.out.to) HW.out HE.out HY.out i HIR.out).mono ?_);rintro e w3 ⟨rfl,hb⟩;have HB3 : qy (Below W.heap.size W w3):=⟨qx (by repeat (first|exact HB.out|apply qd)) hb⟩;clear hb))
     (all_goals (go_roundg k1;(case measure=>omega);(case rel=>exact ⟨_,i + 1,rfl,by rw [w64 (by have:=HI.out;omega) (by have:=HIR.out.2;have:=HM.out;omega)],⟨by have:=HI.out;omega,by have:=HI.out;omega,by have:=HIR.out.2;omega⟩,by first|exact HT|exact ⟨(congrArg (stE s.y s.nd s.lb es k1 (i + 1)) (by omega)).trans HT.out⟩,by first|exact HB3|exact HB|exact ⟨qd HB.out _⟩⟩)))
    have xb1 : (x == 1) = false:=by simpa using x1
    rw [if_neg (fun h=>x1 h.1)] at h
    by_cases x0 : x = 0
    ·have xb0 : (x == 0) = true:=by simpa using x0
     by_cases y1 : y = 1
     ·have yb1 : (y == 1) = true:=by simpa using y1
      rw [if_pos (.inr ⟨x0,y1⟩)] at h
      have HT:=qy.mk h
      clear h x1 x0 y1
      go_wp2_with (first|(go_at_call 61;(with_reducible refine (slack_calls (by first|exact HS1.out|exact HS1.out.to) HW.out HE.out HY.out i HIR.out).mono ?_);rintro e w3 ⟨rfl,hb⟩;have HB3 : qy (Below W.heap.size W w3):=⟨qx (by repeat (first|exact HB.out|apply qd)) hb⟩;clear hb))
      (all_goals (go_roundg k1;(case measure=>omega);(case rel=>exact ⟨_,i + 1,rfl,by rw [w64 (by have:=HI.out;omega) (by have:=HIR.out.2;have:=HM.out;omega)],⟨by have:=HI.out;omega,by have:=HI.out;omega,by have:=HIR.out.2;omega⟩,by first|exact HT|exact ⟨(congrArg (stE s.y s.nd s.lb es k1 (i + 1)) (by omega)).trans HT.out⟩,by first|exact HB3|exact HB|exact ⟨qd HB.out _⟩⟩)))
     have yb1 : (y == 1) = false:=by simpa using y1
     rw [if_neg (fun h=>h.elim (fun h=>x1 h.1) (fun h=>y1 h.2))] at h
     have HT:=qy.mk h
     clear h x1 x0 y1
     go_wp2_with (first|(go_at_call 61;(with_reducible refine (slack_calls (by first|exact HS1.out|exact HS1.out.to) HW.out HE.out HY.out i HIR.out).mono ?_);rintro e w3 ⟨rfl,hb⟩;have HB3 : qy (Below W.heap.size W w3):=⟨qx (by repeat (first|exact HB.out|apply qd)) hb⟩;clear hb))
     (all_goals (go_roundg k1;(case measure=>omega);(case rel=>exact ⟨_,i + 1,rfl,by rw [w64 (by have:=HI.out;omega) (by have:=HIR.out.2;have:=HM.out;omega)],⟨by have:=HI.out;omega,by have:=HI.out;omega,by have:=HIR.out.2;omega⟩,by first|exact HT|exact ⟨(congrArg (stE s.y s.nd s.lb es k1 (i + 1)) (by omega)).trans HT.out⟩,by first|exact HB3|exact HB|exact ⟨qd HB.out _⟩⟩)))
    have xb0 : (x == 0) = false:=by simpa using x0
    rw [if_neg (fun h=>h.elim (fun h=>x1 h.1) (fun h=>x0 h.1))] at h
    have HT:=qy.mk h
    clear h x1 x0
    go_wp2_with (first|(go_at_call 61;(with_reducible refine (slack_calls (by first|exact HS1.out|exact HS1.out.to) HW.out HE.out HY.out i HIR.out).mono ?_);rintro e w3 ⟨rfl,hb⟩;have HB3 : qy (Below W.heap.size W w3):=⟨qx (by repeat (first|exact HB.out|apply qd)) hb⟩;clear hb))
    (all_goals (go_roundg k1;(case measure=>omega);(case rel=>exact ⟨_,i + 1,rfl,by rw [w64 (by have:=HI.out;omega) (by have:=HIR.out.2;have:=HM.out;omega)],⟨by have:=HI.out;omega,by have:=HI.out;omega,by have:=HIR.out.2;omega⟩,by first|exact HT|exact ⟨(congrArg (stE s.y s.nd s.lb es k1 (i + 1)) (by omega)).trans HT.out⟩,by first|exact HB3|exact HB|exact ⟨qd HB.out _⟩⟩)))
   rw [if_neg c] at h
   have cl0 : decide (i < (es.length : Int)) = false:=decide_eq_false c
   subst h
   clear c
   clear HI hc HS1
   have HB0:=HB
   have hcw:=(HS.out.to HB.out).cells
   have HT:=HR
   clear HB
   go_wp2_with fail
   clear hcw
   go_loopg [3,11] (s.nd.length + 1) (fun kq v3 v11 w'=>∃ d i : Int,v3 = .int .i64 d ∧ v11 = .int .i64 i ∧ qy (0 ≤ i ∧ s.nd.length + 1 ≤ i + kq ∧ i ≤ s.nd.length) ∧ qy (stN s.nd s.lb kq i d = R) ∧ qy (Below W.heap.size W w'))
   case atStart=>exact ⟨d,N,rfl,rfl,⟨by have:=H0.out;omega,by have:=H0.out;omega,by have:=H0.out;omega⟩,HT,HB0⟩
   clear HT HB0 HR
   obtain ⟨d,i,rfl,rfl,HI,HT,HB⟩:=hrel
   have HS1:=qy.mk (HS.out.to HB.out)
   have hc:=HS1.out.cells
   cases gk with
   | zero =>
    exfalso
    have h1:=HI.out
    omega
   | succ k1 =>
    have h:=HT.out
    clear HT
    rw [stN] at h
    by_cases c : i < (s.nd.length : Int)
    ·rw [if_pos c] at h
     have hi0:=HI.out.1
     have HIN : qy (inR i s.nd.length):=⟨hi0,c⟩
     have cl0 : decide (i < (s.nd.length : Int)) = true:=decide_eq_true c
     have pi:=eq_true hi0
     have qi:=eq_true c
     have hp0 : 0 < s.nd.length:=by omega
     obtain ⟨bn,_,e_,-⟩:=row_at HS.out.rn hp0
     injection e_ with e_ e2_ e3_
     clear e2_ e3_
     subst e_
     obtain ⟨bl,_,e_,-⟩:=row_at HS.out.rl (by rw [HL.out];exact hp0)
     injection e_ with e_ e2_ e3_
     clear e2_ e3_
     subst e_
     clear hp0
     obtain ⟨A0n,c0n,A1n,c1n,nx0,nx1,nx2,nx3,nx4,nx5,nx6,nf2,nf3,nf5,nf6,-⟩:=HS1.out.node_at i hi0 c
     obtain ⟨xl,fl⟩:=int_at HS1.out.rl i hi0 (by rw [HL.out];exact c)
     clear c
     cases ct1 : isTopB (rd_T60 s.nd i) with
     | false =>
      rw [if_neg (fun h=>by rw [ct1] at h;exact absurd h.1 (by decide))] at h
      have HT:=qy.mk h
      clear h
      go_wp2_with (first|(go_at_call 50;(with_reducible refine (isTop_calls' HS1.out i false HIN.out ct1).mono ?_);rintro e w7 ⟨rfl,h2⟩;replace h2:=h2.symm;subst h2))
      (all_goals (go_roundg k1;(case measure=>omega);(case rel=>exact ⟨_,i + 1,rfl,by rw [w64 (by have:=HI.out;omega) (by have:=HIN.out.2;have:=H0.out;omega)],⟨by have:=HI.out;omega,by have:=HI.out;omega,by have:=HIN.out.2;omega⟩,by first|exact HT|exact ⟨(congrArg (stN s.nd s.lb k1 (i + 1)) (by omega)).trans HT.out⟩,HB⟩)))
     | true =>
      by_cases cz : rd s.lb i = 2
      ·have cz1 : (rd s.lb i == 2) = true:=by simpa using cz
       rw [if_pos ⟨ct1,cz⟩] at h
       have HT:=qy.mk h
       clear h cz
       go_wp2_with (first|(go_at_call 50;(with_reducible refine (isTop_calls' HS1.out i true HIN.out ct1).mono ?_);rintro e w7 ⟨rfl,h2⟩;replace h2:=h2.symm;subst h2))
       (all_goals (go_roundg k1;(case measure=>omega);(case rel=>exact ⟨_,i + 1,rfl,by rw [w64 (by have:=HI.out;omega) (by have:=HIN.out.2;have:=H0.out;omega)],⟨by have:=HI.out;omega,by have:=HI.out;omega,by have:=HIN.out.2;omega⟩,by first|exact HT|exact ⟨(congrArg (stN s.nd s.lb k1 (i + 1)) (by omega)).trans HT.out⟩,HB⟩)))
      have cz1 : (rd s.lb i == 2) = false:=by simpa using cz
      rw [if_neg (fun h=>cz h.2)] at h
      have HT:=qy.mk h
      clear h cz
      go_wp2_with (first|(go_at_call 50;(with_reducible refine (isTop_calls' HS1.out i true HIN.out ct1).mono ?_);rintro e w7 ⟨rfl,h2⟩;replace h2:=h2.symm;subst h2))
      (all_goals (go_roundg k1;(case measure=>omega);(case rel=>exact ⟨_,i + 1,rfl,by rw [w64 (by have:=HI.out;omega) (by have:=HIN.out.2;have:=H0.out;omega)],⟨by have:=HI.out;omega,by have:=HI.out;omega,by have:=HIN.out.2;omega⟩,by first|exact HT|exact ⟨(congrArg (stN s.nd s.lb k1 (i + 1)) (by omega)).trans HT.out⟩,HB⟩)))
    rw [if_neg c] at h
    have cl0 : decide (i < (s.nd.length : Int)) = false:=decide_eq_false c
    subst h
    clear c
    go_wp2_with fail
    go_ret
    exact ⟨rfl,HB.out⟩
end Go.Proofs.Ytnffimpoekjkpaa.QFnExactRounds
