/- The program's solver: found. -/
import Derived.Test.YtnffimpoekjkpaaZFnExactRoundsx23
namespace Go.Proofs.Ytnffimpoekjkpaa.QFnExactRounds
open Go.RowKit Go.Proofs.YtnffimpoekjkpaaW.PrintWords Go.Proofs.YtnffimpoekjkpaaW.PrintLast Go.Proofs.YtnffimpoekjkpaaW.PrintMore
attribute [local go_sem] max2_int min2_int max_two min_two max_three min_three max_four min_four
set_option linter.unusedVariables false
set_option linter.unusedSimpArgs false
/-- The first edge by which something is found, from an edge on. -/
def foundF (y : List Int) (nd : List (S60)) (lb : List Int) (es : List (S51)) : Nat → Int → Int × Int × Int
 | 0,_=>(-1,-1,-1)
 | k + 1,i =>
  if i < (es.length : Int) then
   if topI nd (rd_T51 es i).f0 = topI nd (rd_T51 es i).f1 then foundF y nd lb es k (i + 1)
   else if slackI y nd (rd_T51 es i) ≠ 0 then foundF y nd lb es k (i + 1)
   else if rd lb (topI nd (rd_T51 es i).f0) = 1 ∧ rd lb (topI nd (rd_T51 es i).f1) ≠ 2 then (i,topI nd (rd_T51 es i).f0,topI nd (rd_T51 es i).f1)
   else if rd lb (topI nd (rd_T51 es i).f1) = 1 ∧ rd lb (topI nd (rd_T51 es i).f0) = 0 then (i,topI nd (rd_T51 es i).f1,topI nd (rd_T51 es i).f0)
   else foundF y nd lb es k (i + 1)
  else (-1,-1,-1)
def foundI (y : List Int) (nd : List (S60)) (lb : List Int) (es : List (S51)) : Int × Int × Int:=foundF y nd lb es (es.length + 1) 0
set_option maxHeartbeats 8000000 in
set_option maxRecDepth 100000 in
theorem found_calls {w0 W : World} {g : Nat} {N : Int} {Ae : Option Addr} {ce : Nat} {es : List (S51)} {col : Nat → Nat} {vy vn vl va vb : Value} {s : SI} (hS : Sol w0 W g N Ae ce es col vy vn vl va vb s) (hw : WFn s.nd) (ho : EOk es s.nd.length) (hoy : EOk es s.y.length) (hl : s.lb.length = s.nd.length) :
  Calls Try.prog 51 #[.pointer (some ⟨g,0,none⟩)] W fun e w'=>e = .returned (.tuple #[.int .i64 (foundI s.y s.nd s.lb es).1,.int .i64 (foundI s.y s.nd s.lb es).2.1,.int .i64 (foundI s.y s.nd s.lb es).2.2]) ∧ Below W.heap.size W w':=by
 have hu47:=Try.underlying47
 have hu60:=Try.underlying60
 have hu51:=Try.underlying51
 have hu29:=Try.underlying29
 have HS:=qy.mk hS
 clear hS
 obtain ⟨r,hr⟩ : ∃ r,foundI s.y s.nd s.lb es = r:=⟨_,rfl⟩
 rw [hr]
 rw [foundI] at hr
 have HT:=qy.mk hr
 have HW:=qy.mk hw
 have HE:=qy.mk ho
 have HY:=qy.mk hoy
 have HL:=qy.mk hl
 have HEC:=qy.mk HS.out.hec
 have HM:=qy.mk (Kd.C_max HS.out.he)
 clear hw ho hoy hl hr
 obtain ⟨Al,cl,e_⟩:=Kd.R_slice HS.out.rl
 subst e_
 have hc:=HS.out.cells
 go_enter Try.func51,Try.ntmps51
 go_wp2_with fail
 clear hc
 go_loopg [14] (es.length + 1) (fun kq v14 w'=>∃ i : Int,v14 = .int .i64 i ∧ qy (0 ≤ i ∧ i + kq = es.length + 1 ∧ i ≤ es.length) ∧ qy (foundF s.y s.nd s.lb es kq i = r) ∧ qy (Below W.heap.size W w'))
 case atStart=>exact ⟨0,rfl,⟨by omega,by omega,by omega⟩,HT,⟨Below.refl _ _⟩⟩
 clear HT
 obtain ⟨i,rfl,HI,HT,HB⟩:=hrel
 cases gk with
 | zero =>
  exfalso
  have h1:=HI.out
  omega
 | succ k1 =>
  have h:=HT.out
  clear HT
  rw [foundF] at h
  have HS1:=qy.mk (HS.out.to HB.out)
  by_cases c : i < (es.length : Int)
  ·rw [if_pos c] at h
   have HIR : qy (inR i es.length):=⟨HI.out.1,c⟩
   have HTA:=qy.mk (topI_in HW.out (HE.out i HIR.out).1)
   have HTB:=qy.mk (topI_in HW.out (HE.out i HIR.out).2)
   rw [← HL.out] at HTA HTB
   have cl0 : decide (i < (es.length : Int)) = true:=decide_eq_true c
   obtain ⟨la,e_,-⟩:=Kd.at_int (Kd.R_reads' HS1.out.rl).2.2 (topI s.nd (rd_T51 es i).f0) HTA.out.1 HTA.out.2
   subst e_
   clear c
   by_cases c1 : topI s.nd (rd_T51 es i).f0 = topI s.nd (rd_T51 es i).f1
   ·rw [if_pos c1] at h
    have cb1 : (topI s.nd (rd_T51 es i).f0 == topI s.nd (rd_T51 es i).f1) = true:=by simpa using c1
    have HT:=qy.mk h
    clear c1 h
    go_wp2_with (first|(go_at_call 60;(with_reducible refine (ends_calls (by first|exact HS1.out|exact HS1.out.to) HW.out HE.out i HIR.out).mono ?_);rintro e w2 ⟨rfl,m,rfl⟩)|(go_at_call 61;(with_reducible refine (slack_calls (by first|exact HS1.out|exact HS1.out.to) HW.out HE.out HY.out i HIR.out).mono ?_);rintro e w3 ⟨rfl,hb⟩;have HB3 : qy (Below W.heap.size W w3):=⟨qx (by repeat (first|exact HB.out|apply qd)) hb⟩;have HS3:=qy.mk (HS.out.to HB3.out);clear hb;have hc3:=HS3.out.cells;obtain ⟨la1,e1_,hla⟩:=Kd.at_int (Kd.R_reads' HS3.out.rl).2.2 (topI s.nd (rd_T51 es i).f0) HTA.out.1 HTA.out.2;obtain rfl:=Option.some.inj e1_;obtain ⟨la2,e2_,hlb⟩:=Kd.at_int (Kd.R_reads' HS3.out.rl).2.2 (topI s.nd (rd_T51 es i).f1) HTB.out.1 HTB.out.2;obtain rfl:=Option.some.inj e2_;have ba0:=eq_true HTA.out.1;have ba1:=eq_true HTA.out.2;have bb0:=eq_true HTB.out.1;have bb1:=eq_true HTB.out.2))
    (go_roundg k1;(case measure=>omega);(case rel=>exact ⟨i + 1,by rw [show wrap64 (i + 1) = i + 1 from by have h1:=HI.out;have h2:=HM.out;have h3:=HIR.out.2;unfold wrap64;omega],⟨by have h1:=HI.out;have h3:=HIR.out.2;omega,by have h1:=HI.out;omega,by have h3:=HIR.out.2;omega⟩,HT,by first|exact HB3|exact HB|exact ⟨qd HB.out _⟩⟩))
   rw [if_neg c1] at h
   have cb1 : (topI s.nd (rd_T51 es i).f0 == topI s.nd (rd_T51 es i).f1) = false:=by simpa using c1
   clear c1
   by_cases c2 : slackI s.y s.nd (rd_T51 es i) ≠ 0
   ·rw [if_pos c2] at h
    have cb2 : (slackI s.y s.nd (rd_T51 es i) != 0) = true:=by simpa using c2
    have HT:=qy.mk h
    clear c2 h
    go_wp2_with (first|(go_at_call 60;(with_reducible refine (ends_calls (by first|exact HS1.out|exact HS1.out.to) HW.out HE.out i HIR.out).mono ?_);rintro e w2 ⟨rfl,m,rfl⟩)|(go_at_call 61;(with_reducible refine (slack_calls (by first|exact HS1.out|exact HS1.out.to) HW.out HE.out HY.out i HIR.out).mono ?_);rintro e w3 ⟨rfl,hb⟩;have HB3 : qy (Below W.heap.size W w3):=⟨qx (by repeat (first|exact HB.out|apply qd)) hb⟩;have HS3:=qy.mk (HS.out.to HB3.out);clear hb;have hc3:=HS3.out.cells;obtain ⟨la1,e1_,hla⟩:=Kd.at_int (Kd.R_reads' HS3.out.rl).2.2 (topI s.nd (rd_T51 es i).f0) HTA.out.1 HTA.out.2;obtain rfl:=Option.some.inj e1_;obtain ⟨la2,e2_,hlb⟩:=Kd.at_int (Kd.R_reads' HS3.out.rl).2.2 (topI s.nd (rd_T51 es i).f1) HTB.out.1 HTB.out.2;obtain rfl:=Option.some.inj e2_;have ba0:=eq_true HTA.out.1;have ba1:=eq_true HTA.out.2;have bb0:=eq_true HTB.out.1;have bb1:=eq_true HTB.out.2))
    (go_roundg k1;(case measure=>omega);(case rel=>exact ⟨i + 1,by rw [show wrap64 (i + 1) = i + 1 from by have h1:=HI.out;have h2:=HM.out;have h3:=HIR.out.2;unfold wrap64;omega],⟨by have h1:=HI.out;have h3:=HIR.out.2;omega,by have h1:=HI.out;omega,by have h3:=HIR.out.2;omega⟩,HT,by first|exact HB3|exact HB|exact ⟨qd HB.out _⟩⟩))
   rw [if_neg c2] at h
   have cb2 : (slackI s.y s.nd (rd_T51 es i) != 0) = false:=by simpa using c2
   clear c2
   by_cases c3 : rd s.lb (topI s.nd (rd_T51 es i).f0) = 1
   ·have cb3 : (rd s.lb (topI s.nd (rd_T51 es i).f0) == 1) = true:=by simpa using c3
    by_cases c4 : rd s.lb (topI s.nd (rd_T51 es i).f1) = 2
    ·have cb4 : (rd s.lb (topI s.nd (rd_T51 es i).f1) != 2) = false:=by simpa using c4
     have cb5 : (rd s.lb (topI s.nd (rd_T51 es i).f1) == 1) = false:=by rw [c4];rfl
     rw [if_neg (fun h=>h.2 c4),if_neg (fun h=>by have:=h.1;omega)] at h
     have HT:=qy.mk h
     clear c3 c4 h
     go_wp2_with (first|(go_at_call 60;(with_reducible refine (ends_calls (by first|exact HS1.out|exact HS1.out.to) HW.out HE.out i HIR.out).mono ?_);rintro e w2 ⟨rfl,m,rfl⟩)|(go_at_call 61;(with_reducible refine (slack_calls (by first|exact HS1.out|exact HS1.out.to) HW.out HE.out HY.out i HIR.out).mono ?_);rintro e w3 ⟨rfl,hb⟩;have HB3 : qy (Below W.heap.size W w3):=⟨qx (by repeat (first|exact HB.out|apply qd)) hb⟩;have HS3:=qy.mk (HS.out.to HB3.out);clear hb;have hc3:=HS3.out.cells;obtain ⟨la1,e1_,hla⟩:=Kd.at_int (Kd.R_reads' HS3.out.rl).2.2 (topI s.nd (rd_T51 es i).f0) HTA.out.1 HTA.out.2;obtain rfl:=Option.some.inj e1_;obtain ⟨la2,e2_,hlb⟩:=Kd.at_int (Kd.R_reads' HS3.out.rl).2.2 (topI s.nd (rd_T51 es i).f1) HTB.out.1 HTB.out.2;obtain rfl:=Option.some.inj e2_;have ba0:=eq_true HTA.out.1;have ba1:=eq_true HTA.out.2;have bb0:=eq_true HTB.out.1;have bb1:=eq_true HTB.out.2))
     (go_roundg k1;(case measure=>omega);(case rel=>exact ⟨i + 1,by rw [show wrap64 (i + 1) = i + 1 from by have h1:=HI.out;have h2:=HM.out;have h3:=HIR.out.2;unfold wrap64;omega],⟨by have h1:=HI.out;have h3:=HIR.out.2;omega,by have h1:=HI.out;omega,by have h3:=HIR.out.2;omega⟩,HT,by first|exact HB3|exact HB|exact ⟨qd HB.out _⟩⟩))
    have cb4 : (rd s.lb (topI s.nd (rd_T51 es i).f1) != 2) = true:=by simpa using c4
    rw [if_pos ⟨c3,c4⟩] at h
    subst h
    clear c3 c4
    go_wp2_with (first|(go_at_call 60;(with_reducible refine (ends_calls (by first|exact HS1.out|exact HS1.out.to) HW.out HE.out i HIR.out).mono ?_);rintro e w2 ⟨rfl,m,rfl⟩)|(go_at_call 61;(with_reducible refine (slack_calls (by first|exact HS1.out|exact HS1.out.to) HW.out HE.out HY.out i HIR.out).mono ?_);rintro e w3 ⟨rfl,hb⟩;have HB3 : qy (Below W.heap.size W w3):=⟨qx (by repeat (first|exact HB.out|apply qd)) hb⟩;have HS3:=qy.mk (HS.out.to HB3.out);clear hb;have hc3:=HS3.out.cells;obtain ⟨la1,e1_,hla⟩:=Kd.at_int (Kd.R_reads' HS3.out.rl).2.2 (topI s.nd (rd_T51 es i).f0) HTA.out.1 HTA.out.2;obtain rfl:=Option.some.inj e1_;obtain ⟨la2,e2_,hlb⟩:=Kd.at_int (Kd.R_reads' HS3.out.rl).2.2 (topI s.nd (rd_T51 es i).f1) HTB.out.1 HTB.out.2;obtain rfl:=Option.some.inj e2_;have ba0:=eq_true HTA.out.1;have ba1:=eq_true HTA.out.2;have bb0:=eq_true HTB.out.1;have bb1:=eq_true HTB.out.2))
    go_ret3
    exact ⟨rfl,HB3.out⟩
   have cb3 : (rd s.lb (topI s.nd (rd_T51 es i).f0) == 1) = false:=by simpa using c3
   rw [if_neg (fun h=>c3 h.1)] at h
   clear c3
   by_cases c5 : rd s.lb (topI s.nd (rd_T51 es i).f1) = 1
   ·have cb5 : (rd s.lb (topI s.nd (rd_T51 es i).f1) == 1) = true:=by simpa using c5
    by_cases c6 : rd s.lb (topI s.nd (rd_T51 es i).f0) = 0
    ·have cb6 : (rd s.lb (topI s.nd (rd_T51 es i).f0) == 0) = true:=by simpa using c6
     rw [if_pos ⟨c5,c6⟩] at h
     subst h
     clear c5 c6
     go_wp2_with (first|(go_at_call 60;(with_reducible refine (ends_calls (by first|exact HS1.out|exact HS1.out.to) HW.out HE.out i HIR.out).mono ?_);rintro e w2 ⟨rfl,m,rfl⟩)|(go_at_call 61;(with_reducible refine (slack_calls (by first|exact HS1.out|exact HS1.out.to) HW.out HE.out HY.out i HIR.out).mono ?_);rintro e w3 ⟨rfl,hb⟩;have HB3 : qy (Below W.heap.size W w3):=⟨qx (by repeat (first|exact HB.out|apply qd)) hb⟩;have HS3:=qy.mk (HS.out.to HB3.out);clear hb;have hc3:=HS3.out.cells;obtain ⟨la1,e1_,hla⟩:=Kd.at_int (Kd.R_reads' HS3.out.rl).2.2 (topI s.nd (rd_T51 es i).f0) HTA.out.1 HTA.out.2;obtain rfl:=Option.some.inj e1_;obtain ⟨la2,e2_,hlb⟩:=Kd.at_int (Kd.R_reads' HS3.out.rl).2.2 (topI s.nd (rd_T51 es i).f1) HTB.out.1 HTB.out.2;obtain rfl:=Option.some.inj e2_;have ba0:=eq_true HTA.out.1;have ba1:=eq_true HTA.out.2;have bb0:=eq_true HTB.out.1;have bb1:=eq_true HTB.out.2))
     go_ret3
     exact ⟨rfl,HB3.out⟩
    have cb6 : (rd s.lb (topI s.nd (rd_T51 es i).f0) == 0) = false:=by simpa using c6
    rw [if_neg (fun h=>c6 h.2)] at h
    have HT:=qy.mk h
    clear c5 c6 h
    go_wp2_with (first|(go_at_call 60;(with_reducible refine (ends_calls (by first|exact HS1.out|exact HS1.out.to) HW.out HE.out i HIR.out).mono ?_);rintro e w2 ⟨rfl,m,rfl⟩)|(go_at_call 61;(with_reducible refine (slack_calls (by first|exact HS1.out|exact HS1.out.to) HW.out HE.out HY.out i HIR.out).mono ?_);rintro e w3 ⟨rfl,hb⟩;have HB3 : qy (Below W.heap.size W w3):=⟨qx (by repeat (first|exact HB.out|apply qd)) hb⟩;have HS3:=qy.mk (HS.out.to HB3.out);clear hb;have hc3:=HS3.out.cells;obtain ⟨la1,e1_,hla⟩:=Kd.at_int (Kd.R_reads' HS3.out.rl).2.2 (topI s.nd (rd_T51 es i).f0) HTA.out.1 HTA.out.2;obtain rfl:=Option.some.inj e1_;obtain ⟨la2,e2_,hlb⟩:=Kd.at_int (Kd.R_reads' HS3.out.rl).2.2 (topI s.nd (rd_T51 es i).f1) HTB.out.1 HTB.out.2;obtain rfl:=Option.some.inj e2_;have ba0:=eq_true HTA.out.1;have ba1:=eq_true HTA.out.2;have bb0:=eq_true HTB.out.1;have bb1:=eq_true HTB.out.2))
    (go_roundg k1;(case measure=>omega);(case rel=>exact ⟨i + 1,by rw [show wrap64 (i + 1) = i + 1 from by have h1:=HI.out;have h2:=HM.out;have h3:=HIR.out.2;unfold wrap64;omega],⟨by have h1:=HI.out;have h3:=HIR.out.2;omega,by have h1:=HI.out;omega,by have h3:=HIR.out.2;omega⟩,HT,by first|exact HB3|exact HB|exact ⟨qd HB.out _⟩⟩))
   have cb5 : (rd s.lb (topI s.nd (rd_T51 es i).f1) == 1) = false:=by simpa using c5
   rw [if_neg (fun h=>c5 h.1)] at h
   have HT:=qy.mk h
   clear c5 h
   go_wp2_with (first|(go_at_call 60;(with_reducible refine (ends_calls (by first|exact HS1.out|exact HS1.out.to) HW.out HE.out i HIR.out).mono ?_);rintro e w2 ⟨rfl,m,rfl⟩)|(go_at_call 61;(with_reducible refine (slack_calls (by first|exact HS1.out|exact HS1.out.to) HW.out HE.out HY.out i HIR.out).mono ?_);rintro e w3 ⟨rfl,hb⟩;have HB3 : qy (Below W.heap.size W w3):=⟨qx (by repeat (first|exact HB.out|apply qd)) hb⟩;have HS3:=qy.mk (HS.out.to HB3.out);clear hb;have hc3:=HS3.out.cells;obtain ⟨la1,e1_,hla⟩:=Kd.at_int (Kd.R_reads' HS3.out.rl).2.2 (topI s.nd (rd_T51 es i).f0) HTA.out.1 HTA.out.2;obtain rfl:=Option.some.inj e1_;obtain ⟨la2,e2_,hlb⟩:=Kd.at_int (Kd.R_reads' HS3.out.rl).2.2 (topI s.nd (rd_T51 es i).f1) HTB.out.1 HTB.out.2;obtain rfl:=Option.some.inj e2_;have ba0:=eq_true HTA.out.1;have ba1:=eq_true HTA.out.2;have bb0:=eq_true HTB.out.1;have bb1:=eq_true HTB.out.2))
   (go_roundg k1;(case measure=>omega);(case rel=>exact ⟨i + 1,by rw [show wrap64 (i + 1) = i + 1 from by have h1:=HI.out;have h2:=HM.out;have h3:=HIR.out.2;unfold wrap64;omega],⟨by have h1:=HI.out;have h3:=HIR.out.2;omega,by have h1:=HI.out;omega,by have h3:=HIR.out.2;omega⟩,HT,by first|exact HB3|exact HB|exact ⟨qd HB.out _⟩⟩))
  rw [if_neg c] at h
  subst h
  have cl0 : decide (i < (es.length : Int)) = false:=decide_eq_false c
  clear c
  go_wp2_with fail
  go_ret3
  exact ⟨rfl,HB.out⟩
end Go.Proofs.Ytnffimpoekjkpaa.QFnExactRounds
