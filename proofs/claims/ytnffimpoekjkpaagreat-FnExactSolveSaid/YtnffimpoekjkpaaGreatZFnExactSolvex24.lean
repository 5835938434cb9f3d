import Derived.Test.YtnffimpoekjkpaaGreatZFnExactSolvex21g
set_option linter.all false
namespace Go.Proofs.YtnffimpoekjkpaaGreat.QFnExactSolve
open Go.RowKit Go.Proofs.YtnffimpoekjkpaaGreatW.PrintWords Go.Proofs.YtnffimpoekjkpaaGreatW.PrintLast Go.Proofs.YtnffimpoekjkpaaGreatW.PrintMore
set_option maxHeartbeats 8000000
set_option maxRecDepth 100000
attribute [local go_sem] Od' Pd' Xd' Yd' Jd' Kd' Qd' Rd'
def Mf' (y : List Int) (nd : List (S89)) (lb : List Int) (es : List (S73)) : Nat → Int → Int × Int × Int
 | 0,_=>(-1,-1,-1)
 | k + 1,i =>
  if i < (es.length : Int) then
   if topI nd (ud' es i).f0 = topI nd (ud' es i).f1 then Mf' y nd lb es k (i + 1)
   else if slackI y nd (ud' es i) ≠ 0 then Mf' y nd lb es k (i + 1)
   else if rd lb (topI nd (ud' es i).f0) = 1 ∧ rd lb (topI nd (ud' es i).f1) ≠ 2 then (i,topI nd (ud' es i).f0,topI nd (ud' es i).f1)
   else if rd lb (topI nd (ud' es i).f1) = 1 ∧ rd lb (topI nd (ud' es i).f0) = 0 then (i,topI nd (ud' es i).f1,topI nd (ud' es i).f0)
   else Mf' y nd lb es k (i + 1)
  else (-1,-1,-1)
def Df' (y : List Int) (nd : List (S89)) (lb : List Int) (es : List (S73)) : Int × Int × Int:=Mf' y nd lb es (es.length + 1) 0
theorem Kn' {w0 W : World} {g : Nat} {N : Int} {Ae : Option Addr} {ce : Nat} {es : List (S73)} {col : Nat → Nat} {vy vn vl va vb : Value} {s : SI} (hS : Sol w0 W g N Ae ce es col vy vn vl va vb s) (hw : WFn s.nd) (ho : EOk es s.nd.length) (hoy : EOk es s.y.length) (hl : s.lb.length = s.nd.length) :
  Calls Tryz.prog 83 #[.pointer (some ⟨g,0,none⟩)] W fun e w'=>e = .returned (.tuple #[.int .i64 (Df' s.y s.nd s.lb es).1,.int .i64 (Df' s.y s.nd s.lb es).2.1,.int .i64 (Df' s.y s.nd s.lb es).2.2]) ∧ Below W.heap.size W w':=by
 have hu87:=Tryz.underlying87
 have hu89:=Tryz.underlying89
 have hu73:=Tryz.underlying73
 have hu35:=Tryz.underlying35
 have HS:=qz.mk hS
 clear hS
 obtain ⟨r,hr⟩ : ∃ r,Df' s.y s.nd s.lb es = r:=⟨_,rfl⟩
 rw [hr]
 rw [Df'] at hr
 have HT:=qz.mk hr
 have HW:=qz.mk hw
 have HE:=qz.mk ho
 have HY:=qz.mk hoy
 have HL:=qz.mk hl
 have HEC:=qz.mk HS.o.hec
 have HM:=qz.mk (Kd.C_max HS.o.he)
 clear hw ho hoy hl hr
 obtain ⟨Al,cl,e_⟩:=Kd.R_slice HS.o.rl
 subst e_
 have hc:=HS.o.cells
 go_enter Tryz.func83,Tryz.ntmps83
 go_wp2_with fail
 clear hc
 go_loopg [14] (es.length + 1) (fun kq v14 w'=>∃ i : Int,v14 = .int .i64 i ∧ qz (0 ≤ i ∧ i + kq = es.length + 1 ∧ i ≤ es.length) ∧ qz (Mf' s.y s.nd s.lb es kq i = r) ∧ qz (Below W.heap.size W w'))
 case atStart=>exact ⟨0,rfl,⟨aa',aa',aa'⟩,HT,⟨Below.refl _ _⟩⟩
 clear HT
 obtain ⟨i,rfl,HI,HT,HB⟩:=hrel
 cases gk with
 | zero =>
  exfalso
  have h1:=HI.o
  omega
 | succ k1 =>
  have h:=HT.o
  clear HT
  rw [Mf'] at h
  have HS1:=qz.mk (HS.o.to HB.o)
  by_cases c : i < (es.length : Int)
  ·rw [if_pos c] at h
   have HIR : qz (inR i es.length):=⟨HI.o.1,c⟩
   have HTA:=qz.mk (Nd' HW.o (HE.o i HIR.o).1)
   have HTB:=qz.mk (Nd' HW.o (HE.o i HIR.o).2)
   rw [← HL.o] at HTA HTB
   have cl0 : decide (i < (es.length : Int)) = true:=decide_eq_true c
   obtain ⟨la,e_,-⟩:=Kd.at_int (Kd.R_reads' HS1.o.rl).2.2 (topI s.nd (ud' es i).f0) HTA.o.1 HTA.o.2
   subst e_
   clear c
   by_cases c1 : topI s.nd (ud' es i).f0 = topI s.nd (ud' es i).f1
   ·rw [if_pos c1] at h
    have cb1 : (topI s.nd (ud' es i).f0 == topI s.nd (ud' es i).f1) = true:=by simpa using c1
    have HT:=qz.mk h
    clear c1 h
    go_wp2_with (first|(go_at_call 101;(with_reducible refine (Ze' qa' HW.o HE.o i HIR.o).mono ?_);rintro e w2 ⟨rfl,m,rfl⟩)|(go_at_call 102;(with_reducible refine (Je' qa' HW.o HE.o HY.o i HIR.o).mono ?_);rintro e w3 ⟨rfl,hb⟩;have HB3 : qz (Below W.heap.size W w3):=⟨qy Aa' hb⟩;have HS3:=qz.mk (HS.o.to HB3.o);clear hb;have hc3:=HS3.o.cells;obtain ⟨la1,e1_,hla⟩:=Kd.at_int (Kd.R_reads' HS3.o.rl).2.2 (topI s.nd (ud' es i).f0) HTA.o.1 HTA.o.2;obtain rfl:=Option.some.inj e1_;obtain ⟨la2,e2_,hlb⟩:=Kd.at_int (Kd.R_reads' HS3.o.rl).2.2 (topI s.nd (ud' es i).f1) HTB.o.1 HTB.o.2;obtain rfl:=Option.some.inj e2_;have ba0:=eq_true HTA.o.1;have ba1:=eq_true HTA.o.2;have bb0:=eq_true HTB.o.1;have bb1:=eq_true HTB.o.2))
    (go_roundg k1;(case measure=>omega);(case rel=>exact ⟨i + 1,rb',⟨sb',tb',ub'⟩,HT,Ca'⟩))
   rw [if_neg c1] at h
   have cb1 : (topI s.nd (ud' es i).f0 == topI s.nd (ud' es i).f1) = false:=by simpa using c1
   clear c1
   by_cases c2 : slackI s.y s.nd (ud' es i) ≠ 0
   ·rw [if_pos c2] at h
    have cb2 : (slackI s.y s.nd (ud' es i) != 0) = true:=by simpa using c2
    have HT:=qz.mk h
    clear c2 h
    go_wp2_with (first|(go_at_call 101;(with_reducible refine (Ze' qa' HW.o HE.o i HIR.o).mono ?_);rintro e w2 ⟨rfl,m,rfl⟩)|(go_at_call 102;(with_reducible refine (Je' qa' HW.o HE.o HY.o i HIR.o).mono ?_);rintro e w3 ⟨rfl,hb⟩;have HB3 : qz (Below W.heap.size W w3):=⟨qy Aa' hb⟩;have HS3:=qz.mk (HS.o.to HB3.o);clear hb;have hc3:=HS3.o.cells;obtain ⟨la1,e1_,hla⟩:=Kd.at_int (Kd.R_reads' HS3.o.rl).2.2 (topI s.nd (ud' es i).f0) HTA.o.1 HTA.o.2;obtain rfl:=Option.some.inj e1_;obtain ⟨la2,e2_,hlb⟩:=Kd.at_int (Kd.R_reads' HS3.o.rl).2.2 (topI s.nd (ud' es i).f1) HTB.o.1 HTB.o.2;obtain rfl:=Option.some.inj e2_;have ba0:=eq_true HTA.o.1;have ba1:=eq_true HTA.o.2;have bb0:=eq_true HTB.o.1;have bb1:=eq_true HTB.o.2))
    (go_roundg k1;(case measure=>omega);(case rel=>exact ⟨i + 1,rb',⟨sb',tb',ub'⟩,HT,Ca'⟩))
   rw [if_neg c2] at h
   have cb2 : (slackI s.y s.nd (ud' es i) != 0) = false:=by simpa using c2
   clear c2
   by_cases c3 : rd s.lb (topI s.nd (ud' es i).f0) = 1
   ·have cb3 : (rd s.lb (topI s.nd (ud' es i).f0) == 1) = true:=by simpa using c3
    by_cases c4 : rd s.lb (topI s.nd (ud' es i).f1) = 2
    ·have cb4 : (rd s.lb (topI s.nd (ud' es i).f1) != 2) = false:=by simpa using c4
     have cb5 : (rd s.lb (topI s.nd (ud' es i).f1) == 1) = false:=by rw [c4];rfl
     rw [if_neg (fun h=>h.2 c4),if_neg (fun h=>by have:=h.1;omega)] at h
     have HT:=qz.mk h
     clear c3 c4 h
     go_wp2_with (first|(go_at_call 101;(with_reducible refine (Ze' qa' HW.o HE.o i HIR.o).mono ?_);rintro e w2 ⟨rfl,m,rfl⟩)|(go_at_call 102;(with_reducible refine (Je' qa' HW.o HE.o HY.o i HIR.o).mono ?_);rintro e w3 ⟨rfl,hb⟩;have HB3 : qz (Below W.heap.size W w3):=⟨qy Aa' hb⟩;have HS3:=qz.mk (HS.o.to HB3.o);clear hb;have hc3:=HS3.o.cells;obtain ⟨la1,e1_,hla⟩:=Kd.at_int (Kd.R_reads' HS3.o.rl).2.2 (topI s.nd (ud' es i).f0) HTA.o.1 HTA.o.2;obtain rfl:=Option.some.inj e1_;obtain ⟨la2,e2_,hlb⟩:=Kd.at_int (Kd.R_reads' HS3.o.rl).2.2 (topI s.nd (ud' es i).f1) HTB.o.1 HTB.o.2;obtain rfl:=Option.some.inj e2_;have ba0:=eq_true HTA.o.1;have ba1:=eq_true HTA.o.2;have bb0:=eq_true HTB.o.1;have bb1:=eq_true HTB.o.2))
     (go_roundg k1;(case measure=>omega);(case rel=>exact ⟨i + 1,rb',⟨sb',tb',ub'⟩,HT,Ca'⟩))
    have cb4 : (rd s.lb (topI s.nd (ud' es i).f1) != 2) = true:=by simpa using c4
    rw [if_pos ⟨c3,c4⟩] at h
    subst h
    clear c3 c4
    go_wp2_with (first|(go_at_call 101;(with_reducible refine (Ze' qa' HW.o HE.o i HIR.o).mono ?_);rintro e w2 ⟨rfl,m,rfl⟩)|(go_at_call 102;(with_reducible refine (Je' qa' HW.o HE.o HY.o i HIR.o).mono ?_);rintro e w3 ⟨rfl,hb⟩;have HB3 : qz (Below W.heap.size W w3):=⟨qy Aa' hb⟩;have HS3:=qz.mk (HS.o.to HB3.o);clear hb;have hc3:=HS3.o.cells;obtain ⟨la1,e1_,hla⟩:=Kd.at_int (Kd.R_reads' HS3.o.rl).2.2 (topI s.nd (ud' es i).f0) HTA.o.1 HTA.o.2;obtain rfl:=Option.some.inj e1_;obtain ⟨la2,e2_,hlb⟩:=Kd.at_int (Kd.R_reads' HS3.o.rl).2.2 (topI s.nd (ud' es i).f1) HTB.o.1 HTB.o.2;obtain rfl:=Option.some.inj e2_;have ba0:=eq_true HTA.o.1;have ba1:=eq_true HTA.o.2;have bb0:=eq_true HTB.o.1;have bb1:=eq_true HTB.o.2))
    go_ret3
    exact ⟨rfl,HB3.o⟩
   have cb3 : (rd s.lb (topI s.nd (ud' es i).f0) == 1) = false:=by simpa using c3
   rw [if_neg (fun h=>c3 h.1)] at h
   clear c3
   by_cases c5 : rd s.lb (topI s.nd (ud' es i).f1) = 1
   ·have cb5 : (rd s.lb (topI s.nd (ud' es i).f1) == 1) = true:=by simpa using c5
    by_cases c6 : rd s.lb (topI s.nd (ud' es i).f0) = 0
    ·have cb6 : (rd s.lb (topI s.nd (ud' es i).f0) == 0) = true:=by simpa using c6
     rw [if_pos ⟨c5,c6⟩] at h
     subst h
     clear c5 c6
     go_wp2_with (first|(go_at_call 101;(with_reducible refine (Ze' qa' HW.o HE.o i HIR.o).mono ?_);rintro e w2 ⟨rfl,m,rfl⟩)|(go_at_call 102;(with_reducible refine (Je' qa' HW.o HE.o HY.o i HIR.o).mono ?_);rintro e w3 ⟨rfl,hb⟩;have HB3 : qz (Below W.heap.size W w3):=⟨qy Aa' hb⟩;have HS3:=qz.mk (HS.o.to HB3.o);clear hb;have hc3:=HS3.o.cells;obtain ⟨la1,e1_,hla⟩:=Kd.at_int (Kd.R_reads' HS3.o.rl).2.2 (topI s.nd (ud' es i).f0) HTA.o.1 HTA.o.2;obtain rfl:=Option.some.inj e1_;obtain ⟨la2,e2_,hlb⟩:=Kd.at_int (Kd.R_reads' HS3.o.rl).2.2 (topI s.nd (ud' es i).f1) HTB.o.1 HTB.o.2;obtain rfl:=Option.some.inj e2_;have ba0:=eq_true HTA.o.1;have ba1:=eq_true HTA.o.2;have bb0:=eq_true HTB.o.1;have bb1:=eq_true HTB.o.2))
     go_ret3
     exact ⟨rfl,HB3.o⟩
    have cb6 : (rd s.lb (topI s.nd (ud' es i).f0) == 0) = false:=by simpa using c6
    rw [if_neg (fun h=>c6 h.2)] at h
    have HT:=qz.mk h
    clear c5 c6 h
    go_wp2_with (first|(go_at_call 101;(with_reducible refine (Ze' qa' HW.o HE.o i HIR.o).mono ?_);rintro e w2 ⟨rfl,m,rfl⟩)|(go_at_call 102;(with_reducible refine (Je' qa' HW.o HE.o HY.o i HIR.o).mono ?_);rintro e w3 ⟨rfl,hb⟩;have HB3 : qz (Below W.heap.size W w3):=⟨qy Aa' hb⟩;have HS3:=qz.mk (HS.o.to HB3.o);clear hb;have hc3:=HS3.o.cells;obtain ⟨la1,e1_,hla⟩:=Kd.at_int (Kd.R_reads' HS3.o.rl).2.2 (topI s.nd (ud' es i).f0) HTA.o.1 HTA.o.2;obtain rfl:=Option.some.inj e1_;obtain ⟨la2,e2_,hlb⟩:=Kd.at_int (Kd.R_reads' HS3.o.rl).2.2 (topI s.nd (ud' es i).f1) HTB.o.1 HTB.o.2;obtain rfl:=Option.some.inj e2_;have ba0:=eq_true HTA.o.1;have ba1:=eq_true HTA.o.2;have bb0:=eq_true HTB.o.1;have bb1:=eq_true HTB.o.2))
    (go_roundg k1;(case measure=>omega);(case rel=>exact ⟨i + 1,rb',⟨sb',tb',ub'⟩,HT,Ca'⟩))
   have cb5 : (rd s.lb (topI s.nd (ud' es i).f1) == 1) = false:=by simpa using c5
   rw [if_neg (fun h=>c5 h.1)] at h
   have HT:=qz.mk h
   clear c5 h
   go_wp2_with (first|(go_at_call 101;(with_reducible refine (Ze' qa' HW.o HE.o i HIR.o).mono ?_);rintro e w2 ⟨rfl,m,rfl⟩)|(go_at_call 102;(with_reducible refine (Je' qa' HW.o HE.o HY.o i HIR.o).mono ?_);rintro e w3 ⟨rfl,hb⟩;have HB3 : qz (Below W.heap.size W w3):=⟨qy Aa' hb⟩;have HS3:=qz.mk (HS.o.to HB3.o);clear hb;have hc3:=HS3.o.cells;obtain ⟨la1,e1_,hla⟩:=Kd.at_int (Kd.R_reads' HS3.o.rl).2.2 (topI s.nd (ud' es i).f0) HTA.o.1 HTA.o.2;obtain rfl:=Option.some.inj e1_;obtain ⟨la2,e2_,hlb⟩:=Kd.at_int (Kd.R_reads' HS3.o.rl).2.2 (topI s.nd (ud' es i).f1) HTB.o.1 HTB.o.2;obtain rfl:=Option.some.inj e2_;have ba0:=eq_true HTA.o.1;have ba1:=eq_true HTA.o.2;have bb0:=eq_true HTB.o.1;have bb1:=eq_true HTB.o.2))
   (go_roundg k1;(case measure=>omega);(case rel=>exact ⟨i + 1,rb',⟨sb',tb',ub'⟩,HT,Ca'⟩))
  rw [if_neg c] at h
  subst h
  have cl0 : decide (i < (es.length : Int)) = false:=decide_eq_false c
  clear c
  go_wp2_with fail
  go_ret3
  exact ⟨rfl,HB.o⟩
end Go.Proofs.YtnffimpoekjkpaaGreat.QFnExactSolve
