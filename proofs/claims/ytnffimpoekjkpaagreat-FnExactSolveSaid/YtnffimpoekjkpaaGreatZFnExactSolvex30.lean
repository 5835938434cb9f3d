import Derived.Test.YtnffimpoekjkpaaGreatZFnExactSolvex28g
import Derived.Test.YtnffimpoekjkpaaGreatZFnExactSolvex5g
set_option linter.all false
namespace Go.Proofs.YtnffimpoekjkpaaGreat.QFnExactSolve
open Go.RowKit Go.Proofs.YtnffimpoekjkpaaGreatW.PrintWords Go.Proofs.YtnffimpoekjkpaaGreatW.PrintLast Go.Proofs.YtnffimpoekjkpaaGreatW.PrintMore
set_option maxHeartbeats 8000000
set_option maxRecDepth 100000
attribute [local go_sem] Od' Pd' Xd' Yd' Jd' Kd' Qd' Rd'
def Ne' (d n : Int) : Int:=if d < 0 then n else if n < d then n else d
theorem Ll' (d n : Int) : impl_lesser.f d n = some (Ne' d n):=by
 unfold impl_lesser.f Ne'
 split
 ·rfl
 split <;> rfl
def stY (nd : List (S89)) (y lb : List Int) : Nat → Int → Int → Int
 | 0,_,d=>d
 | k + 1,i,d=>if i < (y.length : Int) then stY nd y lb k (i + 1) (if rd lb (topI nd i) = 1 then Ne' d (rd y i) else d) else d
def edD (y : List Int) (nd : List (S89)) (lb : List Int) (x : S73) (d : Int) : Int :=
 if topI nd x.f0 = topI nd x.f1 then d
 else if rd lb (topI nd x.f0) = 1 ∧ rd lb (topI nd x.f1) = 1 then min d (wrap64 ((slackI y nd x).tdiv 2))
 else if rd lb (topI nd x.f0) = 1 ∧ rd lb (topI nd x.f1) = 0 ∨ rd lb (topI nd x.f0) = 0 ∧ rd lb (topI nd x.f1) = 1 then min d (slackI y nd x)
 else d
def stE (y : List Int) (nd : List (S89)) (lb : List Int) (es : List (S73)) : Nat → Int → Int → Int
 | 0,_,d=>d
 | k + 1,i,d=>if i < (es.length : Int) then stE y nd lb es k (i + 1) (edD y nd lb (ud' es i) d) else d
def stN (nd : List (S89)) (lb : List Int) : Nat → Int → Int → Int
 | 0,_,d=>d
 | k + 1,i,d=>if i < (nd.length : Int) then stN nd lb k (i + 1) (if Dd' (td' nd i) = true ∧ rd lb i = 2 then min d (wrap64 ((td' nd i).f5.tdiv 2)) else d) else d
def Hf' (N : Int) (y : List Int) (nd : List (S89)) (lb : List Int) (es : List (S73)) : Int :=
 if stY nd y lb (y.length + 1) 0 (-1) < 0 then stY nd y lb (y.length + 1) 0 (-1)
 else stN nd lb (nd.length + 1) N (stE y nd lb es (es.length + 1) 0 (stY nd y lb (y.length + 1) 0 (-1)))
theorem Ho' {w0 W : World} {g : Nat} {N : Int} {Ae : Option Addr} {ce : Nat} {es : List (S73)} {col : Nat → Nat} {vy vn vl va vb : Value} {s : SI} (hS : Sol w0 W g N Ae ce es col vy vn vl va vb s) (hw : WFn s.nd) (ho : EOk es s.nd.length) (hoy : EOk es s.y.length) (hN : N = s.y.length) (hNn : N ≤ s.nd.length) (hl : s.lb.length = s.nd.length) (hsz : s.nd.length ≤ 1000000) :
  Calls Tryz.prog 85 #[.pointer (some ⟨g,0,none⟩)] W fun e w'=>e = .returned (.int .i64 (Hf' N s.y s.nd s.lb es)) ∧ Below W.heap.size W w':=by
 have hu87:=Tryz.underlying87
 have hu89:=Tryz.underlying89
 have hu73:=Tryz.underlying73
 have hu35:=Tryz.underlying35
 have HS:=qz.mk hS
 clear hS
 obtain ⟨An,cn,e_⟩:=Kd.R_slice HS.o.rn
 subst e_
 obtain ⟨Al,cl,e_⟩:=Kd.R_slice HS.o.rl
 rw [hl] at e_
 subst e_
 obtain ⟨Ay,cy,e_⟩:=Kd.R_slice HS.o.ry
 subst e_
 have HW:=qz.mk hw
 have HE:=qz.mk ho
 have HY:=qz.mk hoy
 have HL:=qz.mk hl
 have H0:=qz.mk (And.intro hsz (And.intro hN hNn))
 have HM:=qz.mk (Kd.C_max HS.o.he)
 have hc:=HS.o.cells
 obtain ⟨dy,hdy⟩ : ∃ dy,stY s.nd s.y s.lb (s.y.length + 1) 0 (-1) = dy:=⟨_,rfl⟩
 have HT:=qz.mk hdy
 obtain ⟨R,hR⟩ : ∃ R,Hf' N s.y s.nd s.lb es = R:=⟨_,rfl⟩
 rw [hR]
 rw [Hf',hdy] at hR
 have HR:=qz.mk hR
 clear hR
 clear hw ho hoy hl hsz hdy hN hNn
 go_enter Tryz.func85,Tryz.ntmps85
 go_wp2_with fail
 clear hc
 go_loopg [3,17] (s.y.length + 1) (fun kq v3 v17 w'=>∃ d i : Int,v3 = .int .i64 d ∧ v17 = .int .i64 i ∧ qz (0 ≤ i ∧ i + kq = s.y.length + 1 ∧ i ≤ s.y.length) ∧ qz (stY s.nd s.y s.lb kq i d = dy) ∧ qz (Below W.heap.size W w'))
 case atStart=>exact ⟨-1,0,rfl,rfl,⟨aa',aa',aa'⟩,HT,⟨Below.refl _ _⟩⟩
 clear HT
 obtain ⟨d,i,rfl,rfl,HI,HT,HB⟩:=hrel
 have HS1:=qz.mk (HS.o.to HB.o)
 have hc:=HS1.o.cells
 cases gk with
 | zero =>
  exfalso
  have h1:=HI.o
  omega
 | succ k1 =>
  have h:=HT.o
  clear HT
  rw [stY] at h
  by_cases c : i < (s.y.length : Int)
  ·rw [if_pos c] at h
   have hi0:=HI.o.1
   have HIL:=qz.mk c
   have HIN : qz (inR i s.nd.length):=⟨⟨hi0,pa'⟩⟩
   have cl0 : decide (i < (s.y.length : Int)) = true:=decide_eq_true c
   have hp0 : 0 < s.nd.length:=by have:=H0.o;omega
   obtain ⟨bl,_,e_,-⟩:=fe' HS.o.rl db'
   injection e_ with e_ e2_ e3_
   clear e2_ e3_
   subst e_
   clear hp0
   obtain ⟨ady,e_,hy⟩:=Kd.at_int (Kd.R_reads' HS1.o.ry).2.2 i hi0 c
   subst e_
   have pi:=eq_true hi0
   have qi:=eq_true c
   have HTI:=qz.mk (Nd' HW.o HIN.o)
   have HTO:=qz.mk (xh' HW.o HIN.o)
   obtain ⟨xl,fl⟩:=Gd' HS1.o.rl (topI s.nd i) HTI.o.1 (by rw [HL.o];exact HTI.o.2)
   have pt:=eq_true HTI.o.1
   have qt:=eq_true HTI.o.2
   clear c
   by_cases ct : rd s.lb (topI s.nd i) = 1
   ·rw [if_pos ct] at h
    have HT:=qz.mk h
    have cb : (rd s.lb (topI s.nd i) == 1) = true:=by simpa using ct
    clear h ct
    go_wp2_with fail
    go_quiet ((go_at_call 67;exact Calls.quiet_of_same (ng' qa' _ _ _ HTO.o)))
    go_wp2_with (first|(go_at_call 86;(with_reducible refine (impl_lesser.calls d (rd s.y i) _ _ (Ll' _ _)).mono ?_);rintro e w7 ⟨rfl,⟨nd,rfl⟩⟩))
    go_roundg k1
    case measure=>omega
    case rel=>exact ⟨_,i + 1,rfl,Da',⟨aa',fa',ga'⟩,HT,⟨qd HB.o _⟩⟩
   rw [if_neg ct] at h
   have HT:=qz.mk h
   have cb : (rd s.lb (topI s.nd i) == 1) = false:=by simpa using ct
   clear h ct
   go_wp2_with fail
   go_quiet ((go_at_call 67;exact Calls.quiet_of_same (ng' qa' _ _ _ HTO.o)))
   go_wp2_with fail
   go_roundg k1
   case measure=>omega
   case rel=>exact ⟨d,i + 1,rfl,Da',⟨aa',fa',ga'⟩,HT,⟨qd HB.o _⟩⟩
  rw [if_neg c] at h
  have cl0 : decide (i < (s.y.length : Int)) = false:=decide_eq_false c
  subst h
  clear c
  by_cases cd : d < 0
  ·have cd0 : decide (d < 0) = true:=decide_eq_true cd
   have hR:=HR.o
   rw [if_pos cd] at hR
   clear HR
   go_wp2_with fail
   go_ret
   exact ⟨by rw [← hR];rfl,HB.o⟩
  have cd0 : decide (d < 0) = false:=decide_eq_false cd
  have hR:=HR.o
  rw [if_neg cd] at hR
  clear HR
  have HR:=qz.mk hR
  clear hR
  clear HI hc HS1
  obtain ⟨d1,hd1⟩ : ∃ d1,stE s.y s.nd s.lb es (es.length + 1) 0 d = d1:=⟨_,rfl⟩
  have HT:=qz.mk hd1
  have hR:=HR.o
  rw [hd1] at hR
  replace HR:=qz.mk hR
  clear hR hd1
  have HB0:=HB
  have hcw:=(HS.o.to HB.o).cells
  clear HB
  go_wp2_with fail
  clear hcw
  go_loopg [3,45] (es.length + 1) (fun kq v3 v45 w'=>∃ d i : Int,v3 = .int .i64 d ∧ v45 = .int .i64 i ∧ qz (0 ≤ i ∧ i + kq = es.length + 1 ∧ i ≤ es.length) ∧ qz (stE s.y s.nd s.lb es kq i d = d1) ∧ qz (Below W.heap.size W w'))
  case atStart=>exact ⟨d,0,rfl,rfl,⟨aa',aa',aa'⟩,HT,HB0⟩
  clear HT HB0
  obtain ⟨d,i,rfl,rfl,HI,HT,HB⟩:=hrel
  have HS1:=qz.mk (HS.o.to HB.o)
  have hc:=HS1.o.cells
  cases gk with
  | zero =>
   exfalso
   have h1:=HI.o
   omega
  | succ k1 =>
   have h:=HT.o
   clear HT
   rw [stE] at h
   by_cases c : i < (es.length : Int)
   ·rw [if_pos c] at h
    have HIR : qz (inR i es.length):=⟨⟨HI.o.1,c⟩⟩
    have HTA:=qz.mk (Nd' HW.o (HE.o i HIR.o).1)
    have HTB:=qz.mk (Nd' HW.o (HE.o i HIR.o).2)
    have cl0 : decide (i < (es.length : Int)) = true:=decide_eq_true c
    clear c
    rw [edD] at h
    by_cases c1 : topI s.nd (ud' es i).f0 = topI s.nd (ud' es i).f1
    ·rw [if_pos c1] at h
     have cb1 : (topI s.nd (ud' es i).f0 == topI s.nd (ud' es i).f1) = true:=by simpa using c1
     have HT:=qz.mk h
     clear c1 h
     go_wp2_with (first|(go_at_call 101;(with_reducible refine (Ze' qa' HW.o HE.o i HIR.o).mono ?_);rintro e w2 ⟨rfl,m,rfl⟩))
     (all_goals (go_roundg k1;(case measure=>omega);(case rel=>exact ⟨_,i + 1,rfl,Ua',⟨fa',fa',Va'⟩,Wa',Ca'⟩)))
    rw [if_neg c1] at h
    have cb1 : (topI s.nd (ud' es i).f0 == topI s.nd (ud' es i).f1) = false:=by simpa using c1
    clear c1
    have hp0 : 0 < s.nd.length:=by have h1:=HTA.o.1;have h2:=HTA.o.2;omega
    obtain ⟨bl,_,e_,-⟩:=fe' HS.o.rl db'
    injection e_ with e_ e2_ e3_
    clear e2_ e3_
    subst e_
    clear hp0
    obtain ⟨xa,fa⟩:=Gd' HS1.o.rl (topI s.nd (ud' es i).f0) HTA.o.1 (by rw [HL.o];exact HTA.o.2)
    obtain ⟨xb,fb⟩:=Gd' HS1.o.rl (topI s.nd (ud' es i).f1) HTB.o.1 (by rw [HL.o];exact HTB.o.2)
    have pa:=eq_true HTA.o.1
    have qa:=eq_true HTA.o.2
    have pb:=eq_true HTB.o.1
    have qb:=eq_true HTB.o.2
    go_wp2_with (first|(go_at_call 101;(with_reducible refine (Ze' qa' HW.o HE.o i HIR.o).mono ?_);rintro e w2 ⟨rfl,m,rfl⟩))
    go_quiet (fail)
    generalize rd s.lb (topI s.nd (ud' es i).f0) = x at h ⊢
    generalize rd s.lb (topI s.nd (ud' es i).f1) = y at h ⊢
    by_cases x1 : x = 1
    ·have xb1 : (x == 1) = true:=by simpa using x1
     by_cases y1 : y = 1
     ·have yb1 : (y == 1) = true:=by simpa using y1
      rw [if_pos ⟨x1,y1⟩] at h
      have HT:=qz.mk h
      clear h x1 y1
      go_wp2_with (first|(go_at_call 102;(with_reducible refine (Je' qa' HW.o HE.o HY.o i HIR.o).mono ?_);rintro e w3 ⟨rfl,hb⟩;have HB3 : qz (Below W.heap.size W w3):=⟨qy Aa' hb⟩;clear hb))
      (all_goals (go_roundg k1;(case measure=>omega);(case rel=>exact ⟨_,i + 1,rfl,Ua',⟨fa',fa',Va'⟩,Wa',Ca'⟩)))
     have yb1 : (y == 1) = false:=by simpa using y1
     rw [if_neg (fun h=>y1 h.2)] at h
     by_cases y0 : y = 0
     ·have yb0 : (y == 0) = true:=by simpa using y0
      rw [if_pos (.inl ⟨x1,y0⟩)] at h
      have HT:=qz.mk h
      clear h x1 y1 y0
      go_wp2_with (first|(go_at_call 102;(with_reducible refine (Je' qa' HW.o HE.o HY.o i HIR.o).mono ?_);rintro e w3 ⟨rfl,hb⟩;have HB3 : qz (Below W.heap.size W w3):=⟨qy Aa' hb⟩;clear hb))
      (all_goals (go_roundg k1;(case measure=>omega);(case rel=>exact ⟨_,i + 1,rfl,Ua',⟨fa',fa',Va'⟩,Wa',Ca'⟩)))
     have yb0 : (y == 0) = false:=by simpa using y0
     have xb0 : (x == 0) = false:=by rw [x1];rfl
     rw [if_neg (fun h=>h.elim (fun h=>y0 h.2) (fun h=>y1 h.2))] at h
     have HT:=qz.mk h
     clear h x1 y1 y0
     go_wp2_with (first|(go_at_call 102;(with_reducible refine (Je' qa' HW.o HE.o HY.o i HIR.o).mono ?_);rintro e w3 ⟨rfl,hb⟩;have HB3 : qz (Below W.heap.size W w3):=⟨qy Aa' hb⟩;clear hb))
     (all_goals (go_roundg k1;(case measure=>omega);(case rel=>exact ⟨_,i + 1,rfl,Ua',⟨fa',fa',Va'⟩,Wa',Ca'⟩)))
    have xb1 : (x == 1) = false:=by simpa using x1
    rw [if_neg (fun h=>x1 h.1)] at h
    by_cases x0 : x = 0
    ·have xb0 : (x == 0) = true:=by simpa using x0
     by_cases y1 : y = 1
     ·have yb1 : (y == 1) = true:=by simpa using y1
      rw [if_pos (.inr ⟨x0,y1⟩)] at h
      have HT:=qz.mk h
      clear h x1 x0 y1
      go_wp2_with (first|(go_at_call 102;(with_reducible refine (Je' qa' HW.o HE.o HY.o i HIR.o).mono ?_);rintro e w3 ⟨rfl,hb⟩;have HB3 : qz (Below W.heap.size W w3):=⟨qy Aa' hb⟩;clear hb))
      (all_goals (go_roundg k1;(case measure=>omega);(case rel=>exact ⟨_,i + 1,rfl,Ua',⟨fa',fa',Va'⟩,Wa',Ca'⟩)))
     have yb1 : (y == 1) = false:=by simpa using y1
     rw [if_neg (fun h=>h.elim (fun h=>x1 h.1) (fun h=>y1 h.2))] at h
     have HT:=qz.mk h
     clear h x1 x0 y1
     go_wp2_with (first|(go_at_call 102;(with_reducible refine (Je' qa' HW.o HE.o HY.o i HIR.o).mono ?_);rintro e w3 ⟨rfl,hb⟩;have HB3 : qz (Below W.heap.size W w3):=⟨qy Aa' hb⟩;clear hb))
     (all_goals (go_roundg k1;(case measure=>omega);(case rel=>exact ⟨_,i + 1,rfl,Ua',⟨fa',fa',Va'⟩,Wa',Ca'⟩)))
    have xb0 : (x == 0) = false:=by simpa using x0
    rw [if_neg (fun h=>h.elim (fun h=>x1 h.1) (fun h=>x0 h.1))] at h
    have HT:=qz.mk h
    clear h x1 x0
    go_wp2_with (first|(go_at_call 102;(with_reducible refine (Je' qa' HW.o HE.o HY.o i HIR.o).mono ?_);rintro e w3 ⟨rfl,hb⟩;have HB3 : qz (Below W.heap.size W w3):=⟨qy Aa' hb⟩;clear hb))
    (all_goals (go_roundg k1;(case measure=>omega);(case rel=>exact ⟨_,i + 1,rfl,Ua',⟨fa',fa',Va'⟩,Wa',Ca'⟩)))
   rw [if_neg c] at h
   have cl0 : decide (i < (es.length : Int)) = false:=decide_eq_false c
   subst h
   clear c
   clear HI hc HS1
   have HB0:=HB
   have hcw:=(HS.o.to HB.o).cells
   have HT:=HR
   clear HB
   go_wp2_with fail
   clear hcw
   go_loopg [3,11] (s.nd.length + 1) (fun kq v3 v11 w'=>∃ d i : Int,v3 = .int .i64 d ∧ v11 = .int .i64 i ∧ qz (0 ≤ i ∧ s.nd.length + 1 ≤ i + kq ∧ i ≤ s.nd.length) ∧ qz (stN s.nd s.lb kq i d = R) ∧ qz (Below W.heap.size W w'))
   case atStart=>exact ⟨d,N,rfl,rfl,⟨pa',pa',pa'⟩,HT,HB0⟩
   clear HT HB0 HR
   obtain ⟨d,i,rfl,rfl,HI,HT,HB⟩:=hrel
   have HS1:=qz.mk (HS.o.to HB.o)
   have hc:=HS1.o.cells
   cases gk with
   | zero =>
    exfalso
    have h1:=HI.o
    omega
   | succ k1 =>
    have h:=HT.o
    clear HT
    rw [stN] at h
    by_cases c : i < (s.nd.length : Int)
    ·rw [if_pos c] at h
     have hi0:=HI.o.1
     have HIN : qz (inR i s.nd.length):=⟨hi0,c⟩
     have cl0 : decide (i < (s.nd.length : Int)) = true:=decide_eq_true c
     have pi:=eq_true hi0
     have qi:=eq_true c
     have hp0 : 0 < s.nd.length:=by omega
     obtain ⟨bn,_,e_,-⟩:=fe' HS.o.rn hp0
     injection e_ with e_ e2_ e3_
     clear e2_ e3_
     subst e_
     obtain ⟨bl,_,e_,-⟩:=fe' HS.o.rl db'
     injection e_ with e_ e2_ e3_
     clear e2_ e3_
     subst e_
     clear hp0
     obtain ⟨A0n,c0n,A1n,c1n,nx0,nx1,nx2,nx3,nx4,nx5,nx6,nf2,nf3,nf5,nf6,-⟩:=HS1.o.node_at i hi0 c
     obtain ⟨xl,fl⟩:=Gd' HS1.o.rl i hi0 Sb'
     clear c
     cases ct1 : Dd' (td' s.nd i) with
     | false =>
      rw [if_neg (fun h=>by rw [ct1] at h;exact absurd h.1 ba')] at h
      have HT:=qz.mk h
      clear h
      go_wp2_with (first|(go_at_call 53;(with_reducible refine (me' HS1.o i false HIN.o ct1).mono ?_);rintro e w7 ⟨rfl,h2⟩;replace h2:=h2.symm;subst h2))
      (all_goals (go_roundg k1;(case measure=>omega);(case rel=>exact ⟨_,i + 1,rfl,gb',⟨fa',fa',ib'⟩,pc',HB⟩)))
     | true =>
      by_cases cz : rd s.lb i = 2
      ·have cz1 : (rd s.lb i == 2) = true:=by simpa using cz
       rw [if_pos ⟨ct1,cz⟩] at h
       have HT:=qz.mk h
       clear h cz
       go_wp2_with (first|(go_at_call 53;(with_reducible refine (me' HS1.o i true HIN.o ct1).mono ?_);rintro e w7 ⟨rfl,h2⟩;replace h2:=h2.symm;subst h2))
       (all_goals (go_roundg k1;(case measure=>omega);(case rel=>exact ⟨_,i + 1,rfl,gb',⟨fa',fa',ib'⟩,pc',HB⟩)))
      have cz1 : (rd s.lb i == 2) = false:=by simpa using cz
      rw [if_neg (fun h=>cz h.2)] at h
      have HT:=qz.mk h
      clear h cz
      go_wp2_with (first|(go_at_call 53;(with_reducible refine (me' HS1.o i true HIN.o ct1).mono ?_);rintro e w7 ⟨rfl,h2⟩;replace h2:=h2.symm;subst h2))
      (all_goals (go_roundg k1;(case measure=>omega);(case rel=>exact ⟨_,i + 1,rfl,gb',⟨fa',fa',ib'⟩,pc',HB⟩)))
    rw [if_neg c] at h
    have cl0 : decide (i < (s.nd.length : Int)) = false:=decide_eq_false c
    subst h
    clear c
    go_wp2_with fail
    go_ret
    exact ⟨rfl,HB.o⟩
end Go.Proofs.YtnffimpoekjkpaaGreat.QFnExactSolve
