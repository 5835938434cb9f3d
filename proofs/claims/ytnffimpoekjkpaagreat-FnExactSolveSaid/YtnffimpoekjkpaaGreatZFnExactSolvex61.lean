import Derived.Test.YtnffimpoekjkpaaGreatZFnExactSolvex58
import Derived.Test.YtnffimpoekjkpaaGreatZFnExactSolvex30
import Derived.Test.YtnffimpoekjkpaaGreatZFnExactSolvex2g
set_option linter.all false
namespace Go.Proofs.YtnffimpoekjkpaaGreat.QFnExactSolve
open Go.RowKit Go.Proofs.YtnffimpoekjkpaaGreatW.PrintWords Go.Proofs.YtnffimpoekjkpaaGreatW.PrintLast Go.Proofs.YtnffimpoekjkpaaGreatW.PrintMore
set_option maxHeartbeats 8000000
set_option maxRecDepth 100000
attribute [local go_sem] Od' Pd' Xd' Yd' Jd' Kd' Qd' Rd'
def edS (N : Int) (y : List Int) (nd : List S89) (lb : List Int) (x : S73) (d : Int) : Int :=
 if topI nd x.f0 = topI nd x.f1 then d
 else if rd lb (topI nd x.f0) = 2 then d
 else if rd lb (topI nd x.f1) = 2 then d
 else if rd lb (topI nd x.f0) = 1 then (if rd lb (topI nd x.f1) = 1 then Ne' d (wrap64 ((slackS N y nd x).tdiv 2)) else Ne' d (slackS N y nd x))
 else if rd lb (topI nd x.f1) = 1 then Ne' d (slackS N y nd x) else d
def vj' (N : Int) (y : List Int) (nd : List S89) (lb : List Int) (es : List S73) : Nat → Int → Int → Int
 | 0,_,d=>d
 | k + 1,i,d=>if i < (es.length : Int) then vj' N y nd lb es k (i + 1) (edS N y nd lb (ud' es i) d) else d
def Pi' (nd : List S77) (lb : List Int) : Nat → Int → Int → Int
 | 0,_,d=>d
 | k + 1,i,d=>if i < (nd.length : Int) then Pi' nd lb k (i + 1) (if Ce' (wd' nd i) = true ∧ rd lb i = 2 then Ne' d (wrap64 ((wd' nd i).f3.tdiv 2)) else d) else d
def stYI (s : RI) (lb : List Int) : Int:=stY (cvs s.nd) s.y lb (s.y.length + 1) 0 (-1)
def hf' (N : Int) (es : List S73) (s : RI) (lb : List Int) : Int × Int :=
 if stYI s lb < 0 then (-1,-1)
 else (Pi' s.nd lb (s.nd.length + 1) N (vj' N s.y (cvs s.nd) lb es (es.length + 1) 0 (stYI s lb)),stYI s lb)
theorem sg' (a b : Int) : spec_l10Least.f a b = some (Ne' a b):=by
 rw [spec_l10Least.f,Ne']
 split
 ·rfl
 split <;> rfl
theorem im' {w0 W : World} {Z : Nat → Prop} {wz : World} {g : Nat} {N : Int} {Ae : Option Addr} {ce : Nat} {es : List (S73)} {col : Nat → Nat} {vy vn vm : Value} {s : RI} (hS : Rn w0 W Z wz g N Ae ce es col vy vn vm s) {gt : Nat} {vl va vr : Value} {t : TI} (hT : Tp W w0.heap.size gt col vl va vr t) (hw : WFn (cvs s.nd)) (hsz : s.nd.length ≤ 1000000) (ho : EOk es s.nd.length) (hoy : EOk es s.y.length) (hN : N = s.y.length) (hNn : N ≤ s.nd.length) (hl : t.lb.length = s.nd.length) :
  Calls Tryz.prog 77 #[.pointer (some ⟨g,0,none⟩),.pointer (some ⟨gt,0,none⟩)] W fun e w'=>e = .returned (.tuple #[.int .i64 (hf' N es s t.lb).1,.int .i64 (hf' N es s t.lb).2]) ∧ Below W.heap.size W w':=by
 have hu51:=Tryz.underlying51
 have hu77:=Tryz.underlying77
 have hu56:=Tryz.underlying56
 have hu73:=Tryz.underlying73
 have hu35:=Tryz.underlying35
 have HS:=qz.mk hS
 clear hS
 have hu27:=Tryz.underlying27
 have hu102:=Tryz.underlying102
 have HTP:=qz.mk hT
 have HW:=qz.mk hw
 have HSZ:=qz.mk hsz
 have HE:=qz.mk (And.intro ho hoy)
 have HN:=qz.mk (And.intro hN hNn)
 have HL:=qz.mk hl
 obtain ⟨An,cn,e_⟩:=Kd.R_slice HS.o.rn
 subst e_
 obtain ⟨Ay,cy,e_⟩:=Kd.R_slice HS.o.ry
 subst e_
 obtain ⟨Al,cl,e_⟩:=Kd.R_slice HTP.o.rl
 subst e_
 obtain ⟨R,hR⟩ : ∃ R,hf' N es s t.lb = R:=⟨_,rfl⟩
 rw [hR]
 obtain ⟨Y,hY⟩ : ∃ Y,stYI s t.lb = Y:=⟨_,rfl⟩
 rw [hf',hY] at hR
 rw [stYI] at hY
 have HR:=qz.mk hR
 have HY:=qz.mk hY
 clear hT hw hsz ho hoy hN hNn hl hR hY
 go_enter Tryz.func77,Tryz.ntmps77
 have hc:=HS.o.cells
 go_wp2_with fail
 go_loopg [7,8] (s.y.length + 1) (fun kq v7 v8 w'=>∃ (i d : Int),v7 = .int .i64 d ∧ v8 = .int .i64 i ∧ qz (0 ≤ i ∧ i + kq = s.y.length + 1 ∧ i ≤ s.y.length) ∧ qz (stY (cvs s.nd) s.y t.lb kq i d = Y) ∧ qz (Below W.heap.size W w'))
 case atStart=>exact ⟨0,-1,rfl,rfl,⟨aa',aa',aa'⟩,HY,⟨Below.refl _ _⟩⟩
 clear HY hc
 obtain ⟨i,d,rfl,rfl,HI,HY,HB⟩:=hrel
 have h:=HY.o
 clear HY
 have HS1:=qz.mk (HS.o.to HB.o)
 have HT1:=qz.mk (HTP.o.to HB.o)
 have hc:=HS1.o.cells
 cases gk with
 | zero =>
  exfalso
  have h1:=HI.o
  omega
 | succ k1 =>
  rw [stY] at h
  by_cases c : i < (s.y.length : Int)
  ·rw [if_pos c] at h
   have hi:=HI.o
   have HIL:=qz.mk (And.intro hi.1 c)
   have cl0 : decide (i < N) = true:=decide_eq_true sa'
   have hi1 : wrap64 (i + 1) = i + 1:=w64 aa' (by have:=HN.o;have:=HSZ.o;omega)
   have HIN : qz (inR i s.nd.length):=⟨⟨hi.1,sa'⟩⟩
   obtain ⟨A,hA⟩ : ∃ A,topI (cvs s.nd) i = A:=⟨_,rfl⟩
   have HAI:=qz.mk (Nd' HW.o (by rw [Hd'];exact HIN.o))
   rw [hA,Hd'] at HAI
   rw [hA] at h
   have HTOP:=qz.mk (fun (W' : World) (hh : Rn w0 W' Z wz g N Ae ce es col (.slice Ay s.y.length cy) (.slice An s.nd.length cn) vm s)=>Sg' hh i HW.o HIN.o)
   simp only [hA] at HTOP
   obtain ⟨al,e_,hlA⟩:=Kd.at_int (Kd.R_reads' HT1.o.rl).2.2 A HAI.o.1 Yb'
   subst e_
   obtain ⟨ay,e_,-⟩:=Kd.at_int (Kd.R_reads' HS1.o.ry).2.2 i hi.1 c
   subst e_
   have pA:=eq_true HAI.o.1
   have qA : (A < (t.lb.length : Int)) = True:=eq_true Yb'
   have pi:=eq_true hi.1
   have qi:=eq_true c
   clear hA c hi
   go_wp2_with fail
   refine Md' (n:=10) (S:=fun w'=>w'.cell? ⟨gt,0,none⟩ = some (.slice (some al) t.lb.length cl) ∧ w'.cell? (al.add A.toNat) = some (.int .i64 (rd t.lb A))) (ds:=[]) (Array.replicate 10 false) da' rfl rfl ⟨HT1.o.cells.1,hlA⟩ (fun hHeld=>?_)
   refine pa_ 0 23 (bz_ 10 1) ?_
   refine pa_ 1 24 (bz_ 10 3) ?_
   refine pa_ 2 25 (bz_ 10 7) ?_
   refine pa_ 4 27 (bz_ 10 23) ?_
   refine pa_ 5 28 (bz_ 10 55) ?_
   refine ta_ 3 26 (bz_ 10 63) hHeld (hy:=Or.inl ⟨ca',ja'⟩) (h:=?_)
   refine Td' (i:=6) (N:=some 29) (bz_ 10 127) rfl rfl da' ba' (fun K hK=>?_)
   refine goes_ Tryz.func59 da' rfl #[.pointer (some ⟨g,0,none⟩),.int .i64 i] ca' rfl rfl xa' ?_
   refine (HTOP.o _ (HS1.o.to (qh (Below.refl _ _)))).mono ?_
   rintro e_ wc1 ⟨rfl,hb⟩
   have HB2:=qz.mk (qy (qy HB.o (qh (Below.refl _ _))) hb)
   refine ⟨_,rfl,?_⟩
   refine hK.out _ _ ⟨vd' hb hHeld.1,vd' hb hHeld.2⟩ (fun hHeld=>?_)
   clear hK K
   refine zd' (a':=?_) ?_ ?_
   rotate_left
   ·show Act.put _ (some 29) _ = _
    simp only [Act.put,List.setIfInBounds_toArray,List.set_cons_zero,List.set_cons_succ,Bd',Cd']
    rfl
   refine pa_ 7 30 (bz_ 10 255) ?_
   refine ta_ 8 31 (bz_ 10 511) hHeld (hy:=Or.inl ⟨ca',ja'⟩) (h:=?_)
   refine pa_ 9 32 (bz_ 10 1023) ?_
   refine Wd' da' ?_
   have HS2:=qz.mk (HS.o.to HB2.o)
   have hc:=HS2.o.cells
   obtain ⟨_,e_,hyi⟩:=Kd.at_int (Kd.R_reads' HS2.o.ry).2.2 i HIL.o.1 HIL.o.2
   obtain rfl:=Option.some.inj e_
   by_cases c1 : rd t.lb A = 1
   ·rw [if_pos c1] at h
    have HY:=qz.mk h
    have cb1 : (rd t.lb A == 1) = true:=by simpa using c1
    clear h c1
    go_wp2_with (first|(go_at_call 100;(with_reducible refine (spec_l10Least.calls _ _ _ _ (sg' _ _)).mono ?_);rintro e_ w6 ⟨rfl,hd⟩;have HBL:=qz.mk (kf' hd);clear hd))
    go_roundg k1
    case measure=>omega
    case rel=>exact ⟨i + 1,_,rfl,la',⟨fa',fa',ga'⟩,HY,⟨qy HB2.o HBL.o⟩⟩
   rw [if_neg c1] at h
   have HY:=qz.mk h
   have cb1 : (rd t.lb A == 1) = false:=by simpa using c1
   clear h c1
   go_wp2_with (first|(go_at_call 100;(with_reducible refine (spec_l10Least.calls _ _ _ _ (sg' _ _)).mono ?_);rintro e_ w6 ⟨rfl,hd⟩;have HBL:=qz.mk (kf' hd);clear hd))
   go_roundg k1
   case measure=>omega
   case rel=>exact ⟨i + 1,_,rfl,la',⟨fa',fa',ga'⟩,HY,HB2⟩
  rw [if_neg c] at h
  subst h
  have cl0 : decide (i < N) = false:=decide_eq_false sa'
  clear c HI
  by_cases cd : d < 0
  ·have hr:=HR.o
   rw [if_pos cd] at hr
   subst hr
   have cb : decide (d < 0) = true:=decide_eq_true cd
   clear cd
   go_wp2_with fail
   go_ret2
   exact ⟨rfl,HB.o⟩
  have hr:=HR.o
  rw [if_neg cd] at hr
  have cb : decide (d < 0) = false:=decide_eq_false cd
  have HR2:=qz.mk hr
  obtain ⟨E,hE⟩ : ∃ E,vj' N s.y (cvs s.nd) t.lb es (es.length + 1) 0 d = E:=⟨_,rfl⟩
  rw [hE] at HR2
  have HES:=qz.mk hE
  clear cd hr HR hE
  go_wp2_with fail
  as_aux_lemma =>
   have hem:=Kd.C_max HS.o.he
   go_loopg [6,9] (es.length + 1) (fun kq v6 v9 w'=>∃ (i q : Int),v6 = .int .i64 q ∧ v9 = .int .i64 i ∧ qz (0 ≤ i ∧ i + kq = es.length + 1 ∧ i ≤ es.length) ∧ qz (vj' N s.y (cvs s.nd) t.lb es kq i q = E) ∧ qz (Below W.heap.size W w'))
   case atStart=>exact ⟨0,d,rfl,rfl,⟨aa',aa',aa'⟩,HES,HB⟩
   clear HES HB hc HS1 HT1
   obtain ⟨i,q,rfl,rfl,HI,HES,HB⟩:=hrel
   have h:=HES.o
   clear HES
   have HS1:=qz.mk (HS.o.to HB.o)
   have hc:=HS1.o.cells
   cases gk with
   | zero =>
    exfalso
    have h1:=HI.o
    omega
   | succ k1 =>
    rw [vj'] at h
    by_cases c : i < (es.length : Int)
    ·rw [if_pos c] at h
     have hi:=HI.o
     have cl0 : decide (i < (es.length : Int)) = true:=decide_eq_true c
     have HIL:=qz.mk c
     have hi1 : wrap64 (i + 1) = i + 1:=w64 aa' aa'
     obtain ⟨adE,e_,he0,he1,he2,he3,he4⟩:=of' (Kd.C_below HS1.o.he HS1.o.hb) i hi.1 c
     subst e_
     have HX:=qz.mk (And.intro (HE.o.1 i ⟨hi.1,c⟩) (HE.o.2 i ⟨hi.1,c⟩))
     have pi:=eq_true hi.1
     have qi:=eq_true c
     obtain ⟨X,hX⟩ : ∃ X,ud' es i = X:=⟨_,rfl⟩
     rw [hX] at h he0 he1 he2 he3 he4 HX
     clear hX c hi
     as_aux_lemma =>
      go_upto_region 15 with fail
      have BXE : qz ((wr.alloc (.cells #[.int .i64 X.f0,.int .i64 X.f1,.int .i64 X.f2,.int .i64 X.f3,.int .i64 X.f4] 73)).heap[wr.heap.size]? = some (.cells #[.int .i64 X.f0,.int .i64 X.f1,.int .i64 X.f2,.int .i64 X.f3,.int .i64 X.f4] 73 (0,0))):=⟨yd' wr _⟩
      have HBE : qz (Below wr.heap.size wr (wr.alloc (.cells #[.int .i64 X.f0,.int .i64 X.f1,.int .i64 X.f2,.int .i64 X.f3,.int .i64 X.f4] 73))):=⟨qo (Below.refl _ _) _⟩
      generalize wr.alloc (.cells #[.int .i64 X.f0,.int .i64 X.f1,.int .i64 X.f2,.int .i64 X.f3,.int .i64 X.f4] 73) = W2 at *
      have HB2:=qz.mk (qy HB.o HBE.o)
      have HS2:=qz.mk (HS.o.to HB2.o)
      have HT2:=qz.mk (HTP.o.to HB2.o)
      generalize wr.heap.size = ge at BXE ⊢
      clear hc he0 he1 he2 he3 he4 HBE HS1 HB
      have hct:=HT2.o.cells
      have hb0 : W2.cell? ⟨ge,0,none⟩ = some (.int .i64 X.f0):=(qq BXE.o 0).trans rfl
      have hb1 : W2.cell? ⟨ge,1,none⟩ = some (.int .i64 X.f1):=(qq BXE.o 1).trans rfl
      have hb2 : W2.cell? ⟨ge,2,none⟩ = some (.int .i64 X.f2):=(qq BXE.o 2).trans rfl
      have hb3 : W2.cell? ⟨ge,3,none⟩ = some (.int .i64 X.f3):=(qq BXE.o 3).trans rfl
      have hb4 : W2.cell? ⟨ge,4,none⟩ = some (.int .i64 X.f4):=(qq BXE.o 4).trans rfl
      obtain ⟨A,hA⟩ : ∃ A,topI (cvs s.nd) X.f0 = A:=⟨_,rfl⟩
      obtain ⟨B,hB⟩ : ∃ B,topI (cvs s.nd) X.f1 = B:=⟨_,rfl⟩
      have HTA:=qz.mk (ae' HS2.o X.f0 HW.o HX.o.1.1)
      have HTB:=qz.mk (ae' HS2.o X.f1 HW.o HX.o.1.2)
      have HIA:=qz.mk (Nd' HW.o (by rw [Hd'];exact HX.o.1.1))
      have HIB:=qz.mk (Nd' HW.o (by rw [Hd'];exact HX.o.1.2))
      rw [hA,Hd'] at HIA
      rw [hB,Hd'] at HIB
      rw [hA] at HTA
      rw [hB] at HTB
      have HSL:=qz.mk (Hi' HS2.o HW.o X HX.o.1.1 HX.o.1.2 HX.o.2.1 HX.o.2.2 sa' HSZ.o)
      rw [edS,hA,hB] at h
      obtain ⟨sl,hsl⟩ : ∃ sl,slackS N s.y (cvs s.nd) X = sl:=⟨_,rfl⟩
      rw [hsl] at HSL h
      obtain ⟨al,e_,hlA⟩:=Kd.at_int (Kd.R_reads' HT2.o.rl).2.2 A HIA.o.1 (by rw [HL.o];exact HIA.o.2)
      subst e_
      obtain ⟨_,e_,hlB⟩:=Kd.at_int (Kd.R_reads' HT2.o.rl).2.2 B HIB.o.1 (by rw [HL.o];exact HIB.o.2)
      obtain rfl:=Option.some.inj e_
      have pA:=eq_true HIA.o.1
      have qA : (A < (t.lb.length : Int)) = True:=eq_true (by rw [HL.o];exact HIA.o.2)
      have pB:=eq_true HIB.o.1
      have qB : (B < (t.lb.length : Int)) = True:=eq_true (by rw [HL.o];exact HIB.o.2)
      clear hA hB hsl
      by_cases c1 : A = B
      ·rw [if_pos c1] at h
       have cb1 : (A == B) = true:=by simpa using c1
       have HES:=qz.mk h
       clear c1 h
       as_aux_lemma=>((go_wp2_with (first|(go_at_call 59;(with_reducible refine HTA.o.mono ?_);rintro e_ w3 ⟨rfl,h2⟩;replace h2:=h2.symm;subst h2)|(go_at_call 59;(with_reducible refine HTB.o.mono ?_);rintro e_ w3 ⟨rfl,h2⟩;replace h2:=h2.symm;subst h2)));(go_roundg k1);(case measure=>omega);(case rel=>exact ⟨i + 1,q,rfl,la',⟨fa',fa',ga'⟩,HES,HB2⟩))
      rw [if_neg c1] at h
      have cb1 : (A == B) = false:=by simpa using c1
      by_cases c2 : rd t.lb A = 2
      ·rw [if_pos c2] at h
       have cb2 : (rd t.lb A == 2) = true:=by simpa using c2
       have HES:=qz.mk h
       clear c1 c2 h
       as_aux_lemma=>((go_wp2_with (first|(go_at_call 59;(with_reducible refine HTA.o.mono ?_);rintro e_ w3 ⟨rfl,h2⟩;replace h2:=h2.symm;subst h2)|(go_at_call 59;(with_reducible refine HTB.o.mono ?_);rintro e_ w3 ⟨rfl,h2⟩;replace h2:=h2.symm;subst h2)));(go_roundg k1);(case measure=>omega);(case rel=>exact ⟨i + 1,q,rfl,la',⟨fa',fa',ga'⟩,HES,HB2⟩))
      rw [if_neg c2] at h
      have cb2 : (rd t.lb A == 2) = false:=by simpa using c2
      by_cases c3 : rd t.lb B = 2
      ·rw [if_pos c3] at h
       have cb3 : (rd t.lb B == 2) = true:=by simpa using c3
       have HES:=qz.mk h
       clear c1 c2 c3 h
       as_aux_lemma=>((go_wp2_with (first|(go_at_call 59;(with_reducible refine HTA.o.mono ?_);rintro e_ w3 ⟨rfl,h2⟩;replace h2:=h2.symm;subst h2)|(go_at_call 59;(with_reducible refine HTB.o.mono ?_);rintro e_ w3 ⟨rfl,h2⟩;replace h2:=h2.symm;subst h2)));(go_roundg k1);(case measure=>omega);(case rel=>exact ⟨i + 1,q,rfl,la',⟨fa',fa',ga'⟩,HES,HB2⟩))
      rw [if_neg c3] at h
      have cb3 : (rd t.lb B == 2) = false:=by simpa using c3
      by_cases c4 : rd t.lb A = 1
      ·rw [if_pos c4] at h
       have cb4 : (rd t.lb A == 1) = true:=by simpa using c4
       by_cases c5 : rd t.lb B = 1
       ·rw [if_pos c5] at h
        have cb5 : (rd t.lb B == 1) = true:=by simpa using c5
        have HES:=qz.mk h
        clear c1 c2 c3 c4 c5 h
        as_aux_lemma=>((go_wp2_with (first|(go_at_call 59;(with_reducible refine HTA.o.mono ?_);rintro e_ w3 ⟨rfl,h2⟩;replace h2:=h2.symm;subst h2)|(go_at_call 59;(with_reducible refine HTB.o.mono ?_);rintro e_ w3 ⟨rfl,h2⟩;replace h2:=h2.symm;subst h2)|(go_at_call 76;(with_reducible refine HSL.o.mono ?_);rintro e_ w5 ⟨rfl,hb⟩;have HB5:=qz.mk (qy HB2.o hb);clear hb)|(go_at_call 100;(with_reducible refine (spec_l10Least.calls _ _ _ _ (sg' _ _)).mono ?_);rintro e_ w6 ⟨rfl,hd⟩;have HBL:=qz.mk (kf' hd);clear hd)));(go_roundg k1);(case measure=>omega);(case rel=>exact ⟨i + 1,_,rfl,la',⟨fa',fa',ga'⟩,HES,⟨qy HB5.o HBL.o⟩⟩))
       rw [if_neg c5] at h
       have cb5 : (rd t.lb B == 1) = false:=by simpa using c5
       have HES:=qz.mk h
       clear c1 c2 c3 c4 c5 h
       as_aux_lemma=>((go_wp2_with (first|(go_at_call 59;(with_reducible refine HTA.o.mono ?_);rintro e_ w3 ⟨rfl,h2⟩;replace h2:=h2.symm;subst h2)|(go_at_call 59;(with_reducible refine HTB.o.mono ?_);rintro e_ w3 ⟨rfl,h2⟩;replace h2:=h2.symm;subst h2)|(go_at_call 76;(with_reducible refine HSL.o.mono ?_);rintro e_ w5 ⟨rfl,hb⟩;have HB5:=qz.mk (qy HB2.o hb);clear hb)|(go_at_call 100;(with_reducible refine (spec_l10Least.calls _ _ _ _ (sg' _ _)).mono ?_);rintro e_ w6 ⟨rfl,hd⟩;have HBL:=qz.mk (kf' hd);clear hd)));(go_roundg k1);(case measure=>omega);(case rel=>exact ⟨i + 1,_,rfl,la',⟨fa',fa',ga'⟩,HES,⟨qy HB5.o HBL.o⟩⟩))
      rw [if_neg c4] at h
      have cb4 : (rd t.lb A == 1) = false:=by simpa using c4
      by_cases c5 : rd t.lb B = 1
      ·rw [if_pos c5] at h
       have cb5 : (rd t.lb B == 1) = true:=by simpa using c5
       have HES:=qz.mk h
       clear c1 c2 c3 c4 c5 h
       as_aux_lemma=>((go_wp2_with (first|(go_at_call 59;(with_reducible refine HTA.o.mono ?_);rintro e_ w3 ⟨rfl,h2⟩;replace h2:=h2.symm;subst h2)|(go_at_call 59;(with_reducible refine HTB.o.mono ?_);rintro e_ w3 ⟨rfl,h2⟩;replace h2:=h2.symm;subst h2)|(go_at_call 76;(with_reducible refine HSL.o.mono ?_);rintro e_ w5 ⟨rfl,hb⟩;have HB5:=qz.mk (qy HB2.o hb);clear hb)|(go_at_call 100;(with_reducible refine (spec_l10Least.calls _ _ _ _ (sg' _ _)).mono ?_);rintro e_ w6 ⟨rfl,hd⟩;have HBL:=qz.mk (kf' hd);clear hd)));(go_roundg k1);(case measure=>omega);(case rel=>exact ⟨i + 1,_,rfl,la',⟨fa',fa',ga'⟩,HES,⟨qy HB5.o HBL.o⟩⟩))
      rw [if_neg c5] at h
      have cb5 : (rd t.lb B == 1) = false:=by simpa using c5
      have HES:=qz.mk h
      clear c1 c2 c3 c4 c5 h
      as_aux_lemma=>((go_wp2_with (first|(go_at_call 59;(with_reducible refine HTA.o.mono ?_);rintro e_ w3 ⟨rfl,h2⟩;replace h2:=h2.symm;subst h2)|(go_at_call 59;(with_reducible refine HTB.o.mono ?_);rintro e_ w3 ⟨rfl,h2⟩;replace h2:=h2.symm;subst h2)));(go_roundg k1);(case measure=>omega);(case rel=>exact ⟨i + 1,q,rfl,la',⟨fa',fa',ga'⟩,HES,HB2⟩))
    rw [if_neg c] at h
    subst h
    have cl0 : decide (i < (es.length : Int)) = false:=decide_eq_false c
    clear c HI
    have HNS:=HR2
    go_wp2_with fail
    as_aux_lemma =>
     go_loopg [6,13] (s.nd.length + 1) (fun kq v6 v13 w'=>∃ (i z : Int),v6 = .int .i64 z ∧ v13 = .int .i64 i ∧ qz (0 ≤ i ∧ (s.nd.length : Int) < i + kq) ∧ qz ((Pi' s.nd t.lb kq i z,d) = R) ∧ qz (Below W.heap.size W w'))
     case atStart=>exact ⟨_,_,rfl,rfl,⟨sa',sa'⟩,HNS,HB⟩
     clear HNS HB hc HS1 HR2
     obtain ⟨i,z,rfl,rfl,HI,HNS,HB⟩:=hrel
     have h:=HNS.o
     clear HNS
     have HS1:=qz.mk (HS.o.to HB.o)
     have HT1:=qz.mk (HTP.o.to HB.o)
     have hc:=HS1.o.cells
     have hct:=HT1.o.cells
     have h0:=HI.o
     by_cases c : i < (s.nd.length : Int)
     ·cases gk with
      | zero =>
       exfalso
       omega
      | succ k1 =>
       rw [Pi',if_pos c] at h
       have cl0 : decide (i < (s.nd.length : Int)) = true:=decide_eq_true c
       have hi1 : wrap64 (i + 1) = i + 1:=w64 aa' jb'
       have HIN : qz (inR i s.nd.length):=⟨⟨h0.1,c⟩⟩
       have p:=h0.1
       have q_:=c
       obtain ⟨ad,A0,c0,A1,c1_,eA,hx0,hx1,hx2,hx3,hx4,hx5,-⟩:=wh' (Kd.R_reads' HS1.o.rn).2.2 i p q_
       subst eA
       obtain ⟨al,e_,hli⟩:=Kd.at_int (Kd.R_reads' HT1.o.rl).2.2 i p (by rw [HL.o];exact q_)
       subst e_
       have ql : (i < (t.lb.length : Int)) = True:=eq_true (by rw [HL.o];exact q_)
       replace p:=eq_true p
       replace q_:=eq_true q_
       clear c h0
       cases b1 : Ce' (wd' s.nd i) with
       | false =>
        rw [if_neg (by rintro ⟨h,-⟩;rw [b1] at h;cases h)] at h
        have HNS:=qz.mk h
        have HB1:=qz.mk b1
        clear h b1
        go_wp2_with (first|(go_at_call 20;(with_reducible refine (ne' HS1.o i _ HIN.o HB1.o).mono ?_);rintro e_ w2 ⟨rfl,h2⟩;replace h2:=h2.symm;subst h2)|(go_at_call 100;(with_reducible refine (spec_l10Least.calls _ _ _ _ (sg' _ _)).mono ?_);rintro e_ w6 ⟨rfl,hd⟩;have HBL:=qz.mk (kf' hd);clear hd))
        go_roundg k1
        case measure=>omega
        case rel=>exact ⟨i + 1,z,rfl,la',⟨fa',fa'⟩,HNS,HB⟩
       | true =>
        have HB1:=qz.mk b1
        by_cases b2 : rd t.lb i = 2
        ·rw [if_pos ⟨b1,b2⟩] at h
         have HNS:=qz.mk h
         have cb2 : (rd t.lb i == 2) = true:=by simpa using b2
         clear h b1 b2
         go_wp2_with (first|(go_at_call 20;(with_reducible refine (ne' HS1.o i _ HIN.o HB1.o).mono ?_);rintro e_ w2 ⟨rfl,h2⟩;replace h2:=h2.symm;subst h2)|(go_at_call 100;(with_reducible refine (spec_l10Least.calls _ _ _ _ (sg' _ _)).mono ?_);rintro e_ w6 ⟨rfl,hd⟩;have HBL:=qz.mk (kf' hd);clear hd))
         go_roundg k1
         case measure=>omega
         case rel=>exact ⟨i + 1,_,rfl,la',⟨fa',fa'⟩,HNS,⟨qy HB.o HBL.o⟩⟩
        rw [if_neg (fun h=>b2 h.2)] at h
        have HNS:=qz.mk h
        have cb2 : (rd t.lb i == 2) = false:=by simpa using b2
        clear h b1 b2
        go_wp2_with (first|(go_at_call 20;(with_reducible refine (ne' HS1.o i _ HIN.o HB1.o).mono ?_);rintro e_ w2 ⟨rfl,h2⟩;replace h2:=h2.symm;subst h2)|(go_at_call 100;(with_reducible refine (spec_l10Least.calls _ _ _ _ (sg' _ _)).mono ?_);rintro e_ w6 ⟨rfl,hd⟩;have HBL:=qz.mk (kf' hd);clear hd))
        go_roundg k1
        case measure=>omega
        case rel=>exact ⟨i + 1,z,rfl,la',⟨fa',fa'⟩,HNS,HB⟩
     have cl0 : decide (i < (s.nd.length : Int)) = false:=decide_eq_false c
     have h2 : (z,d) = R:=by
      cases gk with
      | zero=>rw [Pi'] at h;exact h
      | succ k1=>rw [Pi',if_neg c] at h;exact h
     subst h2
     clear c h0 h
     go_wp2_with fail
     go_ret2
     exact ⟨rfl,HB.o⟩
end Go.Proofs.YtnffimpoekjkpaaGreat.QFnExactSolve
