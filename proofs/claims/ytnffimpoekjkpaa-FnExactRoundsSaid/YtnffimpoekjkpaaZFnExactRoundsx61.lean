/- The reference's solver: l10Step. -/
import Derived.Test.YtnffimpoekjkpaaZFnExactRoundsx58
import Derived.Test.YtnffimpoekjkpaaZFnExactRoundsx30
import Derived.Test.YtnffimpoekjkpaaZFnExactRoundsx2
namespace Go.Proofs.Ytnffimpoekjkpaa.QFnExactRounds
open Go.RowKit Go.Proofs.YtnffimpoekjkpaaW.PrintWords Go.Proofs.YtnffimpoekjkpaaW.PrintLast Go.Proofs.YtnffimpoekjkpaaW.PrintMore
attribute [local go_sem] max2_int min2_int max_two min_two max_three min_three max_four min_four
set_option linter.unusedVariables false
set_option linter.unusedSimpArgs false
/-- What an edge lets all numbers change by. -/
def edS (N : Int) (y : List Int) (nd : List S60) (lb : List Int) (x : S51) (d : Int) : Int :=
 if topI nd x.f0 = topI nd x.f1 then d
 else if rd lb (topI nd x.f0) = 2 then d
 else if rd lb (topI nd x.f1) = 2 then d
 else if rd lb (topI nd x.f0) = 1 then (if rd lb (topI nd x.f1) = 1 then lesserI d (wrap64 ((slackS N y nd x).tdiv 2)) else lesserI d (slackS N y nd x))
 else if rd lb (topI nd x.f1) = 1 then lesserI d (slackS N y nd x) else d
def stES (N : Int) (y : List Int) (nd : List S60) (lb : List Int) (es : List S51) : Nat → Int → Int → Int
 | 0,_,d=>d
 | k + 1,i,d=>if i < (es.length : Int) then stES N y nd lb es k (i + 1) (edS N y nd lb (rd_T51 es i) d) else d
def stNS (nd : List S55) (lb : List Int) : Nat → Int → Int → Int
 | 0,_,d=>d
 | k + 1,i,d=>if i < (nd.length : Int) then stNS nd lb k (i + 1) (if isTop5 (rd_T55 nd i) = true ∧ rd lb i = 2 then lesserI d (wrap64 ((rd_T55 nd i).f3.tdiv 2)) else d) else d
def stYI (s : RI) (lb : List Int) : Int:=stY (cvs s.nd) s.y lb (s.y.length + 1) 0 (-1)
def stepS (N : Int) (es : List S51) (s : RI) (lb : List Int) : Int × Int :=
 if stYI s lb < 0 then (-1,-1)
 else (stNS s.nd lb (s.nd.length + 1) N (stES N s.y (cvs s.nd) lb es (es.length + 1) 0 (stYI s lb)),stYI s lb)
theorem least_is (a b : Int) : spec_l10Least.f a b = some (lesserI a b):=by
 rw [spec_l10Least.f,lesserI]
 split
 ·rfl
 split <;> rfl
set_option maxHeartbeats 8000000 in
set_option maxRecDepth 100000 in
theorem l10Step_calls {w0 W : World} {Z : Nat → Prop} {wz : World} {g : Nat} {N : Int} {Ae : Option Addr} {ce : Nat} {es : List (S51)} {col : Nat → Nat} {vy vn vm : Value} {s : RI} (hS : Rn w0 W Z wz g N Ae ce es col vy vn vm s) {gt : Nat} {vl va vr : Value} {t : TI} (hT : Tp W w0.heap.size gt col vl va vr t) (hw : WFn (cvs s.nd)) (hsz : s.nd.length ≤ 1000000) (ho : EOk es s.nd.length) (hoy : EOk es s.y.length) (hN : N = s.y.length) (hNn : N ≤ s.nd.length) (hl : t.lb.length = s.nd.length) :
  Calls Try.prog 42 #[.pointer (some ⟨g,0,none⟩),.pointer (some ⟨gt,0,none⟩)] W fun e w'=>e = .returned (.tuple #[.int .i64 (stepS N es s t.lb).1,.int .i64 (stepS N es s t.lb).2]) ∧ Below W.heap.size W w':=by
 have hu39:=Try.underlying39
 have hu55:=Try.underlying55
 have hu77:=Try.underlying77
 have hu51:=Try.underlying51
 have hu29:=Try.underlying29
 have HS:=qy.mk hS
 clear hS
 have hu35:=Try.underlying35
 have hu68:=Try.underlying68
 have HTP:=qy.mk hT
 have HW:=qy.mk hw
 have HSZ:=qy.mk hsz
 have HE:=qy.mk (And.intro ho hoy)
 have HN:=qy.mk (And.intro hN hNn)
 have HL:=qy.mk hl
 obtain ⟨An,cn,e_⟩:=Kd.R_slice HS.out.rn
 subst e_
 obtain ⟨Ay,cy,e_⟩:=Kd.R_slice HS.out.ry
 subst e_
 obtain ⟨Al,cl,e_⟩:=Kd.R_slice HTP.out.rl
 subst e_
 obtain ⟨R,hR⟩ : ∃ R,stepS N es s t.lb = R:=⟨_,rfl⟩
 rw [hR]
 obtain ⟨Y,hY⟩ : ∃ Y,stYI s t.lb = Y:=⟨_,rfl⟩
 rw [stepS,hY] at hR
 rw [stYI] at hY
 have HR:=qy.mk hR
 have HY:=qy.mk hY
 clear hT hw hsz ho hoy hN hNn hl hR hY
 go_enter Try.func42,Try.ntmps42
 have hc:=HS.out.cells
 go_wp2_with fail
 go_loopg [7,8] (s.y.length + 1) (fun kq v7 v8 w'=>∃ (i d : Int),v7 = .int .i64 d ∧ v8 = .int .i64 i ∧ qy (0 ≤ i ∧ i + kq = s.y.length + 1 ∧ i ≤ s.y.length) ∧ qy (stY (cvs s.nd) s.y t.lb kq i d = Y) ∧ qy (Below W.heap.size W w'))
 case atStart=>exact ⟨0,-1,rfl,rfl,⟨by omega,by omega,by omega⟩,HY,⟨Below.refl _ _⟩⟩
 clear HY hc
 obtain ⟨i,d,rfl,rfl,HI,HY,HB⟩:=hrel
 have h:=HY.out
 clear HY
 have HS1:=qy.mk (HS.out.to HB.out)
 have HT1:=qy.mk (HTP.out.to HB.out)
 have hc:=HS1.out.cells
 cases gk with
 | zero =>
  exfalso
  have h1:=HI.out
  omega
 | succ k1 =>
  rw [stY] at h
  by_cases c : i < (s.y.length : Int)
  ·rw [if_pos c] at h
   have hi:=HI.out
   have HIL:=qy.mk (And.intro hi.1 c)
   have cl0 : decide (i < N) = true:=decide_eq_true (by have:=HN.out;omega)
   have hi1 : wrap64 (i + 1) = i + 1:=w64 (by omega) (by have:=HN.out;have:=HSZ.out;omega)
   have HIN : qy (inR i s.nd.length):=⟨⟨hi.1,by have:=HN.out;omega⟩⟩
   obtain ⟨A,hA⟩ : ∃ A,topI (cvs s.nd) i = A:=⟨_,rfl⟩
   have HAI:=qy.mk (topI_in HW.out (by rw [cvs_len];exact HIN.out))
   rw [hA,cvs_len] at HAI
   rw [hA] at h
   have HTOP:=qy.mk (fun (W' : World) (hh : Rn w0 W' Z wz g N Ae ce es col (.slice Ay s.y.length cy) (.slice An s.nd.length cn) vm s)=>l10Top_bl hh i HW.out HIN.out)
   simp only [hA] at HTOP
   obtain ⟨al,e_,hlA⟩:=Kd.at_int (Kd.R_reads' HT1.out.rl).2.2 A HAI.out.1 (by rw [HL.out];exact HAI.out.2)
   subst e_
   obtain ⟨ay,e_,-⟩:=Kd.at_int (Kd.R_reads' HS1.out.ry).2.2 i hi.1 c
   subst e_
   have pA:=eq_true HAI.out.1
   have qA : (A < (t.lb.length : Int)) = True:=eq_true (by rw [HL.out];exact HAI.out.2)
   have pi:=eq_true hi.1
   have qi:=eq_true c
   clear hA c hi
   go_wp2_with fail
   refine start_ (n:=10) (S:=fun w'=>w'.cell? ⟨gt,0,none⟩ = some (.slice (some al) t.lb.length cl) ∧ w'.cell? (al.add A.toNat) = some (.int .i64 (rd t.lb A))) (ds:=[]) (Array.replicate 10 false) (by kernel_rfl) rfl rfl ⟨HT1.out.cells.1,hlA⟩ (fun hHeld=>?_)
   refine pa_ 0 23 (bz_ 10 1) ?_
   refine pa_ 1 24 (bz_ 10 3) ?_
   refine pa_ 2 25 (bz_ 10 7) ?_
   refine pa_ 4 27 (bz_ 10 23) ?_
   refine pa_ 5 28 (bz_ 10 55) ?_
   refine ta_ 3 26 (bz_ 10 63) hHeld (hy:=Or.inl ⟨by rfl,by rintro w' ⟨s0,s1⟩;go_simp;with_reducible rfl⟩) (h:=?_)
   refine one_ (i:=6) (N:=some 29) (bz_ 10 127) rfl rfl (by kernel_rfl) (by decide) (fun K hK=>?_)
   refine goes_ Try.func28 (by kernel_rfl) rfl #[.pointer (some ⟨g,0,none⟩),.int .i64 i] (by rfl) rfl rfl (by simp only [List.map_toArray,List.map_cons,List.map_nil];rfl) ?_
   refine (HTOP.out _ (HS1.out.to (qh (Below.refl _ _)))).mono ?_
   rintro e_ wc1 ⟨rfl,hb⟩
   have HB2:=qy.mk (qx (qx HB.out (qh (Below.refl _ _))) hb)
   refine ⟨_,rfl,?_⟩
   refine hK.out _ _ ⟨pw_cell_below hb hHeld.1,pw_cell_below hb hHeld.2⟩ (fun hHeld=>?_)
   clear hK K
   refine norm_ (a':=?_) ?_ ?_
   rotate_left
   ·show Act.put _ (some 29) _ = _
    simp only [Act.put,List.setIfInBounds_toArray,List.set_cons_zero,List.set_cons_succ,i64_w,i32_w]
    rfl
   refine pa_ 7 30 (bz_ 10 255) ?_
   refine ta_ 8 31 (bz_ 10 511) hHeld (hy:=Or.inl ⟨by rfl,by rintro w' ⟨s0,s1⟩;go_simp;with_reducible rfl⟩) (h:=?_)
   refine pa_ 9 32 (bz_ 10 1023) ?_
   refine done_ (by kernel_rfl) ?_
   have HS2:=qy.mk (HS.out.to HB2.out)
   have hc:=HS2.out.cells
   obtain ⟨_,e_,hyi⟩:=Kd.at_int (Kd.R_reads' HS2.out.ry).2.2 i HIL.out.1 HIL.out.2
   obtain rfl:=Option.some.inj e_
   by_cases c1 : rd t.lb A = 1
   ·rw [if_pos c1] at h
    have HY:=qy.mk h
    have cb1 : (rd t.lb A == 1) = true:=by simpa using c1
    clear h c1
    go_wp2_with (first|(go_at_call 59;(with_reducible refine (spec_l10Least.calls _ _ _ _ (least_is _ _)).mono ?_);rintro e_ w6 ⟨rfl,hd⟩;have HBL:=qy.mk (drawn_bl hd);clear hd))
    go_roundg k1
    case measure=>omega
    case rel=>exact ⟨i + 1,_,rfl,by first|rfl|rw [hi1],⟨by have:=HI.out;omega,by have:=HI.out;omega,by have:=HIL.out;omega⟩,HY,⟨qx HB2.out HBL.out⟩⟩
   rw [if_neg c1] at h
   have HY:=qy.mk h
   have cb1 : (rd t.lb A == 1) = false:=by simpa using c1
   clear h c1
   go_wp2_with (first|(go_at_call 59;(with_reducible refine (spec_l10Least.calls _ _ _ _ (least_is _ _)).mono ?_);rintro e_ w6 ⟨rfl,hd⟩;have HBL:=qy.mk (drawn_bl hd);clear hd))
   go_roundg k1
   case measure=>omega
   case rel=>exact ⟨i + 1,_,rfl,by first|rfl|rw [hi1],⟨by have:=HI.out;omega,by have:=HI.out;omega,by have:=HIL.out;omega⟩,HY,HB2⟩
  rw [if_neg c] at h
  subst h
  have cl0 : decide (i < N) = false:=decide_eq_false (by have:=HN.out;omega)
  clear c HI
  by_cases cd : d < 0
  ·have hr:=HR.out
   rw [if_pos cd] at hr
   subst hr
   have cb : decide (d < 0) = true:=decide_eq_true cd
   clear cd
   go_wp2_with fail
   go_ret2
   exact ⟨rfl,HB.out⟩
  have hr:=HR.out
  rw [if_neg cd] at hr
  have cb : decide (d < 0) = false:=decide_eq_false cd
  have HR2:=qy.mk hr
  obtain ⟨E,hE⟩ : ∃ E,stES N s.y (cvs s.nd) t.lb es (es.length + 1) 0 d = E:=⟨_,rfl⟩
  rw [hE] at HR2
  have HES:=qy.mk hE
  clear cd hr HR hE
  go_wp2_with fail
  as_aux_lemma =>
   have hem:=Kd.C_max HS.out.he
   go_loopg [6,9] (es.length + 1) (fun kq v6 v9 w'=>∃ (i q : Int),v6 = .int .i64 q ∧ v9 = .int .i64 i ∧ qy (0 ≤ i ∧ i + kq = es.length + 1 ∧ i ≤ es.length) ∧ qy (stES N s.y (cvs s.nd) t.lb es kq i q = E) ∧ qy (Below W.heap.size W w'))
   case atStart=>exact ⟨0,d,rfl,rfl,⟨by omega,by omega,by omega⟩,HES,HB⟩
   clear HES HB hc HS1 HT1
   obtain ⟨i,q,rfl,rfl,HI,HES,HB⟩:=hrel
   have h:=HES.out
   clear HES
   have HS1:=qy.mk (HS.out.to HB.out)
   have hc:=HS1.out.cells
   cases gk with
   | zero =>
    exfalso
    have h1:=HI.out
    omega
   | succ k1 =>
    rw [stES] at h
    by_cases c : i < (es.length : Int)
    ·rw [if_pos c] at h
     have hi:=HI.out
     have cl0 : decide (i < (es.length : Int)) = true:=decide_eq_true c
     have HIL:=qy.mk c
     have hi1 : wrap64 (i + 1) = i + 1:=w64 (by omega) (by omega)
     obtain ⟨adE,e_,he0,he1,he2,he3,he4⟩:=at_T51 (Kd.C_below HS1.out.he HS1.out.hb) i hi.1 c
     subst e_
     have HX:=qy.mk (And.intro (HE.out.1 i ⟨hi.1,c⟩) (HE.out.2 i ⟨hi.1,c⟩))
     have pi:=eq_true hi.1
     have qi:=eq_true c
     obtain ⟨X,hX⟩ : ∃ X,rd_T51 es i = X:=⟨_,rfl⟩
     rw [hX] at h he0 he1 he2 he3 he4 HX
     clear hX c hi
     as_aux_lemma =>
      go_upto_region 15 with fail
      have BXE : qy ((wr.alloc (.cells #[.int .i64 X.f0,.int .i64 X.f1,.int .i64 X.f2,.int .i64 X.f3,.int .i64 X.f4] 51)).heap[wr.heap.size]? = some (.cells #[.int .i64 X.f0,.int .i64 X.f1,.int .i64 X.f2,.int .i64 X.f3,.int .i64 X.f4] 51 (0,0))):=⟨blk_new wr _⟩
      have HBE : qy (Below wr.heap.size wr (wr.alloc (.cells #[.int .i64 X.f0,.int .i64 X.f1,.int .i64 X.f2,.int .i64 X.f3,.int .i64 X.f4] 51))):=⟨qo (Below.refl _ _) _⟩
      generalize wr.alloc (.cells #[.int .i64 X.f0,.int .i64 X.f1,.int .i64 X.f2,.int .i64 X.f3,.int .i64 X.f4] 51) = W2 at *
      have HB2:=qy.mk (qx HB.out HBE.out)
      have HS2:=qy.mk (HS.out.to HB2.out)
      have HT2:=qy.mk (HTP.out.to HB2.out)
      generalize wr.heap.size = ge at BXE ⊢
      clear hc he0 he1 he2 he3 he4 HBE HS1 HB
      have hct:=HT2.out.cells
      have hb0 : W2.cell? ⟨ge,0,none⟩ = some (.int .i64 X.f0):=(qq BXE.out 0).trans rfl
      have hb1 : W2.cell? ⟨ge,1,none⟩ = some (.int .i64 X.f1):=(qq BXE.out 1).trans rfl
      have hb2 : W2.cell? ⟨ge,2,none⟩ = some (.int .i64 X.f2):=(qq BXE.out 2).trans rfl
      have hb3 : W2.cell? ⟨ge,3,none⟩ = some (.int .i64 X.f3):=(qq BXE.out 3).trans rfl
      have hb4 : W2.cell? ⟨ge,4,none⟩ = some (.int .i64 X.f4):=(qq BXE.out 4).trans rfl
      obtain ⟨A,hA⟩ : ∃ A,topI (cvs s.nd) X.f0 = A:=⟨_,rfl⟩
      obtain ⟨B,hB⟩ : ∃ B,topI (cvs s.nd) X.f1 = B:=⟨_,rfl⟩
      have HTA:=qy.mk (l10Top_is HS2.out X.f0 HW.out HX.out.1.1)
      have HTB:=qy.mk (l10Top_is HS2.out X.f1 HW.out HX.out.1.2)
      have HIA:=qy.mk (topI_in HW.out (by rw [cvs_len];exact HX.out.1.1))
      have HIB:=qy.mk (topI_in HW.out (by rw [cvs_len];exact HX.out.1.2))
      rw [hA,cvs_len] at HIA
      rw [hB,cvs_len] at HIB
      rw [hA] at HTA
      rw [hB] at HTB
      have HSL:=qy.mk (l10Slack_calls HS2.out HW.out X HX.out.1.1 HX.out.1.2 HX.out.2.1 HX.out.2.2 (by have:=HN.out;omega) HSZ.out)
      rw [edS,hA,hB] at h
      obtain ⟨sl,hsl⟩ : ∃ sl,slackS N s.y (cvs s.nd) X = sl:=⟨_,rfl⟩
      rw [hsl] at HSL h
      obtain ⟨al,e_,hlA⟩:=Kd.at_int (Kd.R_reads' HT2.out.rl).2.2 A HIA.out.1 (by rw [HL.out];exact HIA.out.2)
      subst e_
      obtain ⟨_,e_,hlB⟩:=Kd.at_int (Kd.R_reads' HT2.out.rl).2.2 B HIB.out.1 (by rw [HL.out];exact HIB.out.2)
      obtain rfl:=Option.some.inj e_
      have pA:=eq_true HIA.out.1
      have qA : (A < (t.lb.length : Int)) = True:=eq_true (by rw [HL.out];exact HIA.out.2)
      have pB:=eq_true HIB.out.1
      have qB : (B < (t.lb.length : Int)) = True:=eq_true (by rw [HL.out];exact HIB.out.2)
      clear hA hB hsl
      by_cases c1 : A = B
      ·rw [if_pos c1] at h
       have cb1 : (A == B) = true:=by simpa using c1
       have HES:=qy.mk h
       clear c1 h
       as_aux_lemma=>((go_wp2_with (first|(go_at_call 28;(with_reducible refine HTA.out.mono ?_);rintro e_ w3 ⟨rfl,h2⟩;replace h2:=h2.symm;subst h2)|(go_at_call 28;(with_reducible refine HTB.out.mono ?_);rintro e_ w3 ⟨rfl,h2⟩;replace h2:=h2.symm;subst h2)));(go_roundg k1);(case measure=>omega);(case rel=>exact ⟨i + 1,q,rfl,by first|rfl|rw [hi1],⟨by have:=HI.out;omega,by have:=HI.out;omega,by have:=HIL.out;omega⟩,HES,HB2⟩))
      rw [if_neg c1] at h
      have cb1 : (A == B) = false:=by simpa using c1
      by_cases c2 : rd t.lb A = 2
      ·rw [if_pos c2] at h
       have cb2 : (rd t.lb A == 2) = true:=by simpa using c2
       have HES:=qy.mk h
       clear c1 c2 h
       as_aux_lemma=>((go_wp2_with (first|(go_at_call 28;(with_reducible refine HTA.out.mono ?_);rintro e_ w3 ⟨rfl,h2⟩;replace h2:=h2.symm;subst h2)|(go_at_call 28;(with_reducible refine HTB.out.mono ?_);rintro e_ w3 ⟨rfl,h2⟩;replace h2:=h2.symm;subst h2)));(go_roundg k1);(case measure=>omega);(case rel=>exact ⟨i + 1,q,rfl,by first|rfl|rw [hi1],⟨by have:=HI.out;omega,by have:=HI.out;omega,by have:=HIL.out;omega⟩,HES,HB2⟩))
      rw [if_neg c2] at h
      have cb2 : (rd t.lb A == 2) = false:=by simpa using c2
      by_cases c3 : rd t.lb B = 2
      ·rw [if_pos c3] at h
       have cb3 : (rd t.lb B == 2) = true:=by simpa using c3
       have HES:=qy.mk h
       clear c1 c2 c3 h
       as_aux_lemma=>((go_wp2_with (first|(go_at_call 28;(with_reducible refine HTA.out.mono ?_);rintro e_ w3 ⟨rfl,h2⟩;replace h2:=h2.symm;subst h2)|(go_at_call 28;(with_reducible refine HTB.out.mono ?_);rintro e_ w3 ⟨rfl,h2⟩;replace h2:=h2.symm;subst h2)));(go_roundg k1);(case measure=>omega);(case rel=>exact ⟨i + 1,q,rfl,by first|rfl|rw [hi1],⟨by have:=HI.out;omega,by have:=HI.out;omega,by have:=HIL.out;omega⟩,HES,HB2⟩))
      rw [if_neg c3] at h
      have cb3 : (rd t.lb B == 2) = false:=by simpa using c3
      by_cases c4 : rd t.lb A = 1
      ·rw [if_pos c4] at h
       have cb4 : (rd t.lb A == 1) = true:=by simpa using c4
       by_cases c5 : rd t.lb B = 1
       ·rw [if_pos c5] at h
        have cb5 : (rd t.lb B == 1) = true:=by simpa using c5
        have HES:=qy.mk h
        clear c1 c2 c3 c4 c5 h
        as_aux_lemma=>((go_wp2_with (first|(go_at_call 28;(with_reducible refine HTA.out.mono ?_);rintro e_ w3 ⟨rfl,h2⟩;replace h2:=h2.symm;subst h2)|(go_at_call 28;(with_reducible refine HTB.out.mono ?_);rintro e_ w3 ⟨rfl,h2⟩;replace h2:=h2.symm;subst h2)|(go_at_call 41;(with_reducible refine HSL.out.mono ?_);rintro e_ w5 ⟨rfl,hb⟩;have HB5:=qy.mk (qx HB2.out hb);clear hb)|(go_at_call 59;(with_reducible refine (spec_l10Least.calls _ _ _ _ (least_is _ _)).mono ?_);rintro e_ w6 ⟨rfl,hd⟩;have HBL:=qy.mk (drawn_bl hd);clear hd)));(go_roundg k1);(case measure=>omega);(case rel=>exact ⟨i + 1,_,rfl,by first|rfl|rw [hi1],⟨by have:=HI.out;omega,by have:=HI.out;omega,by have:=HIL.out;omega⟩,HES,⟨qx HB5.out HBL.out⟩⟩))
       rw [if_neg c5] at h
       have cb5 : (rd t.lb B == 1) = false:=by simpa using c5
       have HES:=qy.mk h
       clear c1 c2 c3 c4 c5 h
       as_aux_lemma=>((go_wp2_with (first|(go_at_call 28;(with_reducible refine HTA.out.mono ?_);rintro e_ w3 ⟨rfl,h2⟩;replace h2:=h2.symm;subst h2)|(go_at_call 28;(with_reducible refine HTB.out.mono ?_);rintro e_ w3 ⟨rfl,h2⟩;replace h2:=h2.symm;subst h2)|(go_at_call 41;(with_reducible refine HSL.out.mono ?_);rintro e_ w5 ⟨rfl,hb⟩;have HB5:=qy.mk (qx HB2.out hb);clear hb)|(go_at_call 59;(with_reducible refine (spec_l10Least.calls _ _ _ _ (least_is _ _)).mono ?_);rintro e_ w6 ⟨rfl,hd⟩;have HBL:=qy.mk (drawn_bl hd);clear hd)));(go_roundg k1);(case measure=>omega);(case rel=>exact ⟨i + 1,_,rfl,by first|rfl|rw [hi1],⟨by have:=HI.out;omega,by have:=HI.out;omega,by have:=HIL.out;omega⟩,HES,⟨qx HB5.out HBL.out⟩⟩))
      rw [if_neg c4] at h
      have cb4 : (rd t.lb A == 1) = false:=by simpa using c4
      by_cases c5 : rd t.lb B = 1
      ·rw [if_pos c5] at h
       have cb5 : (rd t.lb B == 1) = true:=by simpa using c5
       have HES:=qy.mk h
       clear c1 c2 c3 c4 c5 h
       as_aux_lemma=>((go_wp2_with (first|(go_at_call 28;(with_reducible refine HTA.out.mono ?_);rintro e_ w3 ⟨rfl,h2⟩;replace h2:=h2.symm;subst h2)|(go_at_call 28;(with_reducible refine HTB.out.mono ?_);rintro e_ w3 ⟨rfl,h2⟩;replace h2:=h2.symm;subst h2)|(go_at_call 41;(with_reducible refine HSL.out.mono ?_);rintro e_ w5 ⟨rfl,hb⟩;have HB5:=qy.mk (qx HB2.out hb);clear hb)|(go_at_call 59;(with_reducible refine (spec_l10Least.calls _ _ _ _ (least_is _ _)).mono ?_);rintro e_ w6 ⟨rfl,hd⟩;have HBL:=qy.mk (drawn_bl hd);clear hd)));(go_roundg k1);(case measure=>omega);(case rel=>exact ⟨i + 1,_,rfl,by first|rfl|rw [hi1],⟨by have:=HI.out;omega,by have:=HI.out;omega,by have:=HIL.out;omega⟩,HES,⟨qx HB5.out HBL.out⟩⟩))
      rw [if_neg c5] at h
      have cb5 : (rd t.lb B == 1) = false:=by simpa using c5
      have HES:=qy.mk h
      clear c1 c2 c3 c4 c5 h
      as_aux_lemma=>((go_wp2_with (first|(go_at_call 28;(with_reducible refine HTA.out.mono ?_);rintro e_ w3 ⟨rfl,h2⟩;replace h2:=h2.symm;subst h2)|(go_at_call 28;(with_reducible refine HTB.out.mono ?_);rintro e_ w3 ⟨rfl,h2⟩;replace h2:=h2.symm;subst h2)));(go_roundg k1);(case measure=>omega);(case rel=>exact ⟨i + 1,q,rfl,by first|rfl|rw [hi1],⟨by have:=HI.out;omega,by have:=HI.out;omega,by have:=HIL.out;omega⟩,HES,HB2⟩))
    rw [if_neg c] at h
    subst h
    have cl0 : decide (i < (es.length : Int)) = false:=decide_eq_false c
    clear c HI
    have HNS:=HR2
    go_wp2_with fail
    as_aux_lemma =>
     go_loopg [6,13] (s.nd.length + 1) (fun kq v6 v13 w'=>∃ (i z : Int),v6 = .int .i64 z ∧ v13 = .int .i64 i ∧ qy (0 ≤ i ∧ (s.nd.length : Int) < i + kq) ∧ qy ((stNS s.nd t.lb kq i z,d) = R) ∧ qy (Below W.heap.size W w'))
     case atStart=>exact ⟨_,_,rfl,rfl,⟨by have:=HN.out;omega,by have:=HN.out;omega⟩,HNS,HB⟩
     clear HNS HB hc HS1 HR2
     obtain ⟨i,z,rfl,rfl,HI,HNS,HB⟩:=hrel
     have h:=HNS.out
     clear HNS
     have HS1:=qy.mk (HS.out.to HB.out)
     have HT1:=qy.mk (HTP.out.to HB.out)
     have hc:=HS1.out.cells
     have hct:=HT1.out.cells
     have h0:=HI.out
     by_cases c : i < (s.nd.length : Int)
     ·cases gk with
      | zero =>
       exfalso
       omega
      | succ k1 =>
       rw [stNS,if_pos c] at h
       have cl0 : decide (i < (s.nd.length : Int)) = true:=decide_eq_true c
       have hi1 : wrap64 (i + 1) = i + 1:=w64 (by omega) (by have:=HSZ.out;omega)
       have HIN : qy (inR i s.nd.length):=⟨⟨h0.1,c⟩⟩
       have p:=h0.1
       have q_:=c
       obtain ⟨ad,A0,c0,A1,c1_,eA,hx0,hx1,hx2,hx3,hx4,hx5,-⟩:=at_T55 (Kd.R_reads' HS1.out.rn).2.2 i p q_
       subst eA
       obtain ⟨al,e_,hli⟩:=Kd.at_int (Kd.R_reads' HT1.out.rl).2.2 i p (by rw [HL.out];exact q_)
       subst e_
       have ql : (i < (t.lb.length : Int)) = True:=eq_true (by rw [HL.out];exact q_)
       replace p:=eq_true p
       replace q_:=eq_true q_
       clear c h0
       cases b1 : isTop5 (rd_T55 s.nd i) with
       | false =>
        rw [if_neg (by rintro ⟨h,-⟩;rw [b1] at h;cases h)] at h
        have HNS:=qy.mk h
        have HB1:=qy.mk b1
        clear h b1
        go_wp2_with (first|(go_at_call 40;(with_reducible refine (l10IsTop_calls HS1.out i _ HIN.out HB1.out).mono ?_);rintro e_ w2 ⟨rfl,h2⟩;replace h2:=h2.symm;subst h2)|(go_at_call 59;(with_reducible refine (spec_l10Least.calls _ _ _ _ (least_is _ _)).mono ?_);rintro e_ w6 ⟨rfl,hd⟩;have HBL:=qy.mk (drawn_bl hd);clear hd))
        go_roundg k1
        case measure=>omega
        case rel=>exact ⟨i + 1,z,rfl,by first|rfl|rw [hi1],⟨by have:=HI.out;omega,by have:=HI.out;omega⟩,HNS,HB⟩
       | true =>
        have HB1:=qy.mk b1
        by_cases b2 : rd t.lb i = 2
        ·rw [if_pos ⟨b1,b2⟩] at h
         have HNS:=qy.mk h
         have cb2 : (rd t.lb i == 2) = true:=by simpa using b2
         clear h b1 b2
         go_wp2_with (first|(go_at_call 40;(with_reducible refine (l10IsTop_calls HS1.out i _ HIN.out HB1.out).mono ?_);rintro e_ w2 ⟨rfl,h2⟩;replace h2:=h2.symm;subst h2)|(go_at_call 59;(with_reducible refine (spec_l10Least.calls _ _ _ _ (least_is _ _)).mono ?_);rintro e_ w6 ⟨rfl,hd⟩;have HBL:=qy.mk (drawn_bl hd);clear hd))
         go_roundg k1
         case measure=>omega
         case rel=>exact ⟨i + 1,_,rfl,by first|rfl|rw [hi1],⟨by have:=HI.out;omega,by have:=HI.out;omega⟩,HNS,⟨qx HB.out HBL.out⟩⟩
        rw [if_neg (fun h=>b2 h.2)] at h
        have HNS:=qy.mk h
        have cb2 : (rd t.lb i == 2) = false:=by simpa using b2
        clear h b1 b2
        go_wp2_with (first|(go_at_call 40;(with_reducible refine (l10IsTop_calls HS1.out i _ HIN.out HB1.out).mono ?_);rintro e_ w2 ⟨rfl,h2⟩;replace h2:=h2.symm;subst h2)|(go_at_call 59;(with_reducible refine (spec_l10Least.calls _ _ _ _ (least_is _ _)).mono ?_);rintro e_ w6 ⟨rfl,hd⟩;have HBL:=qy.mk (drawn_bl hd);clear hd))
        go_roundg k1
        case measure=>omega
        case rel=>exact ⟨i + 1,z,rfl,by first|rfl|rw [hi1],⟨by have:=HI.out;omega,by have:=HI.out;omega⟩,HNS,HB⟩
     have cl0 : decide (i < (s.nd.length : Int)) = false:=decide_eq_false c
     have h2 : (z,d) = R:=by
      cases gk with
      | zero=>rw [stNS] at h;exact h
      | succ k1=>rw [stNS,if_neg c] at h;exact h
     subst h2
     clear c h0 h
     go_wp2_with fail
     go_ret2
     exact ⟨rfl,HB.out⟩
end Go.Proofs.Ytnffimpoekjkpaa.QFnExactRounds
