/- The reference's solver: l10Adjust. -/
import Derived.Test.YtnffimpoekjkpaaZFnExactRoundsx61
import Derived.Test.YtnffimpoekjkpaaZFnExactRoundsx59
namespace Go.Proofs.Ytnffimpoekjkpaa.QFnExactRounds
open Go.RowKit Go.Proofs.YtnffimpoekjkpaaW.PrintWords Go.Proofs.YtnffimpoekjkpaaW.PrintLast Go.Proofs.YtnffimpoekjkpaaW.PrintMore
attribute [local go_sem] max2_int min2_int max_two min_two max_three min_three max_four min_four
set_option linter.unusedVariables false
set_option linter.unusedSimpArgs false
def chYS (nd : List S60) (lb : List Int) (d : Int) : Nat → Int → List Int → List Int
 | 0,_,y=>y
 | k + 1,i,y =>
  if i < (y.length : Int) then
   chYS nd lb d k (i + 1) (if rd lb (topI nd i) = 1 then y.set i.toNat (wrap64 (rd y i - d)) else if rd lb (topI nd i) = 2 then y.set i.toNat (wrap64 (rd y i + d)) else y)
  else y
def zAtS (nd : List S55) (n z : Int) : List S55:=nd.set n.toNat { rd_T55 nd n with f3:=z }
def chZS (lb : List Int) (d : Int) : Nat → Int → List S55 → List S55
 | 0,_,nd=>nd
 | k + 1,i,nd =>
  if i < (nd.length : Int) then
   chZS lb d k (i + 1) (if isTop5 (rd_T55 nd i) = true then (if rd lb i = 1 then zAtS nd i (wrap64 ((rd_T55 nd i).f3 + wrap64 (2 * d))) else if rd lb i = 2 then zAtS nd i (wrap64 ((rd_T55 nd i).f3 - wrap64 (2 * d))) else nd) else nd)
  else nd
/-- All numbers changed. -/
def chgS (N : Int) (es : List S51) (s : RI) (lb : List Int) : RI :=
 { s with y:=chYS (cvs s.nd) lb (stepS N es s lb).1 (s.y.length + 1) 0 s.y,nd:=chZS lb (stepS N es s lb).1 (s.nd.length + 1) N s.nd }
def frsS (N : Int) (es : List S51) (s : RI) (lb : List Int) : Int:=firstF (cvs (chgS N es s lb).nd) lb 2 (s.nd.length + 1) N
def adjustS (N : Int) (es : List S51) (s : RI) (lb : List Int) : RI :=
 if (stepS N es s lb).1 < 0 then { s with dn:=true }
 else if (stepS N es s lb).2 = (stepS N es s lb).1 then { chgS N es s lb with dn:=true }
 else if frsS N es s lb = -1 then chgS N es s lb
 else openS (chgS N es s lb) (frsS N es s lb)
theorem cvs_zAtS {nd : List S55} {i z : Int} (j : Int) : (rd_T55 (zAtS nd i z) j).f4 = (rd_T55 nd j).f4 ∧ (rd_T55 (zAtS nd i z) j).f5 = (rd_T55 nd j).f5:=by
 unfold zAtS rd_T55
 simp only [List.getD_eq_getElem?_getD,List.getElem?_set]
 by_cases c : i.toNat = j.toNat
 ·rw [if_pos c]
  split
  ·rw [c];exact ⟨rfl,rfl⟩
  rename_i h
  rw [List.getElem?_eq_none (by omega)]
  exact ⟨rfl,rfl⟩
 rw [if_neg c]
 exact ⟨rfl,rfl⟩
theorem wfn_zAtS {nd : List S55} {i z : Int} (hw : WFn (cvs nd)) : WFn (cvs (zAtS nd i z)):=by
 intro j hj
 rw [cvs_len,zAtS,List.length_set,← cvs_len] at hj
 have h:=hw j hj
 rw [rd_cvs] at h ⊢
 rw [cvs_len] at h
 rw [cvs_len,zAtS,List.length_set,← zAtS]
 change (rd_T55 (zAtS nd i z) j).f4 = -1 ∨ _ < (rd_T55 (zAtS nd i z) j).f4 ∧ (rd_T55 (zAtS nd i z) j).f4 < _
 rw [(cvs_zAtS j).1]
 exact h
set_option maxHeartbeats 8000000 in
set_option maxRecDepth 100000 in
theorem l10Adjust_calls {w0 W : World} {Z : Nat → Prop} {wz : World} {g : Nat} {N : Int} {Ae : Option Addr} {ce : Nat} {es : List (S51)} {col : Nat → Nat} {vy vn vm : Value} {s : RI} (hS : Rn w0 W Z wz g N Ae ce es col vy vn vm s) {gt : Nat} {vl va vr : Value} {t : TI} (hT : Tp W w0.heap.size gt col vl va vr t) (hw : WFn (cvs s.nd)) (hsz : s.nd.length ≤ 1000000) (ho : EOk es s.nd.length) (hoy : EOk es s.y.length) (hN : N = s.y.length) (hNn : N ≤ s.nd.length) (hl : t.lb.length = s.nd.length)
  (hp : 0 ≤ (stepS N es s t.lb).1 → 0 < s.nd.length) (hU : 0 ≤ (stepS N es s t.lb).1 → frsS N es s t.lb ≠ -1 → UOkS (chgS N es s t.lb) (frsS N es s t.lb)) :
  Calls Try.prog 27 #[.pointer (some ⟨g,0,none⟩),.pointer (some ⟨gt,0,none⟩)] W fun e w'=>e = .returned (.tuple #[]) ∧ IsRn w0 w' g N Ae ce es (adjustS N es s t.lb):=by
 have hS' : RnF w0 W g N Ae ce es col vy vn vm s:=⟨hS.blk,hS.ge,hS.hb,hS.he,hS.hec,hS.ry,hS.rn,hS.rm,fun _ h=>h.elim⟩
 clear hS
 have hS:=hS'
 clear hS'
 have hu39:=Try.underlying39
 have hu55:=Try.underlying55
 have hu77:=Try.underlying77
 have hu51:=Try.underlying51
 have hu29:=Try.underlying29
 have HS:=qy.mk hS
 clear hS
 have hu35:=Try.underlying35
 have hu36:=Try.underlying36
 have hu68:=Try.underlying68
 have HTP:=qy.mk hT
 have HW:=qy.mk hw
 have HSZ:=qy.mk hsz
 have HE:=qy.mk (And.intro ho hoy)
 have HN:=qy.mk (And.intro hN hNn)
 have HL:=qy.mk hl
 have HSTC:=qy.mk (l10Step_calls HS.out hT hw hsz ho hoy hN hNn hl)
 obtain ⟨d,hd⟩ : ∃ d,(stepS N es s t.lb).1 = d:=⟨_,rfl⟩
 obtain ⟨Y,hY⟩ : ∃ Y,(stepS N es s t.lb).2 = Y:=⟨_,rfl⟩
 rw [hd,hY] at HSTC
 have HD:=qy.mk hd
 have HYY:=qy.mk hY
 have HU:=qy.mk hU
 rw [hd] at hp
 obtain ⟨Al,cl,e_⟩:=Kd.R_slice HTP.out.rl
 subst e_
 obtain ⟨RR,hRR⟩ : ∃ RR,adjustS N es s t.lb = RR:=⟨_,rfl⟩
 have HRR:=qy.mk hRR
 rw [hRR]
 clear hT hw hsz ho hoy hN hNn hl hU hd hY hRR
 go_enter Try.func27,Try.ntmps27
 by_cases c0 : d < 0
 ·have hr:=HRR.out
  rw [adjustS,HD.out,if_pos c0] at hr
  subst hr
  have cb : decide (d < 0) = true:=decide_eq_true c0
  clear c0 hp
  as_aux_lemma =>
   go_upto_region 2 with (first|(go_at_call 42;refine HSTC.out.mono ?_;rintro e_ w2 ⟨rfl,hb⟩;have HS2:=qy.mk (HS.out.to hb);have HF2:=qy.mk (HS2.out.fd true);have hc:=HS2.out.cells;have hf6:=HS2.out.frz.2.2.2.2;clear hb))
   go_wp2_with fail
   first|go_end0|((try simp only [Exit.inBlock,Exit.then]);refine bodyPost_ret (results_none rfl _ _ _) rfl ?_)
   exact ⟨rfl,HF2.out.is⟩
 have hp0:=hp (by omega)
 have cb : decide (d < 0) = false:=decide_eq_false c0
 have HC0:=qy.mk c0
 obtain ⟨bn,cn,e_,-⟩:=row_at HS.out.rn hp0
 subst e_
 clear c0 hp
 go_wp2_with (first|(go_at_call 42;refine HSTC.out.mono ?_;rintro e_ w2 ⟨rfl,hb⟩;have HS2:=qy.mk (HS.out.to hb);have HT2:=qy.mk (HTP.out.to hb);clear hb))
 clear HSTC HS HTP
 obtain ⟨Ay,cy,e_⟩:=Kd.R_slice HS2.out.ry
 subst e_
 obtain ⟨YN,hYN⟩ : ∃ YN,chYS (cvs s.nd) t.lb d (s.y.length + 1) 0 s.y = YN:=⟨_,rfl⟩
 have HYN:=qy.mk hYN
 have HY0:=qy.mk hYN
 clear hYN
 as_aux_lemma =>
  go_loopg [6] (s.y.length + 1) (fun kq v6 w'=>∃ (i : Int) (y : List Int),v6 = .int .i64 i ∧ qy (0 ≤ i ∧ i + kq = s.y.length + 1 ∧ i ≤ s.y.length) ∧ qy (chYS (cvs s.nd) t.lb d kq i y = YN) ∧ qy (y.length = s.y.length) ∧ qy (RnF w0 w' g N Ae ce es col (.slice Ay s.y.length cy) (.slice (some ⟨bn,0,none⟩) s.nd.length cn) vm { s with y:=y }) ∧ qy (Tp w' w0.heap.size gt col (.slice Al t.lb.length cl) va vr t))
  case atStart=>exact ⟨0,s.y,rfl,⟨by omega,by omega,by omega⟩,HY0,⟨rfl⟩,HS2,HT2⟩
  clear HY0 HS2 HT2
  obtain ⟨i,y,rfl,HI,HY0,HYL,HS2,HT2⟩:=hrel
  have h:=HY0.out
  clear HY0
  have hc:=HS2.out.cells
  cases gk with
  | zero =>
   exfalso
   have h1:=HI.out
   omega
  | succ k1 =>
   rw [chYS,HYL.out] at h
   by_cases c : i < (s.y.length : Int)
   ·rw [if_pos c] at h
    have hi:=HI.out
    have HIL:=qy.mk (And.intro hi.1 c)
    have cl0 : decide (i < N) = true:=decide_eq_true (by have:=HN.out;omega)
    have hi1 : wrap64 (i + 1) = i + 1:=w64 (by omega) (by have:=HN.out;have:=HSZ.out;omega)
    have HIN : qy (inR i s.nd.length):=⟨⟨hi.1,by have:=HN.out;omega⟩⟩
    obtain ⟨A,hA⟩ : ∃ A,topI (cvs s.nd) i = A:=⟨_,rfl⟩
    have HAI:=qy.mk (topI_in HW.out (by rw [cvs_len];exact HIN.out))
    rw [hA,cvs_len] at HAI
    rw [hA] at h
    have HTOP:=qy.mk (fun (W' : World) (hh : RnF w0 W' g N Ae ce es col (.slice Ay s.y.length cy) (.slice (some ⟨bn,0,none⟩) s.nd.length cn) vm { s with y:=y })=>l10Top_bl hh i HW.out HIN.out)
    simp only [hA] at HTOP
    have HT1:=HT2
    obtain ⟨al,e_,hlA⟩:=Kd.at_int (Kd.R_reads' HT1.out.rl).2.2 A HAI.out.1 (by rw [HL.out];exact HAI.out.2)
    subst e_
    have hp1 : 0 < y.length:=by rw [HYL.out];omega
    obtain ⟨byy,_,e_,-⟩:=row_at HS2.out.ry hp1
    injection e_ with e_ e2_ e3_
    clear e2_ e3_
    subst e_
    have pA:=eq_true HAI.out.1
    have qA : (A < (t.lb.length : Int)) = True:=eq_true (by rw [HL.out];exact HAI.out.2)
    have pi:=eq_true hi.1
    have qi:=eq_true c
    have HBr : qy (Below wr.heap.size wr wr):=⟨Below.refl _ _⟩
    clear hA c hi hp1
    go_wp2_with fail
    refine start_ (n:=9) (S:=fun w'=>w'.cell? ⟨gt,0,none⟩ = some (.slice (some al) t.lb.length cl) ∧ w'.cell? (al.add A.toNat) = some (.int .i64 (rd t.lb A))) (ds:=[]) (Array.replicate 9 false) (by kernel_rfl) rfl rfl ⟨HT1.out.cells.1,hlA⟩ (fun hHeld=>?_)
    refine pa_ 0 29 (bz_ 9 1) ?_
    refine pa_ 1 30 (bz_ 9 3) ?_
    refine pa_ 2 31 (bz_ 9 7) ?_
    refine pa_ 4 33 (bz_ 9 23) ?_
    refine pa_ 5 34 (bz_ 9 55) ?_
    refine ta_ 3 32 (bz_ 9 63) hHeld (hy:=Or.inl ⟨by rfl,by rintro w' ⟨s0,s1⟩;go_simp;with_reducible rfl⟩) (h:=?_)
    refine one_ (i:=6) (N:=some 35) (bz_ 9 127) rfl rfl (by kernel_rfl) (by decide) (fun K hK=>?_)
    refine goes_ Try.func28 (by kernel_rfl) rfl #[.pointer (some ⟨g,0,none⟩),.int .i64 i] (by rfl) rfl rfl (by simp only [List.map_toArray,List.map_cons,List.map_nil];rfl) ?_
    refine (HTOP.out _ (HS2.out.to (qh (Below.refl _ _)))).mono ?_
    rintro e_ wc1 ⟨rfl,hb⟩
    have HB2:=qy.mk (qx (qx HBr.out (qh (Below.refl _ _))) hb)
    refine ⟨_,rfl,?_⟩
    refine hK.out _ _ ⟨pw_cell_below hb hHeld.1,pw_cell_below hb hHeld.2⟩ (fun hHeld=>?_)
    clear hK K
    refine norm_ (a':=?_) ?_ ?_
    rotate_left
    ·show Act.put _ (some 35) _ = _
     simp only [Act.put,List.setIfInBounds_toArray,List.set_cons_zero,List.set_cons_succ,i64_w,i32_w]
     rfl
    refine pa_ 7 36 (bz_ 9 255) ?_
    refine ta_ 8 37 (bz_ 9 511) hHeld (hy:=Or.inl ⟨by rfl,by rintro w' ⟨s0,s1⟩;go_simp;with_reducible rfl⟩) (h:=?_)
    refine done_ (by kernel_rfl) ?_
    clear hHeld HTOP hc HT1 HBr hlA
    have HS3:=qy.mk (HS2.out.to HB2.out)
    have HT3:=qy.mk (HT2.out.to HB2.out)
    clear HS2 HT2 HB2
    have hc:=HS3.out.cells
    have qiy : i < (y.length : Int):=by rw [HYL.out];exact HIL.out.2
    obtain ⟨gx1,gf1⟩:=int_at HS3.out.ry i HIL.out.1 qiy
    by_cases c1 : rd t.lb A = 1
    ·rw [if_pos c1] at h
     have HY0:=qy.mk h
     have cb1 : (rd t.lb A == 1) = true:=by simpa using c1
     clear h c1
     as_aux_lemma =>
      have HS4:=qy.mk (HS3.out.sy i (wrap64 (rd y i - d)))
      have HT4:=qy.mk (HT3.out.far (b:=byy) (o:=i.toNat) (u:=.int .i64 (wrap64 (rd y i - d))) (.inl (by have:=HS3.out.ry.1 byy rfl;omega)))
      go_wp2_with fail
      refine start_ (n:=16) (S:=fun w'=>w'.cell? ⟨g,2,none⟩ = some (.slice (some ⟨byy,0,none⟩) s.y.length cy) ∧ w'.cell? ⟨byy,i.toNat,none⟩ = some (.int .i64 (rd y i))) (ds:=[15]) (Array.replicate 16 false) (by kernel_rfl) rfl rfl ⟨hc.2.2.1,gx1⟩ (fun hHeld=>?_)
      refine pa_ 0 40 (bz_ 16 1) ?_
      refine pa_ 1 41 (bz_ 16 3) ?_
      refine pa_ 2 42 (bz_ 16 7) ?_
      refine pa_ 4 44 (bz_ 16 23) ?_
      refine pa_ 5 45 (bz_ 16 55) ?_
      refine pa_ 6 46 (bz_ 16 119) ?_
      refine pa_ 7 47 (bz_ 16 247) ?_
      refine pa_ 9 49 (bz_ 16 759) ?_
      refine pa_ 12 52 (bz_ 16 4855) ?_
      refine ta_ 3 43 (bz_ 16 4863) hHeld (hy:=Or.inl ⟨by rfl,by rintro w' ⟨s0,s1⟩;go_simp;with_reducible rfl⟩) (h:=?_)
      refine ta_ 8 48 (bz_ 16 5119) hHeld (hy:=Or.inl ⟨by rfl,by rintro w' ⟨s0,s1⟩;go_simp;with_reducible rfl⟩) (h:=?_)
      refine pa_ 10 50 (bz_ 16 6143) ?_
      refine ta_ 11 51 (bz_ 16 8191) hHeld (hy:=Or.inl ⟨by rfl,by rintro w' ⟨s0,s1⟩;go_simp;with_reducible rfl⟩) (h:=?_)
      refine pa_ 13 53 (bz_ 16 16383) ?_
      refine pa_ 14 54 (bz_ 16 32767) ?_
      refine last_ (i:=15) (N:=none) (bz_ 16 65535) rfl rfl (by kernel_rfl) (by decide) (fun K hK=>?_)
      refine skip_ (w1:=?_) (by rfl) rfl ?_ ?_
      rotate_left
      ·go_simp
       rfl
      refine hK.out _ _ ?_
      clear hK K
      refine done_ (by kernel_rfl) ?_
      replace HS4:=qy.mk (HS4.out.to (qh (Below.refl _ _)))
      replace HT4:=qy.mk (HT4.out.to (qh (Below.refl _ _)))
      clear gx1 gf1 hc HS3 HT3 hHeld
      generalize World.drew _ = w9 at HS4 HT4 ⊢
      go_wp2_with fail
      go_roundg k1
      case measure=>omega
      case rel=>exact ⟨i + 1,_,by first|rfl|rw [hi1],⟨by have:=HI.out;omega,by have:=HI.out;omega,by have:=HIL.out;omega⟩,HY0,⟨by rw [List.length_set];exact HYL.out⟩,HS4,HT4⟩
    rw [if_neg c1] at h
    have cb1 : (rd t.lb A == 1) = false:=by simpa using c1
    by_cases c2 : rd t.lb A = 2
    ·rw [if_pos c2] at h
     have HY0:=qy.mk h
     have cb2 : (rd t.lb A == 2) = true:=by simpa using c2
     clear h c1 c2
     as_aux_lemma =>
      have HS4:=qy.mk (HS3.out.sy i (wrap64 (rd y i + d)))
      have HT4:=qy.mk (HT3.out.far (b:=byy) (o:=i.toNat) (u:=.int .i64 (wrap64 (rd y i + d))) (.inl (by have:=HS3.out.ry.1 byy rfl;omega)))
      go_wp2_with fail
      refine start_ (n:=16) (S:=fun w'=>w'.cell? ⟨g,2,none⟩ = some (.slice (some ⟨byy,0,none⟩) s.y.length cy) ∧ w'.cell? ⟨byy,i.toNat,none⟩ = some (.int .i64 (rd y i))) (ds:=[15]) (Array.replicate 16 false) (by kernel_rfl) rfl rfl ⟨hc.2.2.1,gx1⟩ (fun hHeld=>?_)
      refine pa_ 0 57 (bz_ 16 1) ?_
      refine pa_ 1 58 (bz_ 16 3) ?_
      refine pa_ 2 59 (bz_ 16 7) ?_
      refine pa_ 4 61 (bz_ 16 23) ?_
      refine pa_ 5 62 (bz_ 16 55) ?_
      refine pa_ 6 63 (bz_ 16 119) ?_
      refine pa_ 7 64 (bz_ 16 247) ?_
      refine pa_ 9 66 (bz_ 16 759) ?_
      refine pa_ 12 69 (bz_ 16 4855) ?_
      refine ta_ 3 60 (bz_ 16 4863) hHeld (hy:=Or.inl ⟨by rfl,by rintro w' ⟨s0,s1⟩;go_simp;with_reducible rfl⟩) (h:=?_)
      refine ta_ 8 65 (bz_ 16 5119) hHeld (hy:=Or.inl ⟨by rfl,by rintro w' ⟨s0,s1⟩;go_simp;with_reducible rfl⟩) (h:=?_)
      refine pa_ 10 67 (bz_ 16 6143) ?_
      refine ta_ 11 68 (bz_ 16 8191) hHeld (hy:=Or.inl ⟨by rfl,by rintro w' ⟨s0,s1⟩;go_simp;with_reducible rfl⟩) (h:=?_)
      refine pa_ 13 70 (bz_ 16 16383) ?_
      refine pa_ 14 71 (bz_ 16 32767) ?_
      refine last_ (i:=15) (N:=none) (bz_ 16 65535) rfl rfl (by kernel_rfl) (by decide) (fun K hK=>?_)
      refine skip_ (w1:=?_) (by rfl) rfl ?_ ?_
      rotate_left
      ·go_simp
       rfl
      refine hK.out _ _ ?_
      clear hK K
      refine done_ (by kernel_rfl) ?_
      replace HS4:=qy.mk (HS4.out.to (qh (Below.refl _ _)))
      replace HT4:=qy.mk (HT4.out.to (qh (Below.refl _ _)))
      clear gx1 gf1 hc HS3 HT3 hHeld
      generalize World.drew _ = w9 at HS4 HT4 ⊢
      go_wp2_with fail
      go_roundg k1
      case measure=>omega
      case rel=>exact ⟨i + 1,_,by first|rfl|rw [hi1],⟨by have:=HI.out;omega,by have:=HI.out;omega,by have:=HIL.out;omega⟩,HY0,⟨by rw [List.length_set];exact HYL.out⟩,HS4,HT4⟩
    rw [if_neg c2] at h
    have HY0:=qy.mk h
    have cb2 : (rd t.lb A == 2) = false:=by simpa using c2
    clear h c1 c2
    go_wp2_with fail
    go_roundg k1
    case measure=>omega
    case rel=>exact ⟨i + 1,y,by first|rfl|rw [hi1],⟨by have:=HI.out;omega,by have:=HI.out;omega,by have:=HIL.out;omega⟩,HY0,HYL,HS3,HT3⟩
   rw [if_neg c] at h
   subst h
   have cl0 : decide (i < N) = false:=decide_eq_false (by have:=HN.out;omega)
   clear c HI
   go_wp2_with fail
   obtain ⟨ZN,hZN⟩ : ∃ ZN,chZS t.lb d (s.nd.length + 1) N s.nd = ZN:=⟨_,rfl⟩
   have HZN:=qy.mk hZN
   have HZ0:=qy.mk hZN
   clear hZN
   as_aux_lemma =>
    go_loopg [7] (s.nd.length + 1) (fun kq v7 w'=>∃ (i : Int) (nd : List S55),v7 = .int .i64 i ∧ qy (0 ≤ i ∧ (s.nd.length : Int) < i + kq) ∧ qy (chZS t.lb d kq i nd = ZN) ∧ qy (nd.length = s.nd.length ∧ WFn (cvs nd)) ∧ qy (RnF w0 w' g N Ae ce es col (.slice Ay s.y.length cy) (.slice (some ⟨bn,0,none⟩) s.nd.length cn) vm { s with y:=y,nd:=nd }) ∧ qy (Tp w' w0.heap.size gt col (.slice Al t.lb.length cl) va vr t))
    case atStart=>exact ⟨_,s.nd,rfl,⟨by have:=HN.out;omega,by have:=HN.out;omega⟩,HZ0,⟨rfl,HW.out⟩,HS2,HT2⟩
    clear HZ0 HS2 HT2 hc
    obtain ⟨i,nd,rfl,HI,HZ0,HNL,HS2,HT2⟩:=hrel
    have h:=HZ0.out
    clear HZ0
    have hc:=HS2.out.cells
    have hct:=HT2.out.cells
    have h0:=HI.out
    by_cases c : i < (s.nd.length : Int)
    ·cases gk with
     | zero =>
      exfalso
      omega
     | succ k1 =>
      rw [chZS,HNL.out.1,if_pos c] at h
      have cl0 : decide (i < (s.nd.length : Int)) = true:=decide_eq_true c
      have hi1 : wrap64 (i + 1) = i + 1:=w64 (by omega) (by have:=HSZ.out;omega)
      have qn : i < (nd.length : Int):=by rw [HNL.out.1];exact c
      have HIN : qy (inR i nd.length):=⟨⟨h0.1,qn⟩⟩
      have HIL:=qy.mk (And.intro h0.1 c)
      have p:=h0.1
      obtain ⟨u0,u1,nx0,nx1,nx2,nx3,nx4,nx5,nf3,nf4,nf5,-,-⟩:=HS2.out.rows i p qn
      obtain ⟨al,e_,hli⟩:=Kd.at_int (Kd.R_reads' HT2.out.rl).2.2 i p (by rw [HL.out];exact c)
      subst e_
      have ql : (i < (t.lb.length : Int)) = True:=eq_true (by rw [HL.out];exact c)
      have HITC:=qy.mk (fun (b : Bool) (e : isTop5 (rd_T55 nd i) = b)=>l10IsTop_calls HS2.out i b HIN.out e)
      replace p:=eq_true p
      have q_:=eq_true c
      clear c h0 qn
      cases b1 : isTop5 (rd_T55 nd i) with
      | false =>
       rw [if_neg (by rw [b1];decide)] at h
       have HZ0:=qy.mk h
       have HIT:=qy.mk (HITC.out false b1)
       clear h b1 HITC
       go_wp2_with (first|(go_at_call 40;(with_reducible refine HIT.out.mono ?_);rintro e_ w2 ⟨rfl,h2⟩;replace h2:=h2.symm;subst h2))
       go_roundg k1
       case measure=>omega
       case rel=>exact ⟨i + 1,nd,by first|rfl|rw [hi1],⟨by have:=HI.out;omega,by have:=HI.out;omega⟩,HZ0,HNL,HS2,HT2⟩
      | true =>
       rw [if_pos b1] at h
       have HIT:=qy.mk (HITC.out true b1)
       clear b1 HITC
       by_cases c1 : rd t.lb i = 1
       ·rw [if_pos c1] at h
        have HZ0:=qy.mk h
        have cb1 : (rd t.lb i == 1) = true:=by simpa using c1
        clear h c1
        as_aux_lemma =>
         have HS4:=qy.mk (HS2.out.sn i HIL.out.1 HIN.out.2 3 (.int .i64 (wrap64 ((rd_T55 nd i).f3 + wrap64 (2 * d)))) { rd_T55 nd i with f3:=wrap64 ((rd_T55 nd i).f3 + wrap64 (2 * d)) } (by decide) (fun _ _=>rfl) ⟨rfl,rfl⟩)
         have HT4:=qy.mk (HT2.out.far (b:=bn) (o:=i.toNat * 6 + 3) (u:=.int .i64 (wrap64 ((rd_T55 nd i).f3 + wrap64 (2 * d)))) (.inl (by have:=HS2.out.rn.1 bn rfl;omega)))
         go_wp2_with (first|(go_at_call 40;(with_reducible refine HIT.out.mono ?_);rintro e_ w2 ⟨rfl,h2⟩;replace h2:=h2.symm;subst h2))
         refine start_ (n:=19) (S:=fun w'=>w'.cell? ⟨g,3,none⟩ = some (.slice (some ⟨bn,0,none⟩) s.nd.length cn) ∧ w'.cell? ⟨bn,i.toNat * 6 + 3,none⟩ = some (.int .i64 (rd_T55 nd i).f3)) (ds:=[18]) (Array.replicate 19 false) (by kernel_rfl) rfl rfl ⟨hc.2.2.2.1,nx3⟩ (fun hHeld=>?_)
         refine pa_ 0 99 (bz_ 19 1) ?_
         refine pa_ 1 100 (bz_ 19 3) ?_
         refine pa_ 2 101 (bz_ 19 7) ?_
         refine pa_ 4 103 (bz_ 19 23) ?_
         refine pa_ 5 104 (bz_ 19 55) ?_
         refine pa_ 6 105 (bz_ 19 119) ?_
         refine pa_ 7 106 (bz_ 19 247) ?_
         refine pa_ 9 108 (bz_ 19 759) ?_
         refine pa_ 13 112 (bz_ 19 8951) ?_
         refine pa_ 14 113 (bz_ 19 25335) ?_
         refine ta_ 3 102 (bz_ 19 25343) hHeld (hy:=Or.inl ⟨by rfl,by rintro w' ⟨s0,s1⟩;go_simp;with_reducible rfl⟩) (h:=?_)
         refine ta_ 8 107 (bz_ 19 25599) hHeld (hy:=Or.inl ⟨by rfl,by rintro w' ⟨s0,s1⟩;go_simp;with_reducible rfl⟩) (h:=?_)
         refine pa_ 10 109 (bz_ 19 26623) ?_
         refine pa_ 11 110 (bz_ 19 28671) ?_
         refine ta_ 12 111 (bz_ 19 32767) hHeld (hy:=Or.inl ⟨by rfl,by rintro w' ⟨s0,s1⟩;go_simp;with_reducible rfl⟩) (h:=?_)
         refine pa_ 15 114 (bz_ 19 65535) ?_
         refine pa_ 16 115 (bz_ 19 131071) ?_
         refine pa_ 17 116 (bz_ 19 262143) ?_
         refine last_ (i:=18) (N:=none) (bz_ 19 524287) rfl rfl (by kernel_rfl) (by decide) (fun K hK=>?_)
         refine skip_ (w1:=?_) (by rfl) rfl ?_ ?_
         rotate_left
         ·go_simp
          rfl
         refine hK.out _ _ ?_
         clear hK K
         refine done_ (by kernel_rfl) ?_
         replace HS4:=qy.mk (HS4.out.to (qh (Below.refl _ _)))
         replace HT4:=qy.mk (HT4.out.to (qh (Below.refl _ _)))
         clear nx0 nx1 nx2 nx3 nx4 nx5 nf3 nf4 nf5 hc hct HS2 HT2 hHeld
         generalize World.drew _ = w9 at HS4 HT4 ⊢
         go_wp2_with fail
         go_roundg k1
         case measure=>omega
         case rel=>exact ⟨i + 1,_,by first|rfl|rw [hi1],⟨by have:=HI.out;omega,by have:=HI.out;omega⟩,HZ0,⟨by rw [zAtS,List.length_set];exact HNL.out.1,wfn_zAtS HNL.out.2⟩,HS4,HT4⟩
       rw [if_neg c1] at h
       have cb1 : (rd t.lb i == 1) = false:=by simpa using c1
       by_cases c2 : rd t.lb i = 2
       ·rw [if_pos c2] at h
        have HZ0:=qy.mk h
        have cb2 : (rd t.lb i == 2) = true:=by simpa using c2
        clear h c1 c2
        as_aux_lemma =>
         have HS4:=qy.mk (HS2.out.sn i HIL.out.1 HIN.out.2 3 (.int .i64 (wrap64 ((rd_T55 nd i).f3 - wrap64 (2 * d)))) { rd_T55 nd i with f3:=wrap64 ((rd_T55 nd i).f3 - wrap64 (2 * d)) } (by decide) (fun _ _=>rfl) ⟨rfl,rfl⟩)
         have HT4:=qy.mk (HT2.out.far (b:=bn) (o:=i.toNat * 6 + 3) (u:=.int .i64 (wrap64 ((rd_T55 nd i).f3 - wrap64 (2 * d)))) (.inl (by have:=HS2.out.rn.1 bn rfl;omega)))
         go_wp2_with (first|(go_at_call 40;(with_reducible refine HIT.out.mono ?_);rintro e_ w2 ⟨rfl,h2⟩;replace h2:=h2.symm;subst h2))
         refine start_ (n:=19) (S:=fun w'=>w'.cell? ⟨g,3,none⟩ = some (.slice (some ⟨bn,0,none⟩) s.nd.length cn) ∧ w'.cell? ⟨bn,i.toNat * 6 + 3,none⟩ = some (.int .i64 (rd_T55 nd i).f3)) (ds:=[18]) (Array.replicate 19 false) (by kernel_rfl) rfl rfl ⟨hc.2.2.2.1,nx3⟩ (fun hHeld=>?_)
         refine pa_ 0 119 (bz_ 19 1) ?_
         refine pa_ 1 120 (bz_ 19 3) ?_
         refine pa_ 2 121 (bz_ 19 7) ?_
         refine pa_ 4 123 (bz_ 19 23) ?_
         refine pa_ 5 124 (bz_ 19 55) ?_
         refine pa_ 6 125 (bz_ 19 119) ?_
         refine pa_ 7 126 (bz_ 19 247) ?_
         refine pa_ 9 128 (bz_ 19 759) ?_
         refine pa_ 13 132 (bz_ 19 8951) ?_
         refine pa_ 14 133 (bz_ 19 25335) ?_
         refine ta_ 3 122 (bz_ 19 25343) hHeld (hy:=Or.inl ⟨by rfl,by rintro w' ⟨s0,s1⟩;go_simp;with_reducible rfl⟩) (h:=?_)
         refine ta_ 8 127 (bz_ 19 25599) hHeld (hy:=Or.inl ⟨by rfl,by rintro w' ⟨s0,s1⟩;go_simp;with_reducible rfl⟩) (h:=?_)
         refine pa_ 10 129 (bz_ 19 26623) ?_
         refine pa_ 11 130 (bz_ 19 28671) ?_
         refine ta_ 12 131 (bz_ 19 32767) hHeld (hy:=Or.inl ⟨by rfl,by rintro w' ⟨s0,s1⟩;go_simp;with_reducible rfl⟩) (h:=?_)
         refine pa_ 15 134 (bz_ 19 65535) ?_
         refine pa_ 16 135 (bz_ 19 131071) ?_
         refine pa_ 17 136 (bz_ 19 262143) ?_
         refine last_ (i:=18) (N:=none) (bz_ 19 524287) rfl rfl (by kernel_rfl) (by decide) (fun K hK=>?_)
         refine skip_ (w1:=?_) (by rfl) rfl ?_ ?_
         rotate_left
         ·go_simp
          rfl
         refine hK.out _ _ ?_
         clear hK K
         refine done_ (by kernel_rfl) ?_
         replace HS4:=qy.mk (HS4.out.to (qh (Below.refl _ _)))
         replace HT4:=qy.mk (HT4.out.to (qh (Below.refl _ _)))
         clear nx0 nx1 nx2 nx3 nx4 nx5 nf3 nf4 nf5 hc hct HS2 HT2 hHeld
         generalize World.drew _ = w9 at HS4 HT4 ⊢
         go_wp2_with fail
         go_roundg k1
         case measure=>omega
         case rel=>exact ⟨i + 1,_,by first|rfl|rw [hi1],⟨by have:=HI.out;omega,by have:=HI.out;omega⟩,HZ0,⟨by rw [zAtS,List.length_set];exact HNL.out.1,wfn_zAtS HNL.out.2⟩,HS4,HT4⟩
       rw [if_neg c2] at h
       have HZ0:=qy.mk h
       have cb2 : (rd t.lb i == 2) = false:=by simpa using c2
       clear h c1 c2
       go_wp2_with (first|(go_at_call 40;(with_reducible refine HIT.out.mono ?_);rintro e_ w2 ⟨rfl,h2⟩;replace h2:=h2.symm;subst h2))
       go_roundg k1
       case measure=>omega
       case rel=>exact ⟨i + 1,nd,by first|rfl|rw [hi1],⟨by have:=HI.out;omega,by have:=HI.out;omega⟩,HZ0,HNL,HS2,HT2⟩
    have cl0 : decide (i < (s.nd.length : Int)) = false:=decide_eq_false c
    have h2 : nd = ZN:=by
     cases gk with
     | zero=>rw [chZS] at h;exact h
     | succ k1=>rw [chZS,HNL.out.1,if_neg c] at h;exact h
    have HCH : qy (chgS N es s t.lb = { s with y:=y,nd:=nd }):=⟨by rw [chgS,HD.out,HYN.out,HZN.out,h2]⟩
    clear c h0 h h2
    as_aux_lemma =>
     by_cases c3 : Y = d
     ·have hr:=HRR.out
      rw [adjustS,HD.out,if_neg (show ¬d < 0 by have:=HC0.out;omega),HYY.out,if_pos c3,HCH.out] at hr
      subst hr
      have cb3 : (Y == d) = true:=by simpa using c3
      have HF2:=qy.mk (HS2.out.fd true)
      have hf6:=HS2.out.frz.2.2.2.2
      clear c3
      go_wp2_with fail
      first|go_end0|((try simp only [Exit.inBlock,Exit.then]);refine bodyPost_ret (results_none rfl _ _ _) rfl ?_)
      exact ⟨rfl,HF2.out.is⟩
     have cb3 : (Y == d) = false:=by simpa using c3
     have hr:=HRR.out
     rw [adjustS,HD.out,if_neg (show ¬d < 0 by have:=HC0.out;omega),HYY.out,if_neg c3] at hr
     obtain ⟨q,hq⟩ : ∃ q,frsS N es s t.lb = q:=⟨_,rfl⟩
     have hU:=HU.out (by rw [HD.out];have:=HC0.out;omega)
     rw [hq,HCH.out] at hr hU
     have hq2:=hq
     rw [frsS,HCH.out] at hq2
     have HFC:=qy.mk (l10First_calls HS2.out HNL.out.2 (by have:=HN.out;omega) (by show nd.length ≤ 1000000;rw [HNL.out.1];exact HSZ.out) Al cl t.lb (Kd.R_reads' HT2.out.rl).2.2 (Kd.R_reads' HT2.out.rl).2.1 2 q (.inr ⟨by intro e;have h1:=HL.out;rw [e] at h1;simp at h1;omega,by show t.lb.length = nd.length;rw [HNL.out.1];exact HL.out,rfl⟩) (by show firstF (cvs nd) t.lb 2 (nd.length + 1) N = q;rw [HNL.out.1];exact hq2))
     by_cases c4 : q = -1
     ·rw [if_pos c4] at hr
      subst hr
      have cb4 : decide (q ≥ 0) = false:=decide_eq_false (by omega)
      clear c3 c4 hq hq2 hU
      go_wp2_with (first|(go_at_call 43;refine HFC.out.mono ?_;rintro e_ w2 ⟨rfl,h2⟩;replace h2:=h2.symm;subst h2))
      first|go_end0|((try simp only [Exit.inBlock,Exit.then]);refine bodyPost_ret (results_none rfl _ _ _) rfl ?_)
      exact ⟨rfl,HS2.out.is⟩
     rw [if_neg c4] at hr
     subst hr
     have hU:=qy.mk (hU c4)
     have hq0 : 0 ≤ q:=by
      rcases firstF_in (nd:=cvs nd) (lb:=t.lb) (label:=2) (s.nd.length + 1) N (by have:=HN.out;omega) with h|h
      ·exact absurd (hq2.symm.trans h) c4
      rw [hq2] at h;exact h.1
     have cb4 : decide (q ≥ 0) = true:=decide_eq_true hq0
     clear c3 c4 hq hq2 hq0
     go_wp2_with (first|(go_at_call 43;refine HFC.out.mono ?_;rintro e_ w2 ⟨rfl,h2⟩;replace h2:=h2.symm;subst h2)|(go_at_call 44;refine (l10Open_calls HS2.out HNL.out.2 hU.out.m hU.out.sz q hU.out.ni hU.out.b hU.out.mem hU.out.pos hU.out.lk hU.out.szf).mono ?_;rintro e_ w7 ⟨rfl,col7,vm7,hs,-⟩;have HS7:=qy.mk hs;clear hs))
     first|go_end0|((try simp only [Exit.inBlock,Exit.then]);refine bodyPost_ret (results_none rfl _ _ _) rfl ?_)
     exact ⟨rfl,HS7.out.is⟩
end Go.Proofs.Ytnffimpoekjkpaa.QFnExactRounds
