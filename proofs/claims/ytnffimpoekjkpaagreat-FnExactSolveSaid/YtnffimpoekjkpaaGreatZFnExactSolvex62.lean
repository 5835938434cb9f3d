import Derived.Test.YtnffimpoekjkpaaGreatZFnExactSolvex61
import Derived.Test.YtnffimpoekjkpaaGreatZFnExactSolvex59
set_option linter.all false
namespace Go.Proofs.YtnffimpoekjkpaaGreat.QFnExactSolve
open Go.RowKit Go.Proofs.YtnffimpoekjkpaaGreatW.PrintWords Go.Proofs.YtnffimpoekjkpaaGreatW.PrintLast Go.Proofs.YtnffimpoekjkpaaGreatW.PrintMore
set_option maxHeartbeats 8000000
set_option maxRecDepth 100000
attribute [local go_sem] Od' Pd' Xd' Yd' Jd' Kd' Qd' Rd'
def Qi' (nd : List S89) (lb : List Int) (d : Int) : Nat → Int → List Int → List Int
 | 0,_,y=>y
 | k + 1,i,y =>
  if i < (y.length : Int) then
   Qi' nd lb d k (i + 1) (if rd lb (topI nd i) = 1 then y.set i.toNat (wrap64 (rd y i - d)) else if rd lb (topI nd i) = 2 then y.set i.toNat (wrap64 (rd y i + d)) else y)
  else y
def Vf' (nd : List S77) (n z : Int) : List S77:=nd.set n.toNat { wd' nd n with f3:=z }
def tg' (lb : List Int) (d : Int) : Nat → Int → List S77 → List S77
 | 0,_,nd=>nd
 | k + 1,i,nd =>
  if i < (nd.length : Int) then
   tg' lb d k (i + 1) (if Ce' (wd' nd i) = true then (if rd lb i = 1 then Vf' nd i (wrap64 ((wd' nd i).f3 + wrap64 (2 * d))) else if rd lb i = 2 then Vf' nd i (wrap64 ((wd' nd i).f3 - wrap64 (2 * d))) else nd) else nd)
  else nd
def ji' (N : Int) (es : List S73) (s : RI) (lb : List Int) : RI :=
 { s with y:=Qi' (cvs s.nd) lb (hf' N es s lb).1 (s.y.length + 1) 0 s.y,nd:=tg' lb (hf' N es s lb).1 (s.nd.length + 1) N s.nd }
def Hh' (N : Int) (es : List S73) (s : RI) (lb : List Int) : Int:=Zd' (cvs (ji' N es s lb).nd) lb 2 (s.nd.length + 1) N
def vf' (N : Int) (es : List S73) (s : RI) (lb : List Int) : RI :=
 if (hf' N es s lb).1 < 0 then { s with dn:=true }
 else if (hf' N es s lb).2 = (hf' N es s lb).1 then { ji' N es s lb with dn:=true }
 else if Hh' N es s lb = -1 then ji' N es s lb
 else nf' (ji' N es s lb) (Hh' N es s lb)
theorem rq' {nd : List S77} {i z : Int} (j : Int) : (wd' (Vf' nd i z) j).f4 = (wd' nd j).f4 ∧ (wd' (Vf' nd i z) j).f5 = (wd' nd j).f5:=by
 unfold Vf' wd'
 simp only [List.getD_eq_getElem?_getD,List.getElem?_set]
 by_cases c : i.toNat = j.toNat
 ·rw [if_pos c]
  split
  ·rw [c];exact ⟨rfl,rfl⟩
  rename_i h
  rw [List.getElem?_eq_none aa']
  exact ⟨rfl,rfl⟩
 rw [if_neg c]
 exact ⟨rfl,rfl⟩
theorem Hm' {nd : List S77} {i z : Int} (hw : WFn (cvs nd)) : WFn (cvs (Vf' nd i z)):=by
 intro j hj
 rw [Hd',Vf',List.length_set,← Hd'] at hj
 have h:=hw j hj
 rw [Ef'] at h ⊢
 rw [Hd'] at h
 rw [Hd',Vf',List.length_set,← Vf']
 change (wd' (Vf' nd i z) j).f4 = -1 ∨ _ < (wd' (Vf' nd i z) j).f4 ∧ (wd' (Vf' nd i z) j).f4 < _
 rw [(rq' j).1]
 exact h
theorem Qk' {w0 W : World} {Z : Nat → Prop} {wz : World} {g : Nat} {N : Int} {Ae : Option Addr} {ce : Nat} {es : List (S73)} {col : Nat → Nat} {vy vn vm : Value} {s : RI} (hS : Rn w0 W Z wz g N Ae ce es col vy vn vm s) {gt : Nat} {vl va vr : Value} {t : TI} (hT : Tp W w0.heap.size gt col vl va vr t) (hw : WFn (cvs s.nd)) (hsz : s.nd.length ≤ 1000000) (ho : EOk es s.nd.length) (hoy : EOk es s.y.length) (hN : N = s.y.length) (hNn : N ≤ s.nd.length) (hl : t.lb.length = s.nd.length)
  (hp : 0 ≤ (hf' N es s t.lb).1 → 0 < s.nd.length) (hU : 0 ≤ (hf' N es s t.lb).1 → Hh' N es s t.lb ≠ -1 → Ei' (ji' N es s t.lb) (Hh' N es s t.lb)) :
  Calls Tryz.prog 58 #[.pointer (some ⟨g,0,none⟩),.pointer (some ⟨gt,0,none⟩)] W fun e w'=>e = .returned (.tuple #[]) ∧ Gh' w0 w' g N Ae ce es (vf' N es s t.lb):=by
 have hS' : RnF w0 W g N Ae ce es col vy vn vm s:=⟨hS.blk,hS.ge,hS.hb,hS.he,hS.hec,hS.ry,hS.rn,hS.rm,fun _ h=>h.elim⟩
 clear hS
 have hS:=hS'
 clear hS'
 have hu51:=Tryz.underlying51
 have hu77:=Tryz.underlying77
 have hu56:=Tryz.underlying56
 have hu73:=Tryz.underlying73
 have hu35:=Tryz.underlying35
 have HS:=qz.mk hS
 clear hS
 have hu27:=Tryz.underlying27
 have hu48:=Tryz.underlying48
 have hu102:=Tryz.underlying102
 have HTP:=qz.mk hT
 have HW:=qz.mk hw
 have HSZ:=qz.mk hsz
 have HE:=qz.mk (And.intro ho hoy)
 have HN:=qz.mk (And.intro hN hNn)
 have HL:=qz.mk hl
 have HSTC:=qz.mk (im' HS.o hT hw hsz ho hoy hN hNn hl)
 obtain ⟨d,hd⟩ : ∃ d,(hf' N es s t.lb).1 = d:=⟨_,rfl⟩
 obtain ⟨Y,hY⟩ : ∃ Y,(hf' N es s t.lb).2 = Y:=⟨_,rfl⟩
 rw [hd,hY] at HSTC
 have HD:=qz.mk hd
 have HYY:=qz.mk hY
 have HU:=qz.mk hU
 rw [hd] at hp
 obtain ⟨Al,cl,e_⟩:=Kd.R_slice HTP.o.rl
 subst e_
 obtain ⟨RR,hRR⟩ : ∃ RR,vf' N es s t.lb = RR:=⟨_,rfl⟩
 have HRR:=qz.mk hRR
 rw [hRR]
 clear hT hw hsz ho hoy hN hNn hl hU hd hY hRR
 go_enter Tryz.func58,Tryz.ntmps58
 by_cases c0 : d < 0
 ·have hr:=HRR.o
  rw [vf',HD.o,if_pos c0] at hr
  subst hr
  have cb : decide (d < 0) = true:=decide_eq_true c0
  clear c0 hp
  as_aux_lemma =>
   go_upto_region 2 with (first|(go_at_call 77;refine HSTC.o.mono ?_;rintro e_ w2 ⟨rfl,hb⟩;have HS2:=qz.mk (HS.o.to hb);have HF2:=qz.mk (HS2.o.fd true);have hc:=HS2.o.cells;have hf6:=HS2.o.frz.2.2.2.2;clear hb))
   go_wp2_with fail
   first|go_end0|((try simp only [Exit.inBlock,Exit.then]);refine bodyPost_ret (results_none rfl _ _ _) rfl ?_)
   exact ⟨rfl,HF2.o.is⟩
 have hp0:=hp aa'
 have cb : decide (d < 0) = false:=decide_eq_false c0
 have HC0:=qz.mk c0
 obtain ⟨bn,cn,e_,-⟩:=fe' HS.o.rn hp0
 subst e_
 clear c0 hp
 go_wp2_with (first|(go_at_call 77;refine HSTC.o.mono ?_;rintro e_ w2 ⟨rfl,hb⟩;have HS2:=qz.mk (HS.o.to hb);have HT2:=qz.mk (HTP.o.to hb);clear hb))
 clear HSTC HS HTP
 obtain ⟨Ay,cy,e_⟩:=Kd.R_slice HS2.o.ry
 subst e_
 obtain ⟨YN,hYN⟩ : ∃ YN,Qi' (cvs s.nd) t.lb d (s.y.length + 1) 0 s.y = YN:=⟨_,rfl⟩
 have HYN:=qz.mk hYN
 have HY0:=qz.mk hYN
 clear hYN
 as_aux_lemma =>
  go_loopg [6] (s.y.length + 1) (fun kq v6 w'=>∃ (i : Int) (y : List Int),v6 = .int .i64 i ∧ qz (0 ≤ i ∧ i + kq = s.y.length + 1 ∧ i ≤ s.y.length) ∧ qz (Qi' (cvs s.nd) t.lb d kq i y = YN) ∧ qz (y.length = s.y.length) ∧ qz (RnF w0 w' g N Ae ce es col (.slice Ay s.y.length cy) (.slice (some ⟨bn,0,none⟩) s.nd.length cn) vm { s with y:=y }) ∧ qz (Tp w' w0.heap.size gt col (.slice Al t.lb.length cl) va vr t))
  case atStart=>exact ⟨0,s.y,rfl,⟨aa',aa',aa'⟩,HY0,⟨rfl⟩,HS2,HT2⟩
  clear HY0 HS2 HT2
  obtain ⟨i,y,rfl,HI,HY0,HYL,HS2,HT2⟩:=hrel
  have h:=HY0.o
  clear HY0
  have hc:=HS2.o.cells
  cases gk with
  | zero =>
   exfalso
   have h1:=HI.o
   omega
  | succ k1 =>
   rw [Qi',HYL.o] at h
   by_cases c : i < (s.y.length : Int)
   ·rw [if_pos c] at h
    have hi:=HI.o
    have HIL:=qz.mk (And.intro hi.1 c)
    have cl0 : decide (i < N) = true:=decide_eq_true sa'
    have hi1 : wrap64 (i + 1) = i + 1:=w64 aa' (by have:=HN.o;have:=HSZ.o;omega)
    have HIN : qz (inR i s.nd.length):=⟨⟨hi.1,sa'⟩⟩
    obtain ⟨A,hA⟩ : ∃ A,topI (cvs s.nd) i = A:=⟨_,rfl⟩
    have HAI:=qz.mk (Nd' HW.o (by rw [Hd'];exact HIN.o))
    rw [hA,Hd'] at HAI
    rw [hA] at h
    have HTOP:=qz.mk (fun (W' : World) (hh : RnF w0 W' g N Ae ce es col (.slice Ay s.y.length cy) (.slice (some ⟨bn,0,none⟩) s.nd.length cn) vm { s with y:=y })=>Sg' hh i HW.o HIN.o)
    simp only [hA] at HTOP
    have HT1:=HT2
    obtain ⟨al,e_,hlA⟩:=Kd.at_int (Kd.R_reads' HT1.o.rl).2.2 A HAI.o.1 Yb'
    subst e_
    have hp1 : 0 < y.length:=by rw [HYL.o];omega
    obtain ⟨byy,_,e_,-⟩:=fe' HS2.o.ry hp1
    injection e_ with e_ e2_ e3_
    clear e2_ e3_
    subst e_
    have pA:=eq_true HAI.o.1
    have qA : (A < (t.lb.length : Int)) = True:=eq_true Yb'
    have pi:=eq_true hi.1
    have qi:=eq_true c
    have HBr : qz (Below wr.heap.size wr wr):=⟨Below.refl _ _⟩
    clear hA c hi hp1
    go_wp2_with fail
    refine Md' (n:=9) (S:=fun w'=>w'.cell? ⟨gt,0,none⟩ = some (.slice (some al) t.lb.length cl) ∧ w'.cell? (al.add A.toNat) = some (.int .i64 (rd t.lb A))) (ds:=[]) (Array.replicate 9 false) da' rfl rfl ⟨HT1.o.cells.1,hlA⟩ (fun hHeld=>?_)
    refine pa_ 0 29 (bz_ 9 1) ?_
    refine pa_ 1 30 (bz_ 9 3) ?_
    refine pa_ 2 31 (bz_ 9 7) ?_
    refine pa_ 4 33 (bz_ 9 23) ?_
    refine pa_ 5 34 (bz_ 9 55) ?_
    refine ta_ 3 32 (bz_ 9 63) hHeld (hy:=Or.inl ⟨ca',ja'⟩) (h:=?_)
    refine Td' (i:=6) (N:=some 35) (bz_ 9 127) rfl rfl da' ba' (fun K hK=>?_)
    refine goes_ Tryz.func59 da' rfl #[.pointer (some ⟨g,0,none⟩),.int .i64 i] ca' rfl rfl xa' ?_
    refine (HTOP.o _ (HS2.o.to (qh (Below.refl _ _)))).mono ?_
    rintro e_ wc1 ⟨rfl,hb⟩
    have HB2:=qz.mk (qy (qy HBr.o (qh (Below.refl _ _))) hb)
    refine ⟨_,rfl,?_⟩
    refine hK.out _ _ ⟨vd' hb hHeld.1,vd' hb hHeld.2⟩ (fun hHeld=>?_)
    clear hK K
    refine zd' (a':=?_) ?_ ?_
    rotate_left
    ·show Act.put _ (some 35) _ = _
     simp only [Act.put,List.setIfInBounds_toArray,List.set_cons_zero,List.set_cons_succ,Bd',Cd']
     rfl
    refine pa_ 7 36 (bz_ 9 255) ?_
    refine ta_ 8 37 (bz_ 9 511) hHeld (hy:=Or.inl ⟨ca',ja'⟩) (h:=?_)
    refine Wd' da' ?_
    clear hHeld HTOP hc HT1 HBr hlA
    have HS3:=qz.mk (HS2.o.to HB2.o)
    have HT3:=qz.mk (HT2.o.to HB2.o)
    clear HS2 HT2 HB2
    have hc:=HS3.o.cells
    have qiy : i < (y.length : Int):=by rw [HYL.o];exact HIL.o.2
    obtain ⟨gx1,gf1⟩:=Gd' HS3.o.ry i HIL.o.1 qiy
    by_cases c1 : rd t.lb A = 1
    ·rw [if_pos c1] at h
     have HY0:=qz.mk h
     have cb1 : (rd t.lb A == 1) = true:=by simpa using c1
     clear h c1
     as_aux_lemma =>
      have HS4:=qz.mk (HS3.o.sy i (wrap64 (rd y i - d)))
      have HT4:=qz.mk (HT3.o.far (b:=byy) (o:=i.toNat) (u:=.int .i64 (wrap64 (rd y i - d))) (.inl (by have:=HS3.o.ry.1 byy rfl;omega)))
      go_wp2_with fail
      refine Md' (n:=16) (S:=fun w'=>w'.cell? ⟨g,2,none⟩ = some (.slice (some ⟨byy,0,none⟩) s.y.length cy) ∧ w'.cell? ⟨byy,i.toNat,none⟩ = some (.int .i64 (rd y i))) (ds:=[15]) (Array.replicate 16 false) da' rfl rfl ⟨hc.2.2.1,gx1⟩ (fun hHeld=>?_)
      refine pa_ 0 40 (bz_ 16 1) ?_
      refine pa_ 1 41 (bz_ 16 3) ?_
      refine pa_ 2 42 (bz_ 16 7) ?_
      refine pa_ 4 44 (bz_ 16 23) ?_
      refine pa_ 5 45 (bz_ 16 55) ?_
      refine pa_ 6 46 (bz_ 16 119) ?_
      refine pa_ 7 47 (bz_ 16 247) ?_
      refine pa_ 9 49 (bz_ 16 759) ?_
      refine pa_ 12 52 (bz_ 16 4855) ?_
      refine ta_ 3 43 (bz_ 16 4863) hHeld (hy:=Or.inl ⟨ca',ja'⟩) (h:=?_)
      refine ta_ 8 48 (bz_ 16 5119) hHeld (hy:=Or.inl ⟨ca',ja'⟩) (h:=?_)
      refine pa_ 10 50 (bz_ 16 6143) ?_
      refine ta_ 11 51 (bz_ 16 8191) hHeld (hy:=Or.inl ⟨ca',ja'⟩) (h:=?_)
      refine pa_ 13 53 (bz_ 16 16383) ?_
      refine pa_ 14 54 (bz_ 16 32767) ?_
      refine de' (i:=15) (N:=none) (bz_ 16 65535) rfl rfl da' ba' (fun K hK=>?_)
      refine Id' (w1:=?_) ca' rfl ?_ ?_
      rotate_left
      ·go_simp
       rfl
      refine hK.out _ _ ?_
      clear hK K
      refine Wd' da' ?_
      replace HS4:=qz.mk (HS4.o.to (qh (Below.refl _ _)))
      replace HT4:=qz.mk (HT4.o.to (qh (Below.refl _ _)))
      clear gx1 gf1 hc HS3 HT3 hHeld
      generalize World.drew _ = w9 at HS4 HT4 ⊢
      go_wp2_with fail
      go_roundg k1
      case measure=>omega
      case rel=>exact ⟨i + 1,_,la',⟨fa',fa',ga'⟩,HY0,⟨by rw [List.length_set];exact HYL.o⟩,HS4,HT4⟩
    rw [if_neg c1] at h
    have cb1 : (rd t.lb A == 1) = false:=by simpa using c1
    by_cases c2 : rd t.lb A = 2
    ·rw [if_pos c2] at h
     have HY0:=qz.mk h
     have cb2 : (rd t.lb A == 2) = true:=by simpa using c2
     clear h c1 c2
     as_aux_lemma =>
      have HS4:=qz.mk (HS3.o.sy i (wrap64 (rd y i + d)))
      have HT4:=qz.mk (HT3.o.far (b:=byy) (o:=i.toNat) (u:=.int .i64 (wrap64 (rd y i + d))) (.inl (by have:=HS3.o.ry.1 byy rfl;omega)))
      go_wp2_with fail
      refine Md' (n:=16) (S:=fun w'=>w'.cell? ⟨g,2,none⟩ = some (.slice (some ⟨byy,0,none⟩) s.y.length cy) ∧ w'.cell? ⟨byy,i.toNat,none⟩ = some (.int .i64 (rd y i))) (ds:=[15]) (Array.replicate 16 false) da' rfl rfl ⟨hc.2.2.1,gx1⟩ (fun hHeld=>?_)
      refine pa_ 0 57 (bz_ 16 1) ?_
      refine pa_ 1 58 (bz_ 16 3) ?_
      refine pa_ 2 59 (bz_ 16 7) ?_
      refine pa_ 4 61 (bz_ 16 23) ?_
      refine pa_ 5 62 (bz_ 16 55) ?_
      refine pa_ 6 63 (bz_ 16 119) ?_
      refine pa_ 7 64 (bz_ 16 247) ?_
      refine pa_ 9 66 (bz_ 16 759) ?_
      refine pa_ 12 69 (bz_ 16 4855) ?_
      refine ta_ 3 60 (bz_ 16 4863) hHeld (hy:=Or.inl ⟨ca',ja'⟩) (h:=?_)
      refine ta_ 8 65 (bz_ 16 5119) hHeld (hy:=Or.inl ⟨ca',ja'⟩) (h:=?_)
      refine pa_ 10 67 (bz_ 16 6143) ?_
      refine ta_ 11 68 (bz_ 16 8191) hHeld (hy:=Or.inl ⟨ca',ja'⟩) (h:=?_)
      refine pa_ 13 70 (bz_ 16 16383) ?_
      refine pa_ 14 71 (bz_ 16 32767) ?_
      refine de' (i:=15) (N:=none) (bz_ 16 65535) rfl rfl da' ba' (fun K hK=>?_)
      refine Id' (w1:=?_) ca' rfl ?_ ?_
      rotate_left
      ·go_simp
       rfl
      refine hK.out _ _ ?_
      clear hK K
      refine Wd' da' ?_
      replace HS4:=qz.mk (HS4.o.to (qh (Below.refl _ _)))
      replace HT4:=qz.mk (HT4.o.to (qh (Below.refl _ _)))
      clear gx1 gf1 hc HS3 HT3 hHeld
      generalize World.drew _ = w9 at HS4 HT4 ⊢
      go_wp2_with fail
      go_roundg k1
      case measure=>omega
      case rel=>exact ⟨i + 1,_,la',⟨fa',fa',ga'⟩,HY0,⟨by rw [List.length_set];exact HYL.o⟩,HS4,HT4⟩
    rw [if_neg c2] at h
    have HY0:=qz.mk h
    have cb2 : (rd t.lb A == 2) = false:=by simpa using c2
    clear h c1 c2
    go_wp2_with fail
    go_roundg k1
    case measure=>omega
    case rel=>exact ⟨i + 1,y,la',⟨fa',fa',ga'⟩,HY0,HYL,HS3,HT3⟩
   rw [if_neg c] at h
   subst h
   have cl0 : decide (i < N) = false:=decide_eq_false sa'
   clear c HI
   go_wp2_with fail
   obtain ⟨ZN,hZN⟩ : ∃ ZN,tg' t.lb d (s.nd.length + 1) N s.nd = ZN:=⟨_,rfl⟩
   have HZN:=qz.mk hZN
   have HZ0:=qz.mk hZN
   clear hZN
   as_aux_lemma =>
    go_loopg [7] (s.nd.length + 1) (fun kq v7 w'=>∃ (i : Int) (nd : List S77),v7 = .int .i64 i ∧ qz (0 ≤ i ∧ (s.nd.length : Int) < i + kq) ∧ qz (tg' t.lb d kq i nd = ZN) ∧ qz (nd.length = s.nd.length ∧ WFn (cvs nd)) ∧ qz (RnF w0 w' g N Ae ce es col (.slice Ay s.y.length cy) (.slice (some ⟨bn,0,none⟩) s.nd.length cn) vm { s with y:=y,nd:=nd }) ∧ qz (Tp w' w0.heap.size gt col (.slice Al t.lb.length cl) va vr t))
    case atStart=>exact ⟨_,s.nd,rfl,⟨sa',sa'⟩,HZ0,⟨rfl,HW.o⟩,HS2,HT2⟩
    clear HZ0 HS2 HT2 hc
    obtain ⟨i,nd,rfl,HI,HZ0,HNL,HS2,HT2⟩:=hrel
    have h:=HZ0.o
    clear HZ0
    have hc:=HS2.o.cells
    have hct:=HT2.o.cells
    have h0:=HI.o
    by_cases c : i < (s.nd.length : Int)
    ·cases gk with
     | zero =>
      exfalso
      omega
     | succ k1 =>
      rw [tg',HNL.o.1,if_pos c] at h
      have cl0 : decide (i < (s.nd.length : Int)) = true:=decide_eq_true c
      have hi1 : wrap64 (i + 1) = i + 1:=w64 aa' jb'
      have qn : i < (nd.length : Int):=by rw [HNL.o.1];exact c
      have HIN : qz (inR i nd.length):=⟨⟨h0.1,qn⟩⟩
      have HIL:=qz.mk (And.intro h0.1 c)
      have p:=h0.1
      obtain ⟨u0,u1,nx0,nx1,nx2,nx3,nx4,nx5,nf3,nf4,nf5,-,-⟩:=HS2.o.rows i p qn
      obtain ⟨al,e_,hli⟩:=Kd.at_int (Kd.R_reads' HT2.o.rl).2.2 i p Sb'
      subst e_
      have ql : (i < (t.lb.length : Int)) = True:=eq_true Sb'
      have HITC:=qz.mk (fun (b : Bool) (e : Ce' (wd' nd i) = b)=>ne' HS2.o i b HIN.o e)
      replace p:=eq_true p
      have q_:=eq_true c
      clear c h0 qn
      cases b1 : Ce' (wd' nd i) with
      | false =>
       rw [if_neg (by rw [b1];decide)] at h
       have HZ0:=qz.mk h
       have HIT:=qz.mk (HITC.o false b1)
       clear h b1 HITC
       go_wp2_with (first|(go_at_call 20;(with_reducible refine HIT.o.mono ?_);rintro e_ w2 ⟨rfl,h2⟩;replace h2:=h2.symm;subst h2))
       go_roundg k1
       case measure=>omega
       case rel=>exact ⟨i + 1,nd,la',⟨fa',fa'⟩,HZ0,HNL,HS2,HT2⟩
      | true =>
       rw [if_pos b1] at h
       have HIT:=qz.mk (HITC.o true b1)
       clear b1 HITC
       by_cases c1 : rd t.lb i = 1
       ·rw [if_pos c1] at h
        have HZ0:=qz.mk h
        have cb1 : (rd t.lb i == 1) = true:=by simpa using c1
        clear h c1
        as_aux_lemma =>
         have HS4:=qz.mk (HS2.o.sn i HIL.o.1 HIN.o.2 3 (.int .i64 (wrap64 ((wd' nd i).f3 + wrap64 (2 * d)))) { wd' nd i with f3:=wrap64 ((wd' nd i).f3 + wrap64 (2 * d)) } ba' (fun _ _=>rfl) ⟨rfl,rfl⟩)
         have HT4:=qz.mk (HT2.o.far (b:=bn) (o:=i.toNat * 6 + 3) (u:=.int .i64 (wrap64 ((wd' nd i).f3 + wrap64 (2 * d)))) (.inl (by have:=HS2.o.rn.1 bn rfl;omega)))
         go_wp2_with (first|(go_at_call 20;(with_reducible refine HIT.o.mono ?_);rintro e_ w2 ⟨rfl,h2⟩;replace h2:=h2.symm;subst h2))
         refine Md' (n:=19) (S:=fun w'=>w'.cell? ⟨g,3,none⟩ = some (.slice (some ⟨bn,0,none⟩) s.nd.length cn) ∧ w'.cell? ⟨bn,i.toNat * 6 + 3,none⟩ = some (.int .i64 (wd' nd i).f3)) (ds:=[18]) (Array.replicate 19 false) da' rfl rfl ⟨hc.2.2.2.1,nx3⟩ (fun hHeld=>?_)
         refine pa_ 0 99 (bz_ 19 1) ?_
         refine pa_ 1 100 (bz_ 19 3) ?_
         refine pa_ 2 101 (bz_ 19 7) ?_
         refine pa_ 4 103 (bz_ 19 23) ?_
         refine pa_ 5 104 (bz_ 19 55) ?_
         refine pa_ 6 105 (bz_ 19 119) ?_
         refine pa_ 7 106 (bz_ 19 247) ?_
         refine pa_ 9 108 (bz_ 19 759) ?_
         refine pa_ 13 112 (bz_ 19 8951) ?_
         refine pa_ 14 113 (bz_ 19 25335) ?_
         refine ta_ 3 102 (bz_ 19 25343) hHeld (hy:=Or.inl ⟨ca',ja'⟩) (h:=?_)
         refine ta_ 8 107 (bz_ 19 25599) hHeld (hy:=Or.inl ⟨ca',ja'⟩) (h:=?_)
         refine pa_ 10 109 (bz_ 19 26623) ?_
         refine pa_ 11 110 (bz_ 19 28671) ?_
         refine ta_ 12 111 (bz_ 19 32767) hHeld (hy:=Or.inl ⟨ca',ja'⟩) (h:=?_)
         refine pa_ 15 114 (bz_ 19 65535) ?_
         refine pa_ 16 115 (bz_ 19 131071) ?_
         refine pa_ 17 116 (bz_ 19 262143) ?_
         refine de' (i:=18) (N:=none) (bz_ 19 524287) rfl rfl da' ba' (fun K hK=>?_)
         refine Id' (w1:=?_) ca' rfl ?_ ?_
         rotate_left
         ·go_simp
          rfl
         refine hK.out _ _ ?_
         clear hK K
         refine Wd' da' ?_
         replace HS4:=qz.mk (HS4.o.to (qh (Below.refl _ _)))
         replace HT4:=qz.mk (HT4.o.to (qh (Below.refl _ _)))
         clear nx0 nx1 nx2 nx3 nx4 nx5 nf3 nf4 nf5 hc hct HS2 HT2 hHeld
         generalize World.drew _ = w9 at HS4 HT4 ⊢
         go_wp2_with fail
         go_roundg k1
         case measure=>omega
         case rel=>exact ⟨i + 1,_,la',⟨fa',fa'⟩,HZ0,⟨by rw [Vf',List.length_set];exact HNL.o.1,Hm' HNL.o.2⟩,HS4,HT4⟩
       rw [if_neg c1] at h
       have cb1 : (rd t.lb i == 1) = false:=by simpa using c1
       by_cases c2 : rd t.lb i = 2
       ·rw [if_pos c2] at h
        have HZ0:=qz.mk h
        have cb2 : (rd t.lb i == 2) = true:=by simpa using c2
        clear h c1 c2
        as_aux_lemma =>
         have HS4:=qz.mk (HS2.o.sn i HIL.o.1 HIN.o.2 3 (.int .i64 (wrap64 ((wd' nd i).f3 - wrap64 (2 * d)))) { wd' nd i with f3:=wrap64 ((wd' nd i).f3 - wrap64 (2 * d)) } ba' (fun _ _=>rfl) ⟨rfl,rfl⟩)
         have HT4:=qz.mk (HT2.o.far (b:=bn) (o:=i.toNat * 6 + 3) (u:=.int .i64 (wrap64 ((wd' nd i).f3 - wrap64 (2 * d)))) (.inl (by have:=HS2.o.rn.1 bn rfl;omega)))
         go_wp2_with (first|(go_at_call 20;(with_reducible refine HIT.o.mono ?_);rintro e_ w2 ⟨rfl,h2⟩;replace h2:=h2.symm;subst h2))
         refine Md' (n:=19) (S:=fun w'=>w'.cell? ⟨g,3,none⟩ = some (.slice (some ⟨bn,0,none⟩) s.nd.length cn) ∧ w'.cell? ⟨bn,i.toNat * 6 + 3,none⟩ = some (.int .i64 (wd' nd i).f3)) (ds:=[18]) (Array.replicate 19 false) da' rfl rfl ⟨hc.2.2.2.1,nx3⟩ (fun hHeld=>?_)
         refine pa_ 0 119 (bz_ 19 1) ?_
         refine pa_ 1 120 (bz_ 19 3) ?_
         refine pa_ 2 121 (bz_ 19 7) ?_
         refine pa_ 4 123 (bz_ 19 23) ?_
         refine pa_ 5 124 (bz_ 19 55) ?_
         refine pa_ 6 125 (bz_ 19 119) ?_
         refine pa_ 7 126 (bz_ 19 247) ?_
         refine pa_ 9 128 (bz_ 19 759) ?_
         refine pa_ 13 132 (bz_ 19 8951) ?_
         refine pa_ 14 133 (bz_ 19 25335) ?_
         refine ta_ 3 122 (bz_ 19 25343) hHeld (hy:=Or.inl ⟨ca',ja'⟩) (h:=?_)
         refine ta_ 8 127 (bz_ 19 25599) hHeld (hy:=Or.inl ⟨ca',ja'⟩) (h:=?_)
         refine pa_ 10 129 (bz_ 19 26623) ?_
         refine pa_ 11 130 (bz_ 19 28671) ?_
         refine ta_ 12 131 (bz_ 19 32767) hHeld (hy:=Or.inl ⟨ca',ja'⟩) (h:=?_)
         refine pa_ 15 134 (bz_ 19 65535) ?_
         refine pa_ 16 135 (bz_ 19 131071) ?_
         refine pa_ 17 136 (bz_ 19 262143) ?_
         refine de' (i:=18) (N:=none) (bz_ 19 524287) rfl rfl da' ba' (fun K hK=>?_)
         refine Id' (w1:=?_) ca' rfl ?_ ?_
         rotate_left
         ·go_simp
          rfl
         refine hK.out _ _ ?_
         clear hK K
         refine Wd' da' ?_
         replace HS4:=qz.mk (HS4.o.to (qh (Below.refl _ _)))
         replace HT4:=qz.mk (HT4.o.to (qh (Below.refl _ _)))
         clear nx0 nx1 nx2 nx3 nx4 nx5 nf3 nf4 nf5 hc hct HS2 HT2 hHeld
         generalize World.drew _ = w9 at HS4 HT4 ⊢
         go_wp2_with fail
         go_roundg k1
         case measure=>omega
         case rel=>exact ⟨i + 1,_,la',⟨fa',fa'⟩,HZ0,⟨by rw [Vf',List.length_set];exact HNL.o.1,Hm' HNL.o.2⟩,HS4,HT4⟩
       rw [if_neg c2] at h
       have HZ0:=qz.mk h
       have cb2 : (rd t.lb i == 2) = false:=by simpa using c2
       clear h c1 c2
       go_wp2_with (first|(go_at_call 20;(with_reducible refine HIT.o.mono ?_);rintro e_ w2 ⟨rfl,h2⟩;replace h2:=h2.symm;subst h2))
       go_roundg k1
       case measure=>omega
       case rel=>exact ⟨i + 1,nd,la',⟨fa',fa'⟩,HZ0,HNL,HS2,HT2⟩
    have cl0 : decide (i < (s.nd.length : Int)) = false:=decide_eq_false c
    have h2 : nd = ZN:=by
     cases gk with
     | zero=>rw [tg'] at h;exact h
     | succ k1=>rw [tg',HNL.o.1,if_neg c] at h;exact h
    have HCH : qz (ji' N es s t.lb = { s with y:=y,nd:=nd }):=⟨by rw [ji',HD.o,HYN.o,HZN.o,h2]⟩
    clear c h0 h h2
    as_aux_lemma =>
     by_cases c3 : Y = d
     ·have hr:=HRR.o
      rw [vf',HD.o,if_neg (show ¬d < 0 by have:=HC0.o;omega),HYY.o,if_pos c3,HCH.o] at hr
      subst hr
      have cb3 : (Y == d) = true:=by simpa using c3
      have HF2:=qz.mk (HS2.o.fd true)
      have hf6:=HS2.o.frz.2.2.2.2
      clear c3
      go_wp2_with fail
      first|go_end0|((try simp only [Exit.inBlock,Exit.then]);refine bodyPost_ret (results_none rfl _ _ _) rfl ?_)
      exact ⟨rfl,HF2.o.is⟩
     have cb3 : (Y == d) = false:=by simpa using c3
     have hr:=HRR.o
     rw [vf',HD.o,if_neg (show ¬d < 0 by have:=HC0.o;omega),HYY.o,if_neg c3] at hr
     obtain ⟨q,hq⟩ : ∃ q,Hh' N es s t.lb = q:=⟨_,rfl⟩
     have hU:=HU.o (by rw [HD.o];have:=HC0.o;omega)
     rw [hq,HCH.o] at hr hU
     have hq2:=hq
     rw [Hh',HCH.o] at hq2
     have HFC:=qz.mk (Ii' HS2.o HNL.o.2 sa' (by show nd.length ≤ 1000000;rw [HNL.o.1];exact HSZ.o) Al cl t.lb (Kd.R_reads' HT2.o.rl).2.2 (Kd.R_reads' HT2.o.rl).2.1 2 q (.inr ⟨by intro e;have h1:=HL.o;rw [e] at h1;simp at h1;omega,by show t.lb.length = nd.length;rw [HNL.o.1];exact HL.o,rfl⟩) (by show Zd' (cvs nd) t.lb 2 (nd.length + 1) N = q;rw [HNL.o.1];exact hq2))
     by_cases c4 : q = -1
     ·rw [if_pos c4] at hr
      subst hr
      have cb4 : decide (q ≥ 0) = false:=decide_eq_false aa'
      clear c3 c4 hq hq2 hU
      go_wp2_with (first|(go_at_call 78;refine HFC.o.mono ?_;rintro e_ w2 ⟨rfl,h2⟩;replace h2:=h2.symm;subst h2))
      first|go_end0|((try simp only [Exit.inBlock,Exit.then]);refine bodyPost_ret (results_none rfl _ _ _) rfl ?_)
      exact ⟨rfl,HS2.o.is⟩
     rw [if_neg c4] at hr
     subst hr
     have hU:=qz.mk (hU c4)
     have hq0 : 0 ≤ q:=by
      rcases pj' (nd:=cvs nd) (lb:=t.lb) (label:=2) (s.nd.length + 1) N sa' with h|h
      ·exact absurd (hq2.symm.trans h) c4
      rw [hq2] at h;exact h.1
     have cb4 : decide (q ≥ 0) = true:=decide_eq_true hq0
     clear c3 c4 hq hq2 hq0
     go_wp2_with (first|(go_at_call 78;refine HFC.o.mono ?_;rintro e_ w2 ⟨rfl,h2⟩;replace h2:=h2.symm;subst h2)|(go_at_call 21;refine (Fh' HS2.o HNL.o.2 hU.out.m hU.out.sz q hU.out.ni hU.out.b hU.out.mem hU.out.pos hU.out.lk hU.out.szf).mono ?_;rintro e_ w7 ⟨rfl,col7,vm7,hs,-⟩;have HS7:=qz.mk hs;clear hs))
     first|go_end0|((try simp only [Exit.inBlock,Exit.then]);refine bodyPost_ret (results_none rfl _ _ _) rfl ?_)
     exact ⟨rfl,HS7.o.is⟩
end Go.Proofs.YtnffimpoekjkpaaGreat.QFnExactSolve
