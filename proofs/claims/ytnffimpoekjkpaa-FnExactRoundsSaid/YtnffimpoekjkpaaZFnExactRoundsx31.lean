/- The program's solver: change. -/
import Derived.Test.YtnffimpoekjkpaaZFnExactRoundsx30
namespace Go.Proofs.Ytnffimpoekjkpaa.QFnExactRounds
open Go.RowKit Go.Proofs.YtnffimpoekjkpaaW.PrintWords Go.Proofs.YtnffimpoekjkpaaW.PrintLast Go.Proofs.YtnffimpoekjkpaaW.PrintMore
attribute [local go_sem] max2_int min2_int max_two min_two max_three min_three max_four min_four
set_option linter.unusedVariables false
set_option linter.unusedSimpArgs false
def chY (nd : List (S60)) (lb : List Int) (d : Int) : Nat → Int → List Int → Int → List Int × Int
 | 0,_,y,l=>(y,l)
 | k + 1,i,y,l =>
  if i < (y.length : Int) then
   if rd lb (topI nd i) = 1 then chY nd lb d k (i + 1) (y.set i.toNat (wrap64 (rd y i - d))) (lesserI l (wrap64 (rd y i - d)))
   else if rd lb (topI nd i) = 2 then chY nd lb d k (i + 1) (y.set i.toNat (wrap64 (rd y i + d))) l
   else chY nd lb d k (i + 1) y l
  else (y,l)
def zAt (nd : List (S60)) (n z : Int) : List (S60):=nd.set n.toNat { rd_T60 nd n with f5:=z }
def chZ (lb : List Int) (d : Int) : Nat → Int → List (S60) → List (S60)
 | 0,_,nd=>nd
 | k + 1,i,nd =>
  if i < (nd.length : Int) then
   chZ lb d k (i + 1) (if isTopB (rd_T60 nd i) = true ∧ rd lb i = 1 then zAt nd i (wrap64 ((rd_T60 nd i).f5 + wrap64 (2 * d))) else if isTopB (rd_T60 nd i) = true ∧ rd lb i = 2 then zAt nd i (wrap64 ((rd_T60 nd i).f5 - wrap64 (2 * d))) else nd)
  else nd
theorem chY_len {nd : List (S60)} {lb : List Int} {d : Int} : ∀ (k : Nat) (i : Int) (y : List Int) (l : Int),(chY nd lb d k i y l).1.length = y.length
 | 0,_,_,_=>rfl
 | k + 1,i,y,l=>by
  rw [chY]
  split
  ·split
   ·rw [chY_len,List.length_set]
   split
   ·rw [chY_len,List.length_set]
   rw [chY_len]
  rfl
theorem chZ_len {lb : List Int} {d : Int} : ∀ (k : Nat) (i : Int) (nd : List (S60)),(chZ lb d k i nd).length = nd.length
 | 0,_,_=>rfl
 | k + 1,i,nd=>by
  rw [chZ]
  split
  ·rw [chZ_len]
   split
   ·rw [zAt,List.length_set]
   split
   ·rw [zAt,List.length_set]
   rfl
  rfl
theorem rd_set (l : List Int) (i x : Int) (h0 : 0 ≤ i) (h1 : i < (l.length : Int)) : rd (l.set i.toNat x) i = x:=by
 have h : i.toNat < l.length:=by omega
 simp [rd,h]
def chgY (N : Int) (es : List (S51)) (s : SI) : List Int × Int:=chY s.nd s.lb (stepI N s.y s.nd s.lb es) (s.y.length + 1) 0 s.y (-1)
def chgZ (N : Int) (es : List (S51)) (s : SI) : List (S60):=chZ s.lb (stepI N s.y s.nd s.lb es) (s.nd.length + 1) N s.nd
def chgR (N : Int) (es : List (S51)) (s : SI) : Int:=firstF (chgZ N es s) s.lb 2 (s.nd.length + 1) N
/-- All numbers changed: is all done; the solver behind. -/
def changeI (N : Int) (es : List (S51)) (s : SI) : Bool × SI :=
 if stepI N s.y s.nd s.lb es < 0 then (true,s)
 else if (chgY N es s).2 = 0 then (true,{ s with y:=(chgY N es s).1,nd:=chgZ N es s })
 else if chgR N es s = -1 then (false,{ s with y:=(chgY N es s).1,nd:=chgZ N es s })
 else (false,{ s with y:=(chgY N es s).1,nd:=unfoldI es (chgZ N es s) (chgR N es s) })
set_option maxHeartbeats 8000000 in
set_option maxRecDepth 100000 in
theorem change_calls {w0 W : World} {g : Nat} {N : Int} {Ae : Option Addr} {ce : Nat} {es : List (S51)} {col : Nat → Nat} {vy vn vl va vb : Value} {s : SI} (hS : Sol w0 W g N Ae ce es col vy vn vl va vb s) (hw : WFn s.nd) (ho : EOk es s.nd.length) (hoy : EOk es s.y.length) (hN : N = s.y.length) (hNn : N ≤ s.nd.length) (hl : s.lb.length = s.nd.length) (hsz : s.nd.length ≤ 1000000)
  (hwz : WFn (chgZ N es s)) (hU : chgR N es s ≠ -1 → UOk es (chgZ N es s) (chgR N es s)) :
  Calls Try.prog 33 #[.pointer (some ⟨g,0,none⟩)] W fun e w'=>e = .returned (.bool (changeI N es s).1) ∧ Sol w0 w' g N Ae ce es col vy vn vl va vb (changeI N es s).2:=by
 have hu47:=Try.underlying47
 have hu60:=Try.underlying60
 have hu51:=Try.underlying51
 have hu29:=Try.underlying29
 have HS:=qy.mk hS
 clear hS
 obtain ⟨An,cn,e_⟩:=Kd.R_slice HS.out.rn
 subst e_
 obtain ⟨Al,cl,e_⟩:=Kd.R_slice HS.out.rl
 rw [hl] at e_
 subst e_
 obtain ⟨Ay,cy,e_⟩:=Kd.R_slice HS.out.ry
 subst e_
 have HW:=qy.mk hw
 have HE:=qy.mk ho
 have HY:=qy.mk hoy
 have HL:=qy.mk hl
 have HWZ:=qy.mk hwz
 have HUU:=qy.mk hU
 have H0:=qy.mk (And.intro hsz (And.intro hN hNn))
 have HQ:=qy.mk (step_calls HS.out hw ho hoy hN hNn hl hsz)
 obtain ⟨d,hd⟩ : ∃ d,stepI N s.y s.nd s.lb es = d:=⟨_,rfl⟩
 obtain ⟨R,hR⟩ : ∃ R,changeI N es s = R:=⟨_,rfl⟩
 rw [hR]
 rw [changeI,hd] at hR
 have HR:=qy.mk hR
 rw [hd] at HQ
 have HD:=qy.mk hd
 clear hw ho hoy hl hsz hN hNn hwz hU hR hd
 go_enter Try.func33,Try.ntmps33
 by_cases cd : d < 0
 ·have cd0 : decide (d < 0) = true:=decide_eq_true cd
  have hR:=HR.out
  rw [if_pos cd] at hR
  subst hR
  go_wp2_with (first|(go_at_call 53;refine HQ.out.mono ?_;rintro e w1 ⟨rfl,hb⟩;have HS1:=qy.mk (HS.out.to hb);have hc:=HS1.out.cells;clear hb))
  go_ret
  exact ⟨rfl,HS1.out⟩
 have cd0 : decide (d < 0) = false:=decide_eq_false cd
 have hR:=HR.out
 rw [if_neg cd] at hR
 clear HR
 have HR:=qy.mk hR
 clear hR
 obtain ⟨yl,hyl⟩ : ∃ yl,chgY N es s = yl:=⟨_,rfl⟩
 obtain ⟨y1,l1⟩:=yl
 have hT:=hyl
 rw [chgY,HD.out] at hT
 have HT:=qy.mk hT
 have hY1 : y1.length = s.y.length:=by rw [← chY_len (nd:=s.nd) (lb:=s.lb) (d:=d) (s.y.length + 1) 0 s.y (-1),hT]
 have HY1:=qy.mk hY1
 have hR:=HR.out
 rw [hyl] at hR
 replace HR:=qy.mk hR
 obtain ⟨ndz,hz⟩ : ∃ ndz,chgZ N es s = ndz:=⟨_,rfl⟩
 have hR:=HR.out
 rw [hz] at hR
 replace HR:=qy.mk hR
 obtain ⟨rz,hrz⟩ : ∃ rz,chgR N es s = rz:=⟨_,rfl⟩
 have hR:=HR.out
 rw [hrz] at hR
 replace HR:=qy.mk hR
 rw [hz] at HWZ HUU
 rw [hrz] at HUU
 have hrz2:=hrz
 rw [chgR,hz] at hrz2
 have HRZ:=qy.mk hrz2
 have hz2:=hz
 rw [chgZ,HD.out] at hz2
 have HTZ:=qy.mk hz2
 have HLZ : qy (ndz.length = s.nd.length):=⟨by rw [← hz2,chZ_len]⟩
 clear hR hT hyl hz hrz hrz2 hz2 hY1
 go_wp2_with (first|(go_at_call 53;refine HQ.out.mono ?_;rintro e w1 ⟨rfl,hb⟩;have HS1:=qy.mk (HS.out.to hb);have hc:=HS1.out.cells;clear hb))
 clear HQ hc
 go_loopg [4,16] (s.y.length + 1) (fun kq v4 v16 w'=>∃ (l i : Int) (y : List Int),v4 = .int .i64 l ∧ v16 = .int .i64 i ∧ qy (0 ≤ i ∧ i + kq = s.y.length + 1 ∧ i ≤ s.y.length) ∧ qy (chY s.nd s.lb d kq i y l = (y1,l1)) ∧ qy (y.length = s.y.length) ∧ qy (Sol w0 w' g N Ae ce es col (.slice Ay s.y.length cy) (.slice An s.nd.length cn) (.slice Al s.nd.length cl) va vb { s with y:=y }))
 case atStart=>exact ⟨-1,0,s.y,rfl,rfl,⟨by omega,by omega,by omega⟩,HT,⟨rfl⟩,HS1⟩
 clear HT HS1
 obtain ⟨l,i,y,rfl,rfl,HI,HT,HLY,HS1⟩:=hrel
 have hc:=HS1.out.cells
 cases gk with
 | zero =>
  exfalso
  have h1:=HI.out
  omega
 | succ k1 =>
  have h:=HT.out
  clear HT
  rw [chY,HLY.out] at h
  by_cases c : i < (s.y.length : Int)
  ·rw [if_pos c] at h
   have hi0:=HI.out.1
   have HIL:=qy.mk c
   have HIN : qy (inR i s.nd.length):=⟨⟨hi0,by have:=H0.out;omega⟩⟩
   have cl0 : decide (i < (s.y.length : Int)) = true:=decide_eq_true c
   have pi:=eq_true hi0
   have qi:=eq_true c
   have HTI:=qy.mk (topI_in HW.out HIN.out)
   have HTO:=qy.mk (top_is HW.out HIN.out)
   have hp0 : 0 < s.nd.length:=by have:=H0.out;omega
   obtain ⟨bl,_,e_,-⟩:=row_at HS.out.rl (by rw [HL.out];exact hp0)
   injection e_ with e_ e2_ e3_
   clear e2_ e3_
   subst e_
   obtain ⟨by_,_,e_,-⟩:=row_at HS.out.ry (by omega)
   injection e_ with e_ e2_ e3_
   clear e2_ e3_
   subst e_
   clear hp0 c
   obtain ⟨xl,fl⟩:=int_at HS1.out.rl (topI s.nd i) HTI.out.1 (by show topI s.nd i < (s.lb.length : Int);rw [HL.out];exact HTI.out.2)
   have pt:=eq_true HTI.out.1
   have qt:=eq_true HTI.out.2
   go_wp2_with fail
   go_quiet ((go_at_call 35;exact Calls.quiet_of_same (top_calls (HS1.out.to (by repeat (first|exact Below.refl _ _|apply qo|apply qd|apply qh))) _ _ _ HTO.out)))
   have HS2:=qy.mk (HS1.out.to (qd (Below.refl _ _) nq))
   clear xl fl hc HS1
   generalize wr.drewN nq = w2 at HS2 ⊢
   have hc:=HS2.out.cells
   obtain ⟨xy,fy⟩:=int_at HS2.out.ry i hi0 (by show i < (y.length : Int);have:=HLY.out;have:=HIL.out;omega)
   by_cases c1 : rd s.lb (topI s.nd i) = 1
   ·have cb1 : (rd s.lb (topI s.nd i) == 1) = true:=by simpa using c1
    rw [if_pos c1] at h
    have HT:=qy.mk h
    clear h c1
    have HS3:=qy.mk (HS2.out.sy i (wrap64 (rd y i - d)))
    go_upto_region 11 with fail
    clear xy fy hc HS2
    generalize w2.setCell _ _ = w3 at HS3 ⊢
    have hc:=HS3.out.cells
    have hrs : rd (y.set i.toNat (wrap64 (rd y i - d))) i = wrap64 (rd y i - d):=rd_set y i _ hi0 (by have:=HLY.out;have:=HIL.out;omega)
    obtain ⟨xy,fy⟩:=int_at HS3.out.ry i hi0 (by show i < ((y.set _ _).length : Int);rw [List.length_set];have:=HLY.out;have:=HIL.out;omega)
    change w3.cell? _ = some (.int .i64 (rd (y.set i.toNat (wrap64 (rd y i - d))) i)) at xy
    rw [hrs] at xy
    clear hrs
    go_wp2_with (first|(go_at_call 54;(with_reducible refine (impl_lesser.calls l (wrap64 (rd y i - d)) _ _ (lesser_is _ _)).mono ?_);rintro e w7 ⟨rfl,⟨nd,rfl⟩⟩))
    go_roundg k1
    case measure=>omega
    case rel=>exact ⟨_,i + 1,_,rfl,by rw [w64 (by omega) (by have:=HIL.out;have:=H0.out;omega)],⟨by omega,by have:=HI.out;omega,by have:=HIL.out;omega⟩,HT,⟨by rw [List.length_set];exact HLY.out⟩,⟨HS3.out.to (qd (Below.refl _ _) nd)⟩⟩
   have cb1 : (rd s.lb (topI s.nd i) == 1) = false:=by simpa using c1
   rw [if_neg c1] at h
   clear c1
   by_cases c2 : rd s.lb (topI s.nd i) = 2
   ·have cb2 : (rd s.lb (topI s.nd i) == 2) = true:=by simpa using c2
    rw [if_pos c2] at h
    have HT:=qy.mk h
    clear h c2
    have HS3:=qy.mk (HS2.out.sy i (wrap64 (rd y i + d)))
    go_wp2_with fail
    go_roundg k1
    case measure=>omega
    case rel=>exact ⟨_,i + 1,_,rfl,by rw [w64 (by omega) (by have:=HIL.out;have:=H0.out;omega)],⟨by omega,by have:=HI.out;omega,by have:=HIL.out;omega⟩,HT,⟨by rw [List.length_set];exact HLY.out⟩,HS3⟩
   have cb2 : (rd s.lb (topI s.nd i) == 2) = false:=by simpa using c2
   rw [if_neg c2] at h
   have HT:=qy.mk h
   clear h c2
   go_wp2_with fail
   go_roundg k1
   case measure=>omega
   case rel=>exact ⟨_,i + 1,_,rfl,by rw [w64 (by omega) (by have:=HIL.out;have:=H0.out;omega)],⟨by omega,by have:=HI.out;omega,by have:=HIL.out;omega⟩,HT,HLY,HS2⟩
  rw [if_neg c] at h
  have cl0 : decide (i < (s.y.length : Int)) = false:=decide_eq_false c
  obtain ⟨rfl,rfl⟩ : y = y1 ∧ l = l1:=by simpa using h
  clear c h HI
  go_wp2_with fail
  clear hc
  go_loopg [6] (s.nd.length + 1) (fun kq v6 w'=>∃ (i : Int) (nd : List (S60)),v6 = .int .i64 i ∧ qy (0 ≤ i ∧ s.nd.length + 1 ≤ i + kq ∧ i ≤ s.nd.length) ∧ qy (chZ s.lb d kq i nd = ndz) ∧ qy (nd.length = s.nd.length) ∧ qy (Sol w0 w' g N Ae ce es col (.slice Ay s.y.length cy) (.slice An s.nd.length cn) (.slice Al s.nd.length cl) va vb { s with y:=y,nd:=nd }))
  case atStart=>exact ⟨N,s.nd,rfl,⟨by have:=H0.out;omega,by have:=H0.out;omega,by have:=H0.out;omega⟩,HTZ,⟨rfl⟩,HS1⟩
  clear HTZ HS1
  obtain ⟨i,nd,rfl,HI,HT,HLN,HS1⟩:=hrel
  have hc:=HS1.out.cells
  cases gk with
  | zero =>
   exfalso
   have h1:=HI.out
   omega
  | succ k1 =>
   have h:=HT.out
   clear HT
   rw [chZ,HLN.out] at h
   by_cases c : i < (s.nd.length : Int)
   ·rw [if_pos c] at h
    have hi0:=HI.out.1
    have HIL:=qy.mk c
    have HIN : qy (inR i nd.length):=⟨⟨hi0,by rw [HLN.out];exact c⟩⟩
    have cl0 : decide (i < (s.nd.length : Int)) = true:=decide_eq_true c
    have pi:=eq_true hi0
    have qi:=eq_true c
    have hp0 : 0 < s.nd.length:=by omega
    obtain ⟨bl,_,e_,-⟩:=row_at HS.out.rl (by rw [HL.out];exact hp0)
    injection e_ with e_ e2_ e3_
    clear e2_ e3_
    subst e_
    obtain ⟨bn,_,e_,-⟩:=row_at HS.out.rn hp0
    injection e_ with e_ e2_ e3_
    clear e2_ e3_
    subst e_
    clear hp0 c
    obtain ⟨xl,fl⟩:=int_at HS1.out.rl i hi0 (by show i < (s.lb.length : Int);rw [HL.out];exact HIL.out)
    have qn : i < (nd.length : Int):=HIN.out.2
    cases ct1 : isTopB (rd_T60 nd i) with
    | false =>
     rw [if_neg (fun h=>by rw [ct1] at h;exact absurd h.1 (by decide)),if_neg (fun h=>by rw [ct1] at h;exact absurd h.1 (by decide))] at h
     have HT:=qy.mk h
     clear h
     go_wp2_with (first|(go_at_call 50;(with_reducible refine (isTop_calls' HS1.out i false HIN.out ct1).mono ?_);rintro e w7 ⟨rfl,h2⟩;replace h2:=h2.symm;subst h2))
     (go_roundg k1;(case measure=>omega);(case rel=>exact ⟨i + 1,_,by rw [w64 (by omega) (by have:=HIL.out;have:=H0.out;omega)],⟨by omega,by have:=HI.out;omega,by have:=HIL.out;omega⟩,HT,HLN,HS1⟩))
    | true =>
     obtain ⟨A0n,c0n,A1n,c1n,nx0,nx1,nx2,nx3,nx4,nx5,nx6,nf2,nf3,nf5,nf6,-⟩:=HS1.out.node_at i hi0 qn
     by_cases c1 : rd s.lb i = 1
     ·have cb1 : (rd s.lb i == 1) = true:=by simpa using c1
      rw [if_pos ⟨ct1,c1⟩] at h
      have HT:=qy.mk h
      clear h c1
      have HS2:=qy.mk (HS1.out.sn i hi0 qn 5 (.int .i64 (wrap64 ((rd_T60 nd i).f5 + wrap64 (2 * d)))) { rd_T60 nd i with f5:=wrap64 ((rd_T60 nd i).f5 + wrap64 (2 * d)) } (by decide) (fun _ _=>rfl) ⟨rfl,rfl⟩)
      go_wp2_with (first|(go_at_call 50;(with_reducible refine (isTop_calls' HS1.out i true HIN.out ct1).mono ?_);rintro e w7 ⟨rfl,h2⟩;replace h2:=h2.symm;subst h2))
      (go_roundg k1;(case measure=>omega);(case rel=>exact ⟨i + 1,_,by rw [w64 (by omega) (by have:=HIL.out;have:=H0.out;omega)],⟨by omega,by have:=HI.out;omega,by have:=HIL.out;omega⟩,HT,⟨by rw [zAt,List.length_set];exact HLN.out⟩,HS2⟩))
     have cb1 : (rd s.lb i == 1) = false:=by simpa using c1
     rw [if_neg (fun h=>c1 h.2)] at h
     by_cases c2 : rd s.lb i = 2
     ·have cb2 : (rd s.lb i == 2) = true:=by simpa using c2
      rw [if_pos ⟨ct1,c2⟩] at h
      have HT:=qy.mk h
      clear h c1 c2
      have HS2:=qy.mk (HS1.out.sn i hi0 qn 5 (.int .i64 (wrap64 ((rd_T60 nd i).f5 - wrap64 (2 * d)))) { rd_T60 nd i with f5:=wrap64 ((rd_T60 nd i).f5 - wrap64 (2 * d)) } (by decide) (fun _ _=>rfl) ⟨rfl,rfl⟩)
      go_wp2_with (first|(go_at_call 50;(with_reducible refine (isTop_calls' HS1.out i true HIN.out ct1).mono ?_);rintro e w7 ⟨rfl,h2⟩;replace h2:=h2.symm;subst h2))
      (go_roundg k1;(case measure=>omega);(case rel=>exact ⟨i + 1,_,by rw [w64 (by omega) (by have:=HIL.out;have:=H0.out;omega)],⟨by omega,by have:=HI.out;omega,by have:=HIL.out;omega⟩,HT,⟨by rw [zAt,List.length_set];exact HLN.out⟩,HS2⟩))
     have cb2 : (rd s.lb i == 2) = false:=by simpa using c2
     rw [if_neg (fun h=>c2 h.2)] at h
     have HT:=qy.mk h
     clear h c1 c2
     go_wp2_with (first|(go_at_call 50;(with_reducible refine (isTop_calls' HS1.out i true HIN.out ct1).mono ?_);rintro e w7 ⟨rfl,h2⟩;replace h2:=h2.symm;subst h2))
     (go_roundg k1;(case measure=>omega);(case rel=>exact ⟨i + 1,_,by rw [w64 (by omega) (by have:=HIL.out;have:=H0.out;omega)],⟨by omega,by have:=HI.out;omega,by have:=HIL.out;omega⟩,HT,HLN,HS1⟩))
   rw [if_neg c] at h
   have cl0 : decide (i < (s.nd.length : Int)) = false:=decide_eq_false c
   subst h
   clear c HI
   by_cases cz : l = 0
   ·have cz0 : (l == 0) = true:=by simpa using cz
    have hR:=HR.out
    try dsimp only at hR
    rw [if_pos cz] at hR
    subst hR
    clear cz
    go_wp2_with fail
    go_ret
    exact ⟨rfl,HS1.out⟩
   have cz0 : (l == 0) = false:=by simpa using cz
   have hR:=HR.out
   try dsimp only at hR
   rw [if_neg cz] at hR
   clear cz HR
   have HQ:=qy.mk (unfoldFirst_calls HS1.out HWZ.out (by rw [HLN.out];exact HE.out) ⟨by have:=H0.out;omega,by show N ≤ (nd.length : Int);have:=HLN.out;have:=H0.out;omega⟩ (by show s.lb.length = nd.length;rw [HL.out,HLN.out]) (by show nd.length ≤ 1000000;have:=HLN.out;have:=H0.out;omega) 2 rz (by rw [← HRZ.out];show firstF nd s.lb 2 (nd.length + 1) N = _;rw [HLN.out]) HUU.out)
   by_cases cr : rz = -1
   ·rw [if_pos cr] at hR
    subst hR
    go_wp2_with (first|(go_at_call 38;refine HQ.out.mono ?_;rintro e w8 (⟨-,rfl,hs⟩|⟨hx,-⟩);replace hs:=hs.symm;subst hs;rotate_left;exact absurd cr hx))
    go_ret
    exact ⟨rfl,HS1.out⟩
   rw [if_neg cr] at hR
   subst hR
   go_wp2_with (first|(go_at_call 38;refine HQ.out.mono ?_;rintro e w8 (⟨hx,-⟩|⟨-,rfl,hs⟩);exact absurd hx cr;have HSF:=qy.mk hs;clear hs))
   go_ret
   exact ⟨rfl,HSF.out⟩
end Go.Proofs.Ytnffimpoekjkpaa.QFnExactRounds
