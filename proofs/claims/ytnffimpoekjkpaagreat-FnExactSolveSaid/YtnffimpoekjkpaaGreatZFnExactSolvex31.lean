import Derived.Test.YtnffimpoekjkpaaGreatZFnExactSolvex30
set_option linter.all false
namespace Go.Proofs.YtnffimpoekjkpaaGreat.QFnExactSolve
open Go.RowKit Go.Proofs.YtnffimpoekjkpaaGreatW.PrintWords Go.Proofs.YtnffimpoekjkpaaGreatW.PrintLast Go.Proofs.YtnffimpoekjkpaaGreatW.PrintMore
set_option maxHeartbeats 8000000
set_option maxRecDepth 100000
attribute [local go_sem] Od' Pd' Xd' Yd' Jd' Kd' Qd' Rd'
def chY (nd : List (S89)) (lb : List Int) (d : Int) : Nat → Int → List Int → Int → List Int × Int
 | 0,_,y,l=>(y,l)
 | k + 1,i,y,l =>
  if i < (y.length : Int) then
   if rd lb (topI nd i) = 1 then chY nd lb d k (i + 1) (y.set i.toNat (wrap64 (rd y i - d))) (Ne' l (wrap64 (rd y i - d)))
   else if rd lb (topI nd i) = 2 then chY nd lb d k (i + 1) (y.set i.toNat (wrap64 (rd y i + d))) l
   else chY nd lb d k (i + 1) y l
  else (y,l)
def zAt (nd : List (S89)) (n z : Int) : List (S89):=nd.set n.toNat { td' nd n with f5:=z }
def chZ (lb : List Int) (d : Int) : Nat → Int → List (S89) → List (S89)
 | 0,_,nd=>nd
 | k + 1,i,nd =>
  if i < (nd.length : Int) then
   chZ lb d k (i + 1) (if Dd' (td' nd i) = true ∧ rd lb i = 1 then zAt nd i (wrap64 ((td' nd i).f5 + wrap64 (2 * d))) else if Dd' (td' nd i) = true ∧ rd lb i = 2 then zAt nd i (wrap64 ((td' nd i).f5 - wrap64 (2 * d))) else nd)
  else nd
theorem Nj' {nd : List (S89)} {lb : List Int} {d : Int} : ∀ (k : Nat) (i : Int) (y : List Int) (l : Int),(chY nd lb d k i y l).1.length = y.length
 | 0,_,_,_=>rfl
 | k + 1,i,y,l=>by
  rw [chY]
  split
  ·split
   ·rw [Nj',List.length_set]
   split
   ·rw [Nj',List.length_set]
   rw [Nj']
  rfl
theorem Wn' {lb : List Int} {d : Int} : ∀ (k : Nat) (i : Int) (nd : List (S89)),(chZ lb d k i nd).length = nd.length
 | 0,_,_=>rfl
 | k + 1,i,nd=>by
  rw [chZ]
  split
  ·rw [Wn']
   split
   ·rw [zAt,List.length_set]
   split
   ·rw [zAt,List.length_set]
   rfl
  rfl
theorem rd_set (l : List Int) (i x : Int) (h0 : 0 ≤ i) (h1 : i < (l.length : Int)) : rd (l.set i.toNat x) i = x:=by
 have h : i.toNat < l.length:=by omega
 simp [rd,h]
def qj' (N : Int) (es : List (S73)) (s : SI) : List Int × Int:=chY s.nd s.lb (Hf' N s.y s.nd s.lb es) (s.y.length + 1) 0 s.y (-1)
def Eg' (N : Int) (es : List (S73)) (s : SI) : List (S89):=chZ s.lb (Hf' N s.y s.nd s.lb es) (s.nd.length + 1) N s.nd
def hh' (N : Int) (es : List (S73)) (s : SI) : Int:=Zd' (Eg' N es s) s.lb 2 (s.nd.length + 1) N
def tf' (N : Int) (es : List (S73)) (s : SI) : Bool × SI :=
 if Hf' N s.y s.nd s.lb es < 0 then (true,s)
 else if (qj' N es s).2 = 0 then (true,{ s with y:=(qj' N es s).1,nd:=Eg' N es s })
 else if hh' N es s = -1 then (false,{ s with y:=(qj' N es s).1,nd:=Eg' N es s })
 else (false,{ s with y:=(qj' N es s).1,nd:=Ed' es (Eg' N es s) (hh' N es s) })
theorem Cm' {w0 W : World} {g : Nat} {N : Int} {Ae : Option Addr} {ce : Nat} {es : List (S73)} {col : Nat → Nat} {vy vn vl va vb : Value} {s : SI} (hS : Sol w0 W g N Ae ce es col vy vn vl va vb s) (hw : WFn s.nd) (ho : EOk es s.nd.length) (hoy : EOk es s.y.length) (hN : N = s.y.length) (hNn : N ≤ s.nd.length) (hl : s.lb.length = s.nd.length) (hsz : s.nd.length ≤ 1000000)
  (hwz : WFn (Eg' N es s)) (hU : hh' N es s ≠ -1 → UOk es (Eg' N es s) (hh' N es s)) :
  Calls Tryz.prog 65 #[.pointer (some ⟨g,0,none⟩)] W fun e w'=>e = .returned (.bool (tf' N es s).1) ∧ Sol w0 w' g N Ae ce es col vy vn vl va vb (tf' N es s).2:=by
 have hu87:=Tryz.underlying87
 have hu89:=Tryz.underlying89
 have hu73:=Tryz.underlying73
 have hu35:=Tryz.underlying35
 have HS:=qz.mk hS
 clear hS
 obtain ⟨An,cn,e_⟩:=Kd.R_slice HS.o.rn
 subst e_
 obtain ⟨Al,cl,e_⟩:=Kd.R_slice HS.o.rl
 rw [hl] at e_
 subst e_
 obtain ⟨Ay,cy,e_⟩:=Kd.R_slice HS.o.ry
 subst e_
 have HW:=qz.mk hw
 have HE:=qz.mk ho
 have HY:=qz.mk hoy
 have HL:=qz.mk hl
 have HWZ:=qz.mk hwz
 have HUU:=qz.mk hU
 have H0:=qz.mk (And.intro hsz (And.intro hN hNn))
 have HQ:=qz.mk (Ho' HS.o hw ho hoy hN hNn hl hsz)
 obtain ⟨d,hd⟩ : ∃ d,Hf' N s.y s.nd s.lb es = d:=⟨_,rfl⟩
 obtain ⟨R,hR⟩ : ∃ R,tf' N es s = R:=⟨_,rfl⟩
 rw [hR]
 rw [tf',hd] at hR
 have HR:=qz.mk hR
 rw [hd] at HQ
 have HD:=qz.mk hd
 clear hw ho hoy hl hsz hN hNn hwz hU hR hd
 go_enter Tryz.func65,Tryz.ntmps65
 by_cases cd : d < 0
 ·have cd0 : decide (d < 0) = true:=decide_eq_true cd
  have hR:=HR.o
  rw [if_pos cd] at hR
  subst hR
  go_wp2_with (first|(go_at_call 85;refine HQ.o.mono ?_;rintro e w1 ⟨rfl,hb⟩;have HS1:=qz.mk (HS.o.to hb);have hc:=HS1.o.cells;clear hb))
  go_ret
  exact ⟨rfl,HS1.o⟩
 have cd0 : decide (d < 0) = false:=decide_eq_false cd
 have hR:=HR.o
 rw [if_neg cd] at hR
 clear HR
 have HR:=qz.mk hR
 clear hR
 obtain ⟨yl,hyl⟩ : ∃ yl,qj' N es s = yl:=⟨_,rfl⟩
 obtain ⟨y1,l1⟩:=yl
 have hT:=hyl
 rw [qj',HD.o] at hT
 have HT:=qz.mk hT
 have hY1 : y1.length = s.y.length:=by rw [← Nj' (nd:=s.nd) (lb:=s.lb) (d:=d) (s.y.length + 1) 0 s.y (-1),hT]
 have HY1:=qz.mk hY1
 have hR:=HR.o
 rw [hyl] at hR
 replace HR:=qz.mk hR
 obtain ⟨ndz,hz⟩ : ∃ ndz,Eg' N es s = ndz:=⟨_,rfl⟩
 have hR:=HR.o
 rw [hz] at hR
 replace HR:=qz.mk hR
 obtain ⟨rz,hrz⟩ : ∃ rz,hh' N es s = rz:=⟨_,rfl⟩
 have hR:=HR.o
 rw [hrz] at hR
 replace HR:=qz.mk hR
 rw [hz] at HWZ HUU
 rw [hrz] at HUU
 have hrz2:=hrz
 rw [hh',hz] at hrz2
 have HRZ:=qz.mk hrz2
 have hz2:=hz
 rw [Eg',HD.o] at hz2
 have HTZ:=qz.mk hz2
 have HLZ : qz (ndz.length = s.nd.length):=⟨by rw [← hz2,Wn']⟩
 clear hR hT hyl hz hrz hrz2 hz2 hY1
 go_wp2_with (first|(go_at_call 85;refine HQ.o.mono ?_;rintro e w1 ⟨rfl,hb⟩;have HS1:=qz.mk (HS.o.to hb);have hc:=HS1.o.cells;clear hb))
 clear HQ hc
 go_loopg [4,16] (s.y.length + 1) (fun kq v4 v16 w'=>∃ (l i : Int) (y : List Int),v4 = .int .i64 l ∧ v16 = .int .i64 i ∧ qz (0 ≤ i ∧ i + kq = s.y.length + 1 ∧ i ≤ s.y.length) ∧ qz (chY s.nd s.lb d kq i y l = (y1,l1)) ∧ qz (y.length = s.y.length) ∧ qz (Sol w0 w' g N Ae ce es col (.slice Ay s.y.length cy) (.slice An s.nd.length cn) (.slice Al s.nd.length cl) va vb { s with y:=y }))
 case atStart=>exact ⟨-1,0,s.y,rfl,rfl,⟨aa',aa',aa'⟩,HT,⟨rfl⟩,HS1⟩
 clear HT HS1
 obtain ⟨l,i,y,rfl,rfl,HI,HT,HLY,HS1⟩:=hrel
 have hc:=HS1.o.cells
 cases gk with
 | zero =>
  exfalso
  have h1:=HI.o
  omega
 | succ k1 =>
  have h:=HT.o
  clear HT
  rw [chY,HLY.o] at h
  by_cases c : i < (s.y.length : Int)
  ·rw [if_pos c] at h
   have hi0:=HI.o.1
   have HIL:=qz.mk c
   have HIN : qz (inR i s.nd.length):=⟨⟨hi0,pa'⟩⟩
   have cl0 : decide (i < (s.y.length : Int)) = true:=decide_eq_true c
   have pi:=eq_true hi0
   have qi:=eq_true c
   have HTI:=qz.mk (Nd' HW.o HIN.o)
   have HTO:=qz.mk (xh' HW.o HIN.o)
   have hp0 : 0 < s.nd.length:=by have:=H0.o;omega
   obtain ⟨bl,_,e_,-⟩:=fe' HS.o.rl db'
   injection e_ with e_ e2_ e3_
   clear e2_ e3_
   subst e_
   obtain ⟨by_,_,e_,-⟩:=fe' HS.o.ry aa'
   injection e_ with e_ e2_ e3_
   clear e2_ e3_
   subst e_
   clear hp0 c
   obtain ⟨xl,fl⟩:=Gd' HS1.o.rl (topI s.nd i) HTI.o.1 (by show topI s.nd i < (s.lb.length : Int);rw [HL.o];exact HTI.o.2)
   have pt:=eq_true HTI.o.1
   have qt:=eq_true HTI.o.2
   go_wp2_with fail
   go_quiet ((go_at_call 67;exact Calls.quiet_of_same (ng' (HS1.o.to (by repeat (first|exact Below.refl _ _|apply qo|apply qd|apply qh))) _ _ _ HTO.o)))
   have HS2:=qz.mk (HS1.o.to (qd (Below.refl _ _) nq))
   clear xl fl hc HS1
   generalize wr.drewN nq = w2 at HS2 ⊢
   have hc:=HS2.o.cells
   obtain ⟨xy,fy⟩:=Gd' HS2.o.ry i hi0 (by show i < (y.length : Int);have:=HLY.o;have:=HIL.o;omega)
   by_cases c1 : rd s.lb (topI s.nd i) = 1
   ·have cb1 : (rd s.lb (topI s.nd i) == 1) = true:=by simpa using c1
    rw [if_pos c1] at h
    have HT:=qz.mk h
    clear h c1
    have HS3:=qz.mk (HS2.o.sy i (wrap64 (rd y i - d)))
    go_upto_region 11 with fail
    clear xy fy hc HS2
    generalize w2.setCell _ _ = w3 at HS3 ⊢
    have hc:=HS3.o.cells
    have hrs : rd (y.set i.toNat (wrap64 (rd y i - d))) i = wrap64 (rd y i - d):=rd_set y i _ hi0 (by have:=HLY.o;have:=HIL.o;omega)
    obtain ⟨xy,fy⟩:=Gd' HS3.o.ry i hi0 (by show i < ((y.set _ _).length : Int);rw [List.length_set];have:=HLY.o;have:=HIL.o;omega)
    change w3.cell? _ = some (.int .i64 (rd (y.set i.toNat (wrap64 (rd y i - d))) i)) at xy
    rw [hrs] at xy
    clear hrs
    go_wp2_with (first|(go_at_call 86;(with_reducible refine (impl_lesser.calls l (wrap64 (rd y i - d)) _ _ (Ll' _ _)).mono ?_);rintro e w7 ⟨rfl,⟨nd,rfl⟩⟩))
    go_roundg k1
    case measure=>omega
    case rel=>exact ⟨_,i + 1,_,rfl,Da',⟨aa',fa',ga'⟩,HT,⟨by rw [List.length_set];exact HLY.o⟩,⟨HS3.o.to (qd (Below.refl _ _) nd)⟩⟩
   have cb1 : (rd s.lb (topI s.nd i) == 1) = false:=by simpa using c1
   rw [if_neg c1] at h
   clear c1
   by_cases c2 : rd s.lb (topI s.nd i) = 2
   ·have cb2 : (rd s.lb (topI s.nd i) == 2) = true:=by simpa using c2
    rw [if_pos c2] at h
    have HT:=qz.mk h
    clear h c2
    have HS3:=qz.mk (HS2.o.sy i (wrap64 (rd y i + d)))
    go_wp2_with fail
    go_roundg k1
    case measure=>omega
    case rel=>exact ⟨_,i + 1,_,rfl,Da',⟨aa',fa',ga'⟩,HT,⟨by rw [List.length_set];exact HLY.o⟩,HS3⟩
   have cb2 : (rd s.lb (topI s.nd i) == 2) = false:=by simpa using c2
   rw [if_neg c2] at h
   have HT:=qz.mk h
   clear h c2
   go_wp2_with fail
   go_roundg k1
   case measure=>omega
   case rel=>exact ⟨_,i + 1,_,rfl,Da',⟨aa',fa',ga'⟩,HT,HLY,HS2⟩
  rw [if_neg c] at h
  have cl0 : decide (i < (s.y.length : Int)) = false:=decide_eq_false c
  obtain ⟨rfl,rfl⟩ : y = y1 ∧ l = l1:=by simpa using h
  clear c h HI
  go_wp2_with fail
  clear hc
  go_loopg [6] (s.nd.length + 1) (fun kq v6 w'=>∃ (i : Int) (nd : List (S89)),v6 = .int .i64 i ∧ qz (0 ≤ i ∧ s.nd.length + 1 ≤ i + kq ∧ i ≤ s.nd.length) ∧ qz (chZ s.lb d kq i nd = ndz) ∧ qz (nd.length = s.nd.length) ∧ qz (Sol w0 w' g N Ae ce es col (.slice Ay s.y.length cy) (.slice An s.nd.length cn) (.slice Al s.nd.length cl) va vb { s with y:=y,nd:=nd }))
  case atStart=>exact ⟨N,s.nd,rfl,⟨pa',pa',pa'⟩,HTZ,⟨rfl⟩,HS1⟩
  clear HTZ HS1
  obtain ⟨i,nd,rfl,HI,HT,HLN,HS1⟩:=hrel
  have hc:=HS1.o.cells
  cases gk with
  | zero =>
   exfalso
   have h1:=HI.o
   omega
  | succ k1 =>
   have h:=HT.o
   clear HT
   rw [chZ,HLN.o] at h
   by_cases c : i < (s.nd.length : Int)
   ·rw [if_pos c] at h
    have hi0:=HI.o.1
    have HIL:=qz.mk c
    have HIN : qz (inR i nd.length):=⟨⟨hi0,by rw [HLN.o];exact c⟩⟩
    have cl0 : decide (i < (s.nd.length : Int)) = true:=decide_eq_true c
    have pi:=eq_true hi0
    have qi:=eq_true c
    have hp0 : 0 < s.nd.length:=by omega
    obtain ⟨bl,_,e_,-⟩:=fe' HS.o.rl db'
    injection e_ with e_ e2_ e3_
    clear e2_ e3_
    subst e_
    obtain ⟨bn,_,e_,-⟩:=fe' HS.o.rn hp0
    injection e_ with e_ e2_ e3_
    clear e2_ e3_
    subst e_
    clear hp0 c
    obtain ⟨xl,fl⟩:=Gd' HS1.o.rl i hi0 (by show i < (s.lb.length : Int);rw [HL.o];exact HIL.o)
    have qn : i < (nd.length : Int):=HIN.o.2
    cases ct1 : Dd' (td' nd i) with
    | false =>
     rw [if_neg (fun h=>by rw [ct1] at h;exact absurd h.1 ba'),if_neg (fun h=>by rw [ct1] at h;exact absurd h.1 ba')] at h
     have HT:=qz.mk h
     clear h
     go_wp2_with (first|(go_at_call 53;(with_reducible refine (me' HS1.o i false HIN.o ct1).mono ?_);rintro e w7 ⟨rfl,h2⟩;replace h2:=h2.symm;subst h2))
     (go_roundg k1;(case measure=>omega);(case rel=>exact ⟨i + 1,_,Da',⟨aa',fa',ga'⟩,HT,HLN,HS1⟩))
    | true =>
     obtain ⟨A0n,c0n,A1n,c1n,nx0,nx1,nx2,nx3,nx4,nx5,nx6,nf2,nf3,nf5,nf6,-⟩:=HS1.o.node_at i hi0 qn
     by_cases c1 : rd s.lb i = 1
     ·have cb1 : (rd s.lb i == 1) = true:=by simpa using c1
      rw [if_pos ⟨ct1,c1⟩] at h
      have HT:=qz.mk h
      clear h c1
      have HS2:=qz.mk (HS1.o.sn i hi0 qn 5 (.int .i64 (wrap64 ((td' nd i).f5 + wrap64 (2 * d)))) { td' nd i with f5:=wrap64 ((td' nd i).f5 + wrap64 (2 * d)) } ba' (fun _ _=>rfl) ⟨rfl,rfl⟩)
      go_wp2_with (first|(go_at_call 53;(with_reducible refine (me' HS1.o i true HIN.o ct1).mono ?_);rintro e w7 ⟨rfl,h2⟩;replace h2:=h2.symm;subst h2))
      (go_roundg k1;(case measure=>omega);(case rel=>exact ⟨i + 1,_,Da',⟨aa',fa',ga'⟩,HT,⟨by rw [zAt,List.length_set];exact HLN.o⟩,HS2⟩))
     have cb1 : (rd s.lb i == 1) = false:=by simpa using c1
     rw [if_neg (fun h=>c1 h.2)] at h
     by_cases c2 : rd s.lb i = 2
     ·have cb2 : (rd s.lb i == 2) = true:=by simpa using c2
      rw [if_pos ⟨ct1,c2⟩] at h
      have HT:=qz.mk h
      clear h c1 c2
      have HS2:=qz.mk (HS1.o.sn i hi0 qn 5 (.int .i64 (wrap64 ((td' nd i).f5 - wrap64 (2 * d)))) { td' nd i with f5:=wrap64 ((td' nd i).f5 - wrap64 (2 * d)) } ba' (fun _ _=>rfl) ⟨rfl,rfl⟩)
      go_wp2_with (first|(go_at_call 53;(with_reducible refine (me' HS1.o i true HIN.o ct1).mono ?_);rintro e w7 ⟨rfl,h2⟩;replace h2:=h2.symm;subst h2))
      (go_roundg k1;(case measure=>omega);(case rel=>exact ⟨i + 1,_,Da',⟨aa',fa',ga'⟩,HT,⟨by rw [zAt,List.length_set];exact HLN.o⟩,HS2⟩))
     have cb2 : (rd s.lb i == 2) = false:=by simpa using c2
     rw [if_neg (fun h=>c2 h.2)] at h
     have HT:=qz.mk h
     clear h c1 c2
     go_wp2_with (first|(go_at_call 53;(with_reducible refine (me' HS1.o i true HIN.o ct1).mono ?_);rintro e w7 ⟨rfl,h2⟩;replace h2:=h2.symm;subst h2))
     (go_roundg k1;(case measure=>omega);(case rel=>exact ⟨i + 1,_,Da',⟨aa',fa',ga'⟩,HT,HLN,HS1⟩))
   rw [if_neg c] at h
   have cl0 : decide (i < (s.nd.length : Int)) = false:=decide_eq_false c
   subst h
   clear c HI
   by_cases cz : l = 0
   ·have cz0 : (l == 0) = true:=by simpa using cz
    have hR:=HR.o
    try dsimp only at hR
    rw [if_pos cz] at hR
    subst hR
    clear cz
    go_wp2_with fail
    go_ret
    exact ⟨rfl,HS1.o⟩
   have cz0 : (l == 0) = false:=by simpa using cz
   have hR:=HR.o
   try dsimp only at hR
   rw [if_neg cz] at hR
   clear cz HR
   have HQ:=qz.mk (Dg' HS1.o HWZ.o (by rw [HLN.o];exact HE.o) ⟨pa',by show N ≤ (nd.length : Int);have:=HLN.o;have:=H0.o;omega⟩ (by show s.lb.length = nd.length;rw [HL.o,HLN.o]) (by show nd.length ≤ 1000000;have:=HLN.o;have:=H0.o;omega) 2 rz (by rw [← HRZ.o];show Zd' nd s.lb 2 (nd.length + 1) N = _;rw [HLN.o]) HUU.o)
   by_cases cr : rz = -1
   ·rw [if_pos cr] at hR
    subst hR
    go_wp2_with (first|(go_at_call 70;refine HQ.o.mono ?_;rintro e w8 (⟨-,rfl,hs⟩|⟨hx,-⟩);replace hs:=hs.symm;subst hs;rotate_left;exact absurd cr hx))
    go_ret
    exact ⟨rfl,HS1.o⟩
   rw [if_neg cr] at hR
   subst hR
   go_wp2_with (first|(go_at_call 70;refine HQ.o.mono ?_;rintro e w8 (⟨hx,-⟩|⟨-,rfl,hs⟩);exact absurd hx cr;have HSF:=qz.mk hs;clear hs))
   go_ret
   exact ⟨rfl,HSF.o⟩
end Go.Proofs.YtnffimpoekjkpaaGreat.QFnExactSolve
