/- The program's solver: unfoldFirst. -/
import Derived.Test.YtnffimpoekjkpaaZFnExactRoundsx28
namespace Go.Proofs.Ytnffimpoekjkpaa.QFnExactRounds
open Go.RowKit Go.Proofs.YtnffimpoekjkpaaW.PrintWords Go.Proofs.YtnffimpoekjkpaaW.PrintLast Go.Proofs.YtnffimpoekjkpaaW.PrintMore
attribute [local go_sem] max2_int min2_int max_two min_two max_three min_three max_four min_four
set_option linter.unusedVariables false
set_option linter.unusedSimpArgs false
/-- What a ring must be that is opened. -/
structure UOk (es : List (S51)) (nd : List (S60)) (n : Int) : Prop where
 mate : (rd_T60 nd n).f3 = -1 ∨ inR (rd_T60 nd n).f3 es.length
 hold : holdI nd es n = -1 ∨ inR (holdI nd es n) nd.length
 mem : ∀ m ∈ (rd_T60 nd n).f0,inR m nd.length
 pos : 0 < (rd_T60 nd n).f0.length
 lk : (rd_T60 nd n).f0.length ≤ (rd_T60 nd n).f1.length
 sz : (rd_T60 nd n).f0.length ≤ 1000000
def firstF (nd : List (S60)) (lb : List Int) (label : Int) : Nat → Int → Int
 | 0,_=>-1
 | k + 1,i=>if i < (nd.length : Int) then if isTopB (rd_T60 nd i) = true ∧ (rd_T60 nd i).f5 = 0 ∧ (label = 0 ∨ rd lb i = label) then i else firstF nd lb label k (i + 1) else -1
theorem firstF_in {nd : List (S60)} {lb : List Int} {label : Int} : ∀ (k : Nat) (i : Int),0 ≤ i → firstF nd lb label k i = -1 ∨ inR (firstF nd lb label k i) nd.length
 | 0,_,_=>.inl rfl
 | k + 1,i,hi=>by
  rw [firstF]
  split
  ·rename_i c
   split
   ·exact .inr ⟨hi,c⟩
   exact firstF_in k (i + 1) (by omega)
  exact .inl rfl
set_option maxHeartbeats 8000000 in
set_option maxRecDepth 100000 in
theorem unfoldFirst_calls {w0 W : World} {g : Nat} {N : Int} {Ae : Option Addr} {ce : Nat} {es : List (S51)} {col : Nat → Nat} {vy vn vl va vb : Value} {s : SI} (hS : Sol w0 W g N Ae ce es col vy vn vl va vb s) (hw : WFn s.nd) (ho : EOk es s.nd.length) (hN : 0 ≤ N ∧ N ≤ s.nd.length) (hl : s.lb.length = s.nd.length) (hsz : s.nd.length ≤ 1000000) (label r : Int)
  (h : firstF s.nd s.lb label (s.nd.length + 1) N = r) (hU : r ≠ -1 → UOk es s.nd r) :
  Calls Try.prog 38 #[.pointer (some ⟨g,0,none⟩),.int .i64 label] W fun e w'=>(r = -1 ∧ e = .returned (.bool false) ∧ w' = W) ∨ (r ≠ -1 ∧ e = .returned (.bool true) ∧ Sol w0 w' g N Ae ce es col vy vn vl va vb { s with nd:=unfoldI es s.nd r }):=by
 have hu47:=Try.underlying47
 have hu60:=Try.underlying60
 have hu51:=Try.underlying51
 have hu29:=Try.underlying29
 have HS:=qy.mk hS
 clear hS
 obtain ⟨An,cn,e_⟩:=Kd.R_slice HS.out.rn
 subst e_
 obtain ⟨Al,cl,e_⟩:=Kd.R_slice HS.out.rl
 rw [hl] at e_
 subst e_
 have HW:=qy.mk hw
 have HE:=qy.mk ho
 have HT:=qy.mk h
 have HL:=qy.mk hl
 have H0:=qy.mk hsz
 have HNN:=qy.mk hN
 have HUU:=qy.mk hU
 have hc:=HS.out.cells
 clear hw ho hN hl h hsz hU
 go_enter Try.func38,Try.ntmps38
 go_wp2_with fail
 go_loopg [5] (s.nd.length + 1) (fun kq v5 w'=>∃ i : Int,v5 = .int .i64 i ∧ qy (0 ≤ i ∧ s.nd.length + 1 ≤ i + kq ∧ i ≤ s.nd.length) ∧ qy (firstF s.nd s.lb label kq i = r) ∧ W = w')
 case atStart=>exact ⟨N,rfl,⟨by have:=HNN.out;omega,by have:=HNN.out;omega,by have:=HNN.out;omega⟩,HT,rfl⟩
 clear HT
 obtain ⟨i,rfl,HI,HT,rfl⟩:=hrel
 cases gk with
 | zero =>
  exfalso
  have h1:=HI.out
  omega
 | succ k1 =>
  have h:=HT.out
  clear HT
  rw [firstF] at h
  by_cases c : i < (s.nd.length : Int)
  ·rw [if_pos c] at h
   have hi0:=HI.out.1
   have HIN : qy (inR i s.nd.length):=⟨hi0,c⟩
   have cl0 : decide (i < (s.nd.length : Int)) = true:=decide_eq_true c
   have pi:=eq_true hi0
   have qi:=eq_true c
   have hp0 : 0 < s.nd.length:=by omega
   obtain ⟨bn,_,e_,-⟩:=row_at HS.out.rn hp0
   injection e_ with e_ e2_ e3_
   clear e2_ e3_
   subst e_
   obtain ⟨bl,_,e_,-⟩:=row_at HS.out.rl (by rw [HL.out];exact hp0)
   injection e_ with e_ e2_ e3_
   clear e2_ e3_
   subst e_
   clear hp0
   obtain ⟨A0n,c0n,A1n,c1n,nx0,nx1,nx2,nx3,nx4,nx5,nx6,nf2,nf3,nf5,nf6,-⟩:=HS.out.node_at i hi0 c
   obtain ⟨xl,fl⟩:=int_at HS.out.rl i hi0 (by rw [HL.out];exact c)
   clear c
   cases ct1 : isTopB (rd_T60 s.nd i) with
   | false =>
    rw [if_neg (fun h=>by rw [ct1] at h;exact absurd h.1 (by decide))] at h
    have HT:=qy.mk h
    clear h
    go_wp2_with (first|(go_at_call 50;(with_reducible refine (isTop_calls' HS.out i false HIN.out ct1).mono ?_);rintro e w7 ⟨rfl,h2⟩;replace h2:=h2.symm;subst h2))
    (go_roundg k1;(case measure=>omega);(case rel=>exact ⟨i + 1,by rw [w64 (by have:=HI.out;omega) (by have:=HIN.out.2;have:=H0.out;omega)],⟨by have:=HI.out;omega,by have:=HI.out;omega,by have:=HIN.out.2;omega⟩,HT,rfl⟩))
   | true =>
    by_cases cz : (rd_T60 s.nd i).f5 = 0
    ·have cz1 : ((rd_T60 s.nd i).f5 == 0) = true:=by simpa using cz
     by_cases c1 : label = 0
     ·have cb1 : (label == 0) = true:=by simpa using c1
      rw [if_pos ⟨ct1,cz,.inl c1⟩] at h
      subst h
      have HU:=HUU.out (by omega)
      have HQ:=qy.mk (unfold_calls HS.out HW.out HE.out i HIN.out HU.mate HU.hold HU.mem HU.pos HU.lk HU.sz)
      clear cz c1 HU
      go_wp2_with (first|(first|(go_at_call 50;(with_reducible refine (isTop_calls' HS.out i true HIN.out ct1).mono ?_);rintro e w7 ⟨rfl,h2⟩;replace h2:=h2.symm;subst h2))|(go_at_call 57;refine HQ.out.mono ?_;rintro e w8 ⟨rfl,hs⟩;have HSF:=qy.mk hs;clear hs))
      go_ret
      exact .inr ⟨by omega,rfl,HSF.out⟩
     have cb1 : (label == 0) = false:=by simpa using c1
     by_cases c2 : rd s.lb i = label
     ·have cb2 : (rd s.lb i == label) = true:=by simpa using c2
      rw [if_pos ⟨ct1,cz,.inr c2⟩] at h
      subst h
      have HU:=HUU.out (by omega)
      have HQ:=qy.mk (unfold_calls HS.out HW.out HE.out i HIN.out HU.mate HU.hold HU.mem HU.pos HU.lk HU.sz)
      clear cz c1 c2 HU
      go_wp2_with (first|(first|(go_at_call 50;(with_reducible refine (isTop_calls' HS.out i true HIN.out ct1).mono ?_);rintro e w7 ⟨rfl,h2⟩;replace h2:=h2.symm;subst h2))|(go_at_call 57;refine HQ.out.mono ?_;rintro e w8 ⟨rfl,hs⟩;have HSF:=qy.mk hs;clear hs))
      go_ret
      exact .inr ⟨by omega,rfl,HSF.out⟩
     have cb2 : (rd s.lb i == label) = false:=by simpa using c2
     rw [if_neg (fun h=>h.2.2.elim c1 c2)] at h
     have HT:=qy.mk h
     clear h cz c1 c2
     go_wp2_with (first|(go_at_call 50;(with_reducible refine (isTop_calls' HS.out i true HIN.out ct1).mono ?_);rintro e w7 ⟨rfl,h2⟩;replace h2:=h2.symm;subst h2))
     (go_roundg k1;(case measure=>omega);(case rel=>exact ⟨i + 1,by rw [w64 (by have:=HI.out;omega) (by have:=HIN.out.2;have:=H0.out;omega)],⟨by have:=HI.out;omega,by have:=HI.out;omega,by have:=HIN.out.2;omega⟩,HT,rfl⟩))
    have cz1 : ((rd_T60 s.nd i).f5 == 0) = false:=by simpa using cz
    rw [if_neg (fun h=>cz h.2.1)] at h
    have HT:=qy.mk h
    clear h cz
    go_wp2_with (first|(go_at_call 50;(with_reducible refine (isTop_calls' HS.out i true HIN.out ct1).mono ?_);rintro e w7 ⟨rfl,h2⟩;replace h2:=h2.symm;subst h2))
    (go_roundg k1;(case measure=>omega);(case rel=>exact ⟨i + 1,by rw [w64 (by have:=HI.out;omega) (by have:=HIN.out.2;have:=H0.out;omega)],⟨by have:=HI.out;omega,by have:=HI.out;omega,by have:=HIN.out.2;omega⟩,HT,rfl⟩))
  rw [if_neg c] at h
  subst h
  have cl0 : decide (i < (s.nd.length : Int)) = false:=decide_eq_false c
  clear c
  go_wp2_with fail
  go_ret
  first|exact .inl ⟨rfl,rfl,rfl⟩|exact ⟨rfl,rfl⟩
end Go.Proofs.Ytnffimpoekjkpaa.QFnExactRounds
