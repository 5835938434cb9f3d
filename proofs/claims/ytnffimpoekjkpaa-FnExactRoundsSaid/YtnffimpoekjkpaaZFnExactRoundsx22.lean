/- The program's solver: hold, ends, other, slack. -/
import Derived.Test.YtnffimpoekjkpaaZFnExactRoundsx21
import Derived.Outline
import Derived.Deep.QuietTactic
import Derived.BigQuiet
namespace Go.Proofs.Ytnffimpoekjkpaa.QFnExactRounds
open Go.RowKit Go.Proofs.YtnffimpoekjkpaaW.PrintWords Go.Proofs.YtnffimpoekjkpaaW.PrintLast Go.Proofs.YtnffimpoekjkpaaW.PrintMore
attribute [local go_sem] max2_int min2_int max_two min_two max_three min_three max_four min_four
set_option linter.unusedVariables false
set_option linter.unusedSimpArgs false
/-- The nodes are a forest that grows upward. -/
def WFn (nd : List (S60)) : Prop:=∀ i : Int,inR i nd.length → (rd_T60 nd i).f2 = -1 ∨ (i < (rd_T60 nd i).f2 ∧ (rd_T60 nd i).f2 < (nd.length : Int))
def EOk (es : List (S51)) (n : Nat) : Prop:=∀ e : Int,inR e es.length → inR (rd_T51 es e).f0 n ∧ inR (rd_T51 es e).f1 n
theorem topF_ok {nd : List (S60)} (hw : WFn nd) : ∀ (k : Nat) (n : Int),inR n nd.length → (nd.length : Int) < n + k → ∃ r,topF nd k n = some r ∧ inR r nd.length
 | 0,n,hn,hk=>absurd hk (by have:=hn.2;omega)
 | k + 1,n,hn,hk=>by
  rw [topF,if_pos hn]
  by_cases c : (rd_T60 nd n).f2 = -1
  ·rw [if_pos c]
   exact ⟨n,rfl,hn⟩
  rw [if_neg c]
  have:=(hw n hn).resolve_left c
  have h0:=hn.1
  exact topF_ok hw k _ ⟨by omega,this.2⟩ (by omega)
def topI (nd : List (S60)) (n : Int) : Int:=(topF nd (nd.length + 1) n).getD 0
theorem top_is {nd : List (S60)} (hw : WFn nd) {n : Int} (hn : inR n nd.length) : topF nd (nd.length + 1) n = some (topI nd n):=by
 obtain ⟨r,hr,_⟩:=topF_ok hw (nd.length + 1) n hn (by have:=hn.1;omega)
 rw [topI,hr]
 rfl
theorem topI_in {nd : List (S60)} (hw : WFn nd) {n : Int} (hn : inR n nd.length) : inR (topI nd n) nd.length:=by
 obtain ⟨r,hr,h⟩:=topF_ok hw (nd.length + 1) n hn (by have:=hn.1;omega)
 rw [topI,hr]
 exact h
theorem hasF_ok {nd : List (S60)} (hw : WFn nd) (n : Int) : ∀ (k : Nat) (v : Int),0 < k → v = -1 ∨ inR v nd.length ∧ (nd.length : Int) + 1 < v + k → ∃ r,hasF nd n k v = some r
 | 0,v,hp,hk=>absurd hp (by omega)
 | k + 1,v,hp,hk=>by
  rw [hasF]
  by_cases c : v = -1
  ·rw [if_pos c]
   exact ⟨_,rfl⟩
  rw [if_neg c]
  obtain ⟨hv,hk⟩:=hk.resolve_left c
  by_cases d : v = n
  ·rw [if_pos d]
   exact ⟨_,rfl⟩
  rw [if_neg d,if_pos hv]
  have h0:=hv.1
  have h1:=hv.2
  refine hasF_ok hw n k _ (by omega) ?_
  rcases hw v hv with h|h
  ·exact .inl h
  exact .inr ⟨⟨by omega,h.2⟩,by omega⟩
def hasI (nd : List (S60)) (n v : Int) : Bool:=(hasF nd n (nd.length + 2) v).getD false
theorem has_is {nd : List (S60)} (hw : WFn nd) (n : Int) {v : Int} (hv : v = -1 ∨ inR v nd.length) : hasF nd n (nd.length + 2) v = some (hasI nd n v):=by
 obtain ⟨r,hr⟩:=hasF_ok hw n (nd.length + 2) v (by omega) (hv.imp_right fun h=>⟨h,by have:=h.1;omega⟩)
 rw [hasI,hr]
 rfl
def holdI (nd : List (S60)) (es : List (S51)) (n : Int) : Int:=if (rd_T60 nd n).f3 = -1 then (rd_T60 nd n).f4 else if hasI nd n (rd_T51 es (rd_T60 nd n).f3).f0 = true then (rd_T51 es (rd_T60 nd n).f3).f0 else (rd_T51 es (rd_T60 nd n).f3).f1
set_option maxHeartbeats 8000000 in
set_option maxRecDepth 100000 in
theorem hold_calls {w0 W : World} {g : Nat} {N : Int} {Ae : Option Addr} {ce : Nat} {es : List (S51)} {col : Nat → Nat} {vy vn vl va vb : Value} {s : SI} (hS : Sol w0 W g N Ae ce es col vy vn vl va vb s) (hw : WFn s.nd) (ho : EOk es s.nd.length) (n : Int) (hn : inR n s.nd.length) (hm : (rd_T60 s.nd n).f3 = -1 ∨ inR (rd_T60 s.nd n).f3 es.length) :
  Calls Try.prog 62 #[.pointer (some ⟨g,0,none⟩),.int .i64 n] W fun e w'=>e = .returned (.int .i64 (holdI s.nd es n)) ∧ w' = W:=by
 have hu47:=Try.underlying47
 have hu60:=Try.underlying60
 have hu51:=Try.underlying51
 have hu29:=Try.underlying29
 have HS:=qy.mk hS
 clear hS
 obtain ⟨An,cn,e_⟩:=Kd.R_slice HS.out.rn
 subst e_
 have hc:=HS.out.cells
 obtain ⟨p,q⟩:=hn
 obtain ⟨ad,A0,c0,A1,c1,eA,hx0,hx1,hx2,hx3,hx4,hx5,hx6,-⟩:=at_T60 (Kd.R_reads' HS.out.rn).2.2 n p q
 subst eA
 replace p:=eq_true p
 replace q:=eq_true q
 rw [holdI]
 by_cases c : (rd_T60 s.nd n).f3 = -1
 ·have cb : ((rd_T60 s.nd n).f3 == -1) = true:=by simpa using c
  rw [if_pos c]
  clear c hm hw ho
  go_enter Try.func62,Try.ntmps62
  go_wp2
  go_ret
  exact ⟨rfl,rfl⟩
 have cb : ((rd_T60 s.nd n).f3 == -1) = false:=by simpa using c
 replace hm:=hm.resolve_left c
 rw [if_neg c]
 clear c
 have hA:=has_is hw n (v:=(rd_T51 es (rd_T60 s.nd n).f3).f0) (.inr (ho _ hm).1)
 obtain ⟨pE,qE⟩:=hm
 obtain ⟨adE,eAE,he0E,he1E,he2E,he3E,he4E⟩:=at_T51 (Kd.C_below HS.out.he HS.out.hb) ((rd_T60 s.nd n).f3) pE qE
 subst eAE
 replace pE:=eq_true pE
 replace qE:=eq_true qE
 cases b : hasI s.nd n (rd_T51 es (rd_T60 s.nd n).f3).f0 with
 | true =>
  rw [b] at hA
  rw [if_pos rfl]
  have HA:=qy.mk hA
  clear hA hw ho b
  go_enter Try.func62,Try.ntmps62
  go_wp2_with (first|(go_at_call 63;(with_reducible refine (has_calls (by first|exact HS.out|exact HS.out.to) _ n _ true HA.out).mono ?_);rintro e w2 ⟨rfl,rfl⟩))
  go_ret
  exact ⟨rfl,rfl⟩
 | false =>
  rw [b] at hA
  rw [if_neg (by decide)]
  have HA:=qy.mk hA
  clear hA hw ho b
  go_enter Try.func62,Try.ntmps62
  go_wp2_with (first|(go_at_call 63;(with_reducible refine (has_calls (by first|exact HS.out|exact HS.out.to) _ n _ false HA.out).mono ?_);rintro e w2 ⟨rfl,rfl⟩))
  go_ret
  exact ⟨rfl,rfl⟩
set_option maxHeartbeats 8000000 in
set_option maxRecDepth 100000 in
theorem ends_calls {w0 W : World} {g : Nat} {N : Int} {Ae : Option Addr} {ce : Nat} {es : List (S51)} {col : Nat → Nat} {vy vn vl va vb : Value} {s : SI} (hS : Sol w0 W g N Ae ce es col vy vn vl va vb s) (hw : WFn s.nd) (ho : EOk es s.nd.length) (i : Int) (hi : inR i es.length) :
  Calls Try.prog 60 #[.pointer (some ⟨g,0,none⟩),.int .i64 i] W fun e w'=>e = .returned (.tuple #[.int .i64 (topI s.nd (rd_T51 es i).f0),.int .i64 (topI s.nd (rd_T51 es i).f1)]) ∧ ∃ m,w' = W.drewN m:=by
 have hu47:=Try.underlying47
 have hu60:=Try.underlying60
 have hu51:=Try.underlying51
 have hu29:=Try.underlying29
 have HS:=qy.mk hS
 clear hS
 have hc:=HS.out.cells
 have HA:=qy.mk (top_is hw (ho i hi).1)
 have HB:=qy.mk (top_is hw (ho i hi).2)
 clear hw ho
 obtain ⟨pE,qE⟩:=hi
 obtain ⟨adE,eAE,he0E,he1E,he2E,he3E,he4E⟩:=at_T51 (Kd.C_below HS.out.he HS.out.hb) (i) pE qE
 subst eAE
 replace pE:=eq_true pE
 replace qE:=eq_true qE
 go_enter Try.func60,Try.ntmps60
 go_wp2_with fail
 go_quiet ((go_at_call 35;first|exact Calls.quiet_of_same (top_calls (by first|exact HS.out|exact HS.out.to) _ _ _ HA.out)|exact Calls.quiet_of_same (top_calls (by first|exact HS.out|exact HS.out.to) _ _ _ HB.out)))
 go_wp2
 go_ret2
 exact ⟨rfl,_,rfl⟩
end Go.Proofs.Ytnffimpoekjkpaa.QFnExactRounds
