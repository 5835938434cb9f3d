/- The program's solver: what only reads: top, isTop, has, hold, root, way. -/
import Derived.Test.YtnffimpoekjkpaaZFnExactRoundsx20
import Derived.Outline
namespace Go.Proofs.Ytnffimpoekjkpaa.QFnExactRounds
open Go.RowKit Go.Proofs.YtnffimpoekjkpaaW.PrintWords Go.Proofs.YtnffimpoekjkpaaW.PrintLast Go.Proofs.YtnffimpoekjkpaaW.PrintMore
attribute [local go_sem] max2_int min2_int max_two min_two max_three min_three max_four min_four
set_option linter.unusedVariables false
set_option linter.unusedSimpArgs false
/-- An index is in its list. -/
def inR (i : Int) (n : Nat) : Prop:=0 ≤ i ∧ i < (n : Int)
instance (i : Int) (n : Nat) : Decidable (inR i n):=by unfold inR;infer_instance
def topF (nd : List (S60)) : Nat → Int → Option Int
 | 0,_=>none
 | k + 1,n=>if inR n nd.length then if (rd_T60 nd n).f2 = -1 then some n else topF nd k (rd_T60 nd n).f2 else none
set_option maxHeartbeats 8000000 in
set_option maxRecDepth 100000 in
theorem top_calls {w0 W : World} {g : Nat} {N : Int} {Ae : Option Addr} {ce : Nat} {es : List (S51)} {col : Nat → Nat} {vy vn vl va vb : Value} {s : SI} (hS : Sol w0 W g N Ae ce es col vy vn vl va vb s) (k : Nat) (n r : Int) (h : topF s.nd k n = some r) :
  Calls Try.prog 35 #[.pointer (some ⟨g,0,none⟩),.int .i64 n] W fun e w'=>e = .returned (.int .i64 r) ∧ w' = W:=by
 have hu47:=Try.underlying47
 have hu60:=Try.underlying60
 have hu51:=Try.underlying51
 have hu29:=Try.underlying29
 have HS:=qy.mk hS
 clear hS
 have HT:=qy.mk h
 clear h
 obtain ⟨An,cn,e_⟩:=Kd.R_slice HS.out.rn
 subst e_
 have hc:=HS.out.cells
 go_enter Try.func35,Try.ntmps35
 go_wp2
 go_loopg [1] k (fun kq v1 w'=>∃ n : Int,v1 = .int .i64 n ∧ qy (topF s.nd kq n = some r) ∧ w' = W)
 case atStart=>exact ⟨n,rfl,HT,rfl⟩
 clear HT
 obtain ⟨n,rfl,HT,rfl⟩:=hrel
 have h:=HT.out
 clear HT
 obtain _|k1:=gk
 ·cases h
 rw [topF] at h
 by_cases c : inR n s.nd.length
 ·rw [if_pos c] at h
  obtain ⟨p,q⟩:=c
  obtain ⟨ad,A0,c0,A1,c1,eA,hx0,hx1,hx2,hx3,hx4,hx5,hx6,-⟩:=at_T60 (Kd.R_reads' HS.out.rn).2.2 n p q
  subst eA
  replace p:=eq_true p
  replace q:=eq_true q
  by_cases ci : (rd_T60 s.nd n).f2 = -1
  ·rw [if_pos ci] at h
   obtain rfl:=Option.some.inj h
   have cb : ((rd_T60 s.nd n).f2 != -1) = false:=by simpa using ci
   clear ci h
   go_wp2
   go_ret
   exact ⟨rfl,rfl⟩
  rw [if_neg ci] at h
  have cb : ((rd_T60 s.nd n).f2 != -1) = true:=by simpa using ci
  have HT:=qy.mk h
  clear ci h
  go_wp2
  go_roundg k1
  case measure=>omega
  case rel=>exact ⟨_,rfl,HT,rfl⟩
 rw [if_neg c] at h
 cases h
def isTopB (x : S60) : Bool:=decide (x.f2 = -1) && !x.f6
set_option maxHeartbeats 8000000 in
set_option maxRecDepth 100000 in
theorem isTop_calls {w0 W : World} {g : Nat} {N : Int} {Ae : Option Addr} {ce : Nat} {es : List (S51)} {col : Nat → Nat} {vy vn vl va vb : Value} {s : SI} (hS : Sol w0 W g N Ae ce es col vy vn vl va vb s) (n : Int) (hn : inR n s.nd.length) :
  Calls Try.prog 50 #[.pointer (some ⟨g,0,none⟩),.int .i64 n] W fun e w'=>e = .returned (.bool (isTopB (rd_T60 s.nd n))) ∧ w' = W:=by
 have hu47:=Try.underlying47
 have hu60:=Try.underlying60
 have hu51:=Try.underlying51
 have hu29:=Try.underlying29
 have HS:=qy.mk hS
 clear hS
 obtain ⟨An,cn,e_⟩:=Kd.R_slice HS.out.rn
 subst e_
 have hc:=HS.out.cells
 obtain ⟨p,q⟩:=hn
 obtain ⟨ad,A0,c0,A1,c1,eA,hx0,hx1,hx2,hx3,hx4,hx5,hx6,-⟩:=at_T60 (Kd.R_reads' HS.out.rn).2.2 n p q
 subst eA
 replace p:=eq_true p
 replace q:=eq_true q
 unfold isTopB
 by_cases ci : (rd_T60 s.nd n).f2 = -1
 ·have cb : ((rd_T60 s.nd n).f2 == -1) = true:=by simpa using ci
  rw [decide_eq_true ci,Bool.true_and]
  clear ci
  go_enter Try.func50,Try.ntmps50
  go_wp2
  go_ret
  exact ⟨rfl,rfl⟩
 have cb : ((rd_T60 s.nd n).f2 == -1) = false:=by simpa using ci
 rw [decide_eq_false ci,Bool.false_and]
 clear ci
 go_enter Try.func50,Try.ntmps50
 go_wp2
 go_ret
 exact ⟨rfl,rfl⟩
def hasF (nd : List (S60)) (n : Int) : Nat → Int → Option Bool
 | 0,_=>none
 | k + 1,v=>if v = -1 then some (decide (n = -1)) else if v = n then some true else if inR v nd.length then hasF nd n k (rd_T60 nd v).f2 else none
set_option maxHeartbeats 8000000 in
set_option maxRecDepth 100000 in
theorem has_calls {w0 W : World} {g : Nat} {N : Int} {Ae : Option Addr} {ce : Nat} {es : List (S51)} {col : Nat → Nat} {vy vn vl va vb : Value} {s : SI} (hS : Sol w0 W g N Ae ce es col vy vn vl va vb s) (k : Nat) (n v : Int) (r : Bool) (h : hasF s.nd n k v = some r) :
  Calls Try.prog 63 #[.pointer (some ⟨g,0,none⟩),.int .i64 n,.int .i64 v] W fun e w'=>e = .returned (.bool r) ∧ w' = W:=by
 have hu47:=Try.underlying47
 have hu60:=Try.underlying60
 have hu51:=Try.underlying51
 have hu29:=Try.underlying29
 have HS:=qy.mk hS
 clear hS
 have HT:=qy.mk h
 clear h
 obtain ⟨An,cn,e_⟩:=Kd.R_slice HS.out.rn
 subst e_
 have hc:=HS.out.cells
 go_enter Try.func63,Try.ntmps63
 go_wp2
 go_loopg [2] k (fun kq v2 w'=>∃ v : Int,v2 = .int .i64 v ∧ qy (hasF s.nd n kq v = some r) ∧ w' = W)
 case atStart=>exact ⟨v,rfl,HT,rfl⟩
 clear HT
 obtain ⟨v,rfl,HT,rfl⟩:=hrel
 have h:=HT.out
 clear HT
 obtain _|k1:=gk
 ·cases h
 rw [hasF] at h
 by_cases cv : v = -1
 ·rw [if_pos cv] at h
  obtain rfl:=Option.some.inj h
  have cb : (v != -1) = false:=by simpa using cv
  have ce : (v == n) = decide (n = -1):=by rw [cv,Bool.eq_iff_iff,beq_iff_eq,decide_eq_true_eq];exact eq_comm
  clear cv h
  go_wp2
  go_ret
  exact ⟨rfl,rfl⟩
 rw [if_neg cv] at h
 have cb : (v != -1) = true:=by simpa using cv
 clear cv
 by_cases cn : v = n
 ·rw [if_pos cn] at h
  obtain rfl:=Option.some.inj h
  have cb2 : (v != n) = false:=by simpa using cn
  have ce : (v == n) = true:=by simpa using cn
  clear cn h
  go_wp2
  go_ret
  exact ⟨rfl,rfl⟩
 rw [if_neg cn] at h
 have cb2 : (v != n) = true:=by simpa using cn
 clear cn
 by_cases c : inR v s.nd.length
 ·rw [if_pos c] at h
  have HT:=qy.mk h
  clear h
  obtain ⟨p,q⟩:=c
  obtain ⟨ad,A0,c0,A1,c1,eA,hx0,hx1,hx2,hx3,hx4,hx5,hx6,-⟩:=at_T60 (Kd.R_reads' HS.out.rn).2.2 v p q
  subst eA
  replace p:=eq_true p
  replace q:=eq_true q
  go_wp2
  go_roundg k1
  case measure=>omega
  case rel=>exact ⟨_,rfl,HT,rfl⟩
 rw [if_neg c] at h
 cases h
def rootF (ah : List Int) : Nat → Int → Option Int
 | 0,_=>none
 | k + 1,n=>if inR n ah.length then if rd ah n = -1 then some n else rootF ah k (rd ah n) else none
set_option maxHeartbeats 8000000 in
set_option maxRecDepth 100000 in
theorem root_calls {w0 W : World} {g : Nat} {N : Int} {Ae : Option Addr} {ce : Nat} {es : List (S51)} {col : Nat → Nat} {vy vn vl va vb : Value} {s : SI} (hS : Sol w0 W g N Ae ce es col vy vn vl va vb s) (k : Nat) (n r : Int) (h : rootF s.ah k n = some r) :
  Calls Try.prog 34 #[.pointer (some ⟨g,0,none⟩),.int .i64 n] W fun e w'=>e = .returned (.int .i64 r) ∧ w' = W:=by
 have hu47:=Try.underlying47
 have hu60:=Try.underlying60
 have hu51:=Try.underlying51
 have hu29:=Try.underlying29
 have HS:=qy.mk hS
 clear hS
 have HT:=qy.mk h
 clear h
 obtain ⟨An,cn,e_⟩:=Kd.R_slice HS.out.ra
 subst e_
 have hc:=HS.out.cells
 go_enter Try.func34,Try.ntmps34
 go_wp2
 go_loopg [1] k (fun kq v1 w'=>∃ n : Int,v1 = .int .i64 n ∧ qy (rootF s.ah kq n = some r) ∧ w' = W)
 case atStart=>exact ⟨n,rfl,HT,rfl⟩
 clear HT
 obtain ⟨n,rfl,HT,rfl⟩:=hrel
 have h:=HT.out
 clear HT
 obtain _|k1:=gk
 ·cases h
 rw [rootF] at h
 by_cases c : inR n s.ah.length
 ·rw [if_pos c] at h
  obtain ⟨p,q⟩:=c
  obtain ⟨ad,eA,hx0⟩:=Kd.at_int (Kd.R_reads' HS.out.ra).2.2 n p q
  subst eA
  replace p:=eq_true p
  replace q:=eq_true q
  by_cases ci : rd s.ah n = -1
  ·rw [if_pos ci] at h
   obtain rfl:=Option.some.inj h
   have cb : (rd s.ah n != -1) = false:=by simpa using ci
   clear ci h
   go_wp2
   go_ret
   exact ⟨rfl,rfl⟩
  rw [if_neg ci] at h
  have cb : (rd s.ah n != -1) = true:=by simpa using ci
  have HT:=qy.mk h
  clear ci h
  go_wp2
  go_roundg k1
  case measure=>omega
  case rel=>exact ⟨_,rfl,HT,rfl⟩
 rw [if_neg c] at h
 cases h
end Go.Proofs.Ytnffimpoekjkpaa.QFnExactRounds
