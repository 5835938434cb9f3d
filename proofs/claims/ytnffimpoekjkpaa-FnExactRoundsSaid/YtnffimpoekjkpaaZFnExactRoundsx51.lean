/- The reference's solver: what only reads: l10Top, l10Within, l10IsTop. -/
import Derived.Test.YtnffimpoekjkpaaZFnExactRoundsx50
import Derived.Test.YtnffimpoekjkpaaZFnExactRoundsx40
import Derived.Outline
namespace Go.Proofs.Ytnffimpoekjkpaa.QFnExactRounds
open Go.RowKit Go.Proofs.YtnffimpoekjkpaaW.PrintWords Go.Proofs.YtnffimpoekjkpaaW.PrintLast Go.Proofs.YtnffimpoekjkpaaW.PrintMore
attribute [local go_sem] max2_int min2_int max_two min_two max_three min_three max_four min_four
set_option linter.unusedVariables false
set_option linter.unusedSimpArgs false
/-- The reference's node as one of the program's. -/
def cv (x : S55) : S60:=⟨x.f0,[],x.f4,0,x.f2,x.f3,x.f5⟩
def cvs (nd : List S55) : List S60:=nd.map cv
theorem cvs_len (nd : List S55) : (cvs nd).length = nd.length:=List.length_map ..
theorem rd_cvs (nd : List S55) (i : Int) : rd_T60 (cvs nd) i = cv (rd_T55 nd i):=by
 unfold rd_T60 rd_T55 cvs
 rw [show z60 = cv z55 from rfl]
 simp only [List.getD_eq_getElem?_getD,List.getElem?_map]
 cases nd[i.toNat]? <;> rfl
theorem up_nonneg {nd : List S60} (hw : WFn nd) {v : Int} (hv : inR v nd.length) : decide ((rd_T60 nd v).f2 ≥ 0) = !decide ((rd_T60 nd v).f2 = -1):=by
 have:=hv.1
 rcases hw v hv with h|h
 ·rw [h];decide
 rw [decide_eq_true (show (rd_T60 nd v).f2 ≥ 0 by omega),decide_eq_false (by omega)];rfl
set_option maxHeartbeats 8000000 in
set_option maxRecDepth 100000 in
theorem l10Top_calls {w0 W : World} {Z : Nat → Prop} {wz : World} {g : Nat} {N : Int} {Ae : Option Addr} {ce : Nat} {es : List (S51)} {col : Nat → Nat} {vy vn vm : Value} {s : RI} (hS : Rn w0 W Z wz g N Ae ce es col vy vn vm s) (k : Nat) (n r : Int) (hw : WFn (cvs s.nd)) (h : topF (cvs s.nd) k n = some r) :
  Calls Try.prog 28 #[.pointer (some ⟨g,0,none⟩),.int .i64 n] W fun e w'=>e = .returned (.int .i64 r) ∧ w' = W:=by
 have hu39:=Try.underlying39
 have hu55:=Try.underlying55
 have hu77:=Try.underlying77
 have hu51:=Try.underlying51
 have hu29:=Try.underlying29
 have HS:=qy.mk hS
 clear hS
 have HT:=qy.mk h
 have HW:=qy.mk hw
 clear h hw
 obtain ⟨An,cn,e_⟩:=Kd.R_slice HS.out.rn
 subst e_
 have hc:=HS.out.cells
 go_enter Try.func28,Try.ntmps28
 go_wp2
 go_loopg [1] k (fun kq v1 w'=>∃ n : Int,v1 = .int .i64 n ∧ qy (topF (cvs s.nd) kq n = some r) ∧ w' = W)
 case atStart=>exact ⟨n,rfl,HT,rfl⟩
 clear HT
 obtain ⟨n,rfl,HT,rfl⟩:=hrel
 have h:=HT.out
 clear HT
 obtain _|k1:=gk
 ·cases h
 rw [topF,rd_cvs] at h
 by_cases c : inR n (cvs s.nd).length
 ·rw [if_pos c] at h
  have hu:=up_nonneg HW.out c
  rw [rd_cvs] at hu
  rw [cvs_len] at c
  obtain ⟨p,q⟩:=c
  obtain ⟨ad,A0,c0,A1,c1,eA,hx0,hx1,hx2,hx3,hx4,hx5,-⟩:=at_T55 (Kd.R_reads' HS.out.rn).2.2 n p q
  subst eA
  replace p:=eq_true p
  replace q:=eq_true q
  by_cases ci : (rd_T55 s.nd n).f4 = -1
  ·rw [if_pos (show (cv (rd_T55 s.nd n)).f2 = -1 from ci)] at h
   obtain rfl:=Option.some.inj h
   have cb : decide ((rd_T55 s.nd n).f4 ≥ 0) = false:=hu.trans (by rw [decide_eq_true (show (cv (rd_T55 s.nd n)).f2 = -1 from ci)];rfl)
   clear ci h hu
   go_wp2
   go_ret
   exact ⟨rfl,rfl⟩
  rw [if_neg (show ¬(cv (rd_T55 s.nd n)).f2 = -1 from ci)] at h
  have cb : decide ((rd_T55 s.nd n).f4 ≥ 0) = true:=hu.trans (by rw [decide_eq_false (show ¬(cv (rd_T55 s.nd n)).f2 = -1 from ci)];rfl)
  have HT:=qy.mk h
  clear ci h hu
  go_wp2
  go_roundg k1
  case measure=>omega
  case rel=>exact ⟨_,rfl,HT,rfl⟩
 rw [if_neg c] at h
 cases h
theorem l10Top_is {w0 W : World} {Z : Nat → Prop} {wz : World} {g : Nat} {N : Int} {Ae : Option Addr} {ce : Nat} {es : List (S51)} {col : Nat → Nat} {vy vn vm : Value} {s : RI} (hS : Rn w0 W Z wz g N Ae ce es col vy vn vm s) (n : Int) (hw : WFn (cvs s.nd)) (hn : inR n s.nd.length) :
  Calls Try.prog 28 #[.pointer (some ⟨g,0,none⟩),.int .i64 n] W fun e w'=>e = .returned (.int .i64 (topI (cvs s.nd) n)) ∧ w' = W :=
 l10Top_calls hS _ n _ hw (top_is hw (by rw [cvs_len];exact hn))
def isTop5 (x : S55) : Bool:=!x.f5 && decide (x.f4 < 0)
set_option maxHeartbeats 8000000 in
set_option maxRecDepth 100000 in
theorem l10IsTop_calls {w0 W : World} {Z : Nat → Prop} {wz : World} {g : Nat} {N : Int} {Ae : Option Addr} {ce : Nat} {es : List (S51)} {col : Nat → Nat} {vy vn vm : Value} {s : RI} (hS : Rn w0 W Z wz g N Ae ce es col vy vn vm s) (n : Int) (r : Bool) (hn : inR n s.nd.length) (h : isTop5 (rd_T55 s.nd n) = r) :
  Calls Try.prog 40 #[.pointer (some ⟨g,0,none⟩),.int .i64 n] W fun e w'=>e = .returned (.bool r) ∧ w' = W:=by
 have hu39:=Try.underlying39
 have hu55:=Try.underlying55
 have hu77:=Try.underlying77
 have hu51:=Try.underlying51
 have hu29:=Try.underlying29
 have HS:=qy.mk hS
 clear hS
 obtain ⟨An,cn,e_⟩:=Kd.R_slice HS.out.rn
 subst e_
 have hc:=HS.out.cells
 obtain ⟨p,q⟩:=hn
 obtain ⟨ad,A0,c0,A1,c1,eA,hx0,hx1,hx2,hx3,hx4,hx5,-⟩:=at_T55 (Kd.R_reads' HS.out.rn).2.2 n p q
 subst eA
 replace p:=eq_true p
 replace q:=eq_true q
 subst h
 unfold isTop5
 cases cb : (rd_T55 s.nd n).f5 with
 | true =>
  rw [cb] at hx5
  go_enter Try.func40,Try.ntmps40
  go_wp2
  go_ret
  exact ⟨rfl,rfl⟩
 | false =>
  rw [cb] at hx5
  cases cd : decide ((rd_T55 s.nd n).f4 < 0) <;>
  ·go_enter Try.func40,Try.ntmps40
   go_wp2
   go_ret
   exact ⟨rfl,rfl⟩
set_option maxHeartbeats 8000000 in
set_option maxRecDepth 100000 in
theorem l10Within_calls {w0 W : World} {Z : Nat → Prop} {wz : World} {g : Nat} {N : Int} {Ae : Option Addr} {ce : Nat} {es : List (S51)} {col : Nat → Nat} {vy vn vm : Value} {s : RI} (hS : Rn w0 W Z wz g N Ae ce es col vy vn vm s) (k : Nat) (n v : Int) (r : Bool) (hw : WFn (cvs s.nd)) (hn : n ≠ -1) (hv : -1 ≤ v) (h : hasF (cvs s.nd) n k v = some r) :
  Calls Try.prog 58 #[.pointer (some ⟨g,0,none⟩),.int .i64 v,.int .i64 n] W fun e w'=>e = .returned (.bool r) ∧ w' = W:=by
 have hu39:=Try.underlying39
 have hu55:=Try.underlying55
 have hu77:=Try.underlying77
 have hu51:=Try.underlying51
 have hu29:=Try.underlying29
 have HS:=qy.mk hS
 clear hS
 have HT:=qy.mk h
 have HW:=qy.mk hw
 have HV:=qy.mk hv
 have HN:=qy.mk hn
 clear h hw hv hn
 obtain ⟨An,cn,e_⟩:=Kd.R_slice HS.out.rn
 subst e_
 have hc:=HS.out.cells
 go_enter Try.func58,Try.ntmps58
 go_wp2
 go_loopg [1] k (fun kq v1 w'=>∃ v : Int,v1 = .int .i64 v ∧ qy (-1 ≤ v) ∧ qy (hasF (cvs s.nd) n kq v = some r) ∧ w' = W)
 case atStart=>exact ⟨v,rfl,HV,HT,rfl⟩
 clear HT HV
 obtain ⟨v,rfl,HV,HT,rfl⟩:=hrel
 have h:=HT.out
 clear HT
 obtain _|k1:=gk
 ·cases h
 rw [hasF] at h
 by_cases cv : v = -1
 ·rw [if_pos cv,decide_eq_false HN.out] at h
  obtain rfl:=Option.some.inj h
  have cb : decide (v ≥ 0) = false:=by rw [decide_eq_false_iff_not];omega
  have ce : (v == n) = false:=by rw [cv];have:=HN.out;simp;omega
  clear cv h
  go_wp2
  go_ret
  exact ⟨rfl,rfl⟩
 rw [if_neg cv] at h
 have cb : decide (v ≥ 0) = true:=decide_eq_true (by have:=HV.out;omega)
 clear cv
 by_cases cn : v = n
 ·rw [if_pos cn] at h
  obtain rfl:=Option.some.inj h
  have cb2 : (v != n) = false:=by simpa using cn
  have ce : (v == n) = true:=by simpa using cn
  clear cn h
  go_wp2
  go_ret
  exact ⟨rfl,rfl⟩
 rw [if_neg cn] at h
 have cb2 : (v != n) = true:=by simpa using cn
 clear cn
 by_cases c : inR v (cvs s.nd).length
 ·rw [if_pos c] at h
  have hu:=HW.out v c
  rw [rd_cvs] at h hu
  have HV2 : qy (-1 ≤ (rd_T55 s.nd v).f4):=⟨by have h0:=c.1;change (rd_T55 s.nd v).f4 = -1 ∨ _ < (rd_T55 s.nd v).f4 ∧ _ at hu;omega⟩
  have HT:=qy.mk h
  clear h hu
  rw [cvs_len] at c
  obtain ⟨p,q⟩:=c
  obtain ⟨ad,A0,c0,A1,c1,eA,hx0,hx1,hx2,hx3,hx4,hx5,-⟩:=at_T55 (Kd.R_reads' HS.out.rn).2.2 v p q
  subst eA
  replace p:=eq_true p
  replace q:=eq_true q
  go_wp2
  go_roundg k1
  case measure=>omega
  case rel=>exact ⟨_,rfl,HV2,HT,rfl⟩
 rw [if_neg c] at h
 cases h
theorem l10Within_is {w0 W : World} {Z : Nat → Prop} {wz : World} {g : Nat} {N : Int} {Ae : Option Addr} {ce : Nat} {es : List (S51)} {col : Nat → Nat} {vy vn vm : Value} {s : RI} (hS : Rn w0 W Z wz g N Ae ce es col vy vn vm s) (n v : Int) (hw : WFn (cvs s.nd)) (hn : n ≠ -1) (hv : v = -1 ∨ inR v s.nd.length) :
  Calls Try.prog 58 #[.pointer (some ⟨g,0,none⟩),.int .i64 v,.int .i64 n] W fun e w'=>e = .returned (.bool (hasI (cvs s.nd) n v)) ∧ w' = W :=
 l10Within_calls hS _ n v _ hw hn (by rcases hv with h|h;omega;have:=h.1;omega) (has_is hw n (by rw [cvs_len];exact hv))
end Go.Proofs.Ytnffimpoekjkpaa.QFnExactRounds
