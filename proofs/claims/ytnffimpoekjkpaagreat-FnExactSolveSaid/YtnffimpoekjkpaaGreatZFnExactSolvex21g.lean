import Derived.Test.YtnffimpoekjkpaaGreatZFnExactSolvex20
import Derived.Outline
import Derived.Deep.QuietTactic
import Derived.BigQuiet
import Derived.Test.YtnffimpoekjkpaaGreatZFnExactSolvex4
set_option linter.all false
namespace Go.Proofs.YtnffimpoekjkpaaGreat.QFnExactSolve
open Go.RowKit Go.Proofs.YtnffimpoekjkpaaGreatW.PrintWords Go.Proofs.YtnffimpoekjkpaaGreatW.PrintLast Go.Proofs.YtnffimpoekjkpaaGreatW.PrintMore
attribute [local go_sem] Od' Pd' Xd' Yd' Jd' Kd' Qd' Rd'
set_option maxHeartbeats 8000000
set_option maxRecDepth 100000
def inR (i : Int) (n : Nat) : Prop:=0 ≤ i ∧ i < (n : Int)
instance (i : Int) (n : Nat) : Decidable (inR i n):=by unfold inR;infer_instance
def Qf' (nd : List (S89)) : Nat → Int → Option Int
 | 0,_=>none
 | k + 1,n=>if inR n nd.length then if (td' nd n).f2 = -1 then some n else Qf' nd k (td' nd n).f2 else none
theorem ng' {w0 W : World} {g : Nat} {N : Int} {Ae : Option Addr} {ce : Nat} {es : List (S73)} {col : Nat → Nat} {vy vn vl va vb : Value} {s : SI} (hS : Sol w0 W g N Ae ce es col vy vn vl va vb s) (k : Nat) (n r : Int) (h : Qf' s.nd k n = some r) :
  Calls Tryz.prog 67 #[.pointer (some ⟨g,0,none⟩),.int .i64 n] W fun e w'=>e = .returned (.int .i64 r) ∧ w' = W:=by
 have hu87:=Tryz.underlying87
 have hu89:=Tryz.underlying89
 have hu73:=Tryz.underlying73
 have hu35:=Tryz.underlying35
 have HS:=qz.mk hS
 clear hS
 have HT:=qz.mk h
 clear h
 obtain ⟨An,cn,e_⟩:=Kd.R_slice HS.o.rn
 subst e_
 have hc:=HS.o.cells
 go_enter Tryz.func67,Tryz.ntmps67
 go_wp2
 go_loopg [1] k (fun kq v1 w'=>∃ n : Int,v1 = .int .i64 n ∧ qz (Qf' s.nd kq n = some r) ∧ w' = W)
 case atStart=>exact ⟨n,rfl,HT,rfl⟩
 clear HT
 obtain ⟨n,rfl,HT,rfl⟩:=hrel
 have h:=HT.o
 clear HT
 obtain _|k1:=gk
 ·cases h
 rw [Qf'] at h
 by_cases c : inR n s.nd.length
 ·rw [if_pos c] at h
  obtain ⟨p,q⟩:=c
  obtain ⟨ad,A0,c0,A1,c1,eA,hx0,hx1,hx2,hx3,hx4,hx5,hx6,-⟩:=Wg' (Kd.R_reads' HS.o.rn).2.2 n p q
  subst eA
  replace p:=eq_true p
  replace q:=eq_true q
  by_cases ci : (td' s.nd n).f2 = -1
  ·rw [if_pos ci] at h
   obtain rfl:=Option.some.inj h
   have cb : ((td' s.nd n).f2 != -1) = false:=by simpa using ci
   clear ci h
   go_wp2
   go_ret
   exact ⟨rfl,rfl⟩
  rw [if_neg ci] at h
  have cb : ((td' s.nd n).f2 != -1) = true:=by simpa using ci
  have HT:=qz.mk h
  clear ci h
  go_wp2
  go_roundg k1
  case measure=>omega
  case rel=>exact ⟨_,rfl,HT,rfl⟩
 rw [if_neg c] at h
 cases h
def Dd' (x : S89) : Bool:=decide (x.f2 = -1) && !x.f6
theorem In' {w0 W : World} {g : Nat} {N : Int} {Ae : Option Addr} {ce : Nat} {es : List (S73)} {col : Nat → Nat} {vy vn vl va vb : Value} {s : SI} (hS : Sol w0 W g N Ae ce es col vy vn vl va vb s) (n : Int) (hn : inR n s.nd.length) :
  Calls Tryz.prog 53 #[.pointer (some ⟨g,0,none⟩),.int .i64 n] W fun e w'=>e = .returned (.bool (Dd' (td' s.nd n))) ∧ w' = W:=by
 have hu87:=Tryz.underlying87
 have hu89:=Tryz.underlying89
 have hu73:=Tryz.underlying73
 have hu35:=Tryz.underlying35
 have HS:=qz.mk hS
 clear hS
 obtain ⟨An,cn,e_⟩:=Kd.R_slice HS.o.rn
 subst e_
 have hc:=HS.o.cells
 obtain ⟨p,q⟩:=hn
 obtain ⟨ad,A0,c0,A1,c1,eA,hx0,hx1,hx2,hx3,hx4,hx5,hx6,-⟩:=Wg' (Kd.R_reads' HS.o.rn).2.2 n p q
 subst eA
 replace p:=eq_true p
 replace q:=eq_true q
 unfold Dd'
 by_cases ci : (td' s.nd n).f2 = -1
 ·have cb : ((td' s.nd n).f2 == -1) = true:=by simpa using ci
  rw [decide_eq_true ci,Bool.true_and]
  clear ci
  go_enter Tryz.func53,Tryz.ntmps53
  go_wp2
  go_ret
  exact ⟨rfl,rfl⟩
 have cb : ((td' s.nd n).f2 == -1) = false:=by simpa using ci
 rw [decide_eq_false ci,Bool.false_and]
 clear ci
 go_enter Tryz.func53,Tryz.ntmps53
 go_wp2
 go_ret
 exact ⟨rfl,rfl⟩
def Rf' (nd : List (S89)) (n : Int) : Nat → Int → Option Bool
 | 0,_=>none
 | k + 1,v=>if v = -1 then some (decide (n = -1)) else if v = n then some true else if inR v nd.length then Rf' nd n k (td' nd v).f2 else none
theorem Qg' {w0 W : World} {g : Nat} {N : Int} {Ae : Option Addr} {ce : Nat} {es : List (S73)} {col : Nat → Nat} {vy vn vl va vb : Value} {s : SI} (hS : Sol w0 W g N Ae ce es col vy vn vl va vb s) (k : Nat) (n v : Int) (r : Bool) (h : Rf' s.nd n k v = some r) :
  Calls Tryz.prog 49 #[.pointer (some ⟨g,0,none⟩),.int .i64 n,.int .i64 v] W fun e w'=>e = .returned (.bool r) ∧ w' = W:=by
 have hu87:=Tryz.underlying87
 have hu89:=Tryz.underlying89
 have hu73:=Tryz.underlying73
 have hu35:=Tryz.underlying35
 have HS:=qz.mk hS
 clear hS
 have HT:=qz.mk h
 clear h
 obtain ⟨An,cn,e_⟩:=Kd.R_slice HS.o.rn
 subst e_
 have hc:=HS.o.cells
 go_enter Tryz.func49,Tryz.ntmps49
 go_wp2
 go_loopg [2] k (fun kq v2 w'=>∃ v : Int,v2 = .int .i64 v ∧ qz (Rf' s.nd n kq v = some r) ∧ w' = W)
 case atStart=>exact ⟨v,rfl,HT,rfl⟩
 clear HT
 obtain ⟨v,rfl,HT,rfl⟩:=hrel
 have h:=HT.o
 clear HT
 obtain _|k1:=gk
 ·cases h
 rw [Rf'] at h
 by_cases cv : v = -1
 ·rw [if_pos cv] at h
  obtain rfl:=Option.some.inj h
  have cb : (v != -1) = false:=by simpa using cv
  have ce : (v == n) = decide (n = -1):=by rw [cv,Bool.eq_iff_iff,beq_iff_eq,decide_eq_true_eq];exact eq_comm
  clear cv h
  go_wp2
  go_ret
  exact ⟨rfl,rfl⟩
 rw [if_neg cv] at h
 have cb : (v != -1) = true:=by simpa using cv
 clear cv
 by_cases cn : v = n
 ·rw [if_pos cn] at h
  obtain rfl:=Option.some.inj h
  have cb2 : (v != n) = false:=by simpa using cn
  have ce : (v == n) = true:=by simpa using cn
  clear cn h
  go_wp2
  go_ret
  exact ⟨rfl,rfl⟩
 rw [if_neg cn] at h
 have cb2 : (v != n) = true:=by simpa using cn
 clear cn
 by_cases c : inR v s.nd.length
 ·rw [if_pos c] at h
  have HT:=qz.mk h
  clear h
  obtain ⟨p,q⟩:=c
  obtain ⟨ad,A0,c0,A1,c1,eA,hx0,hx1,hx2,hx3,hx4,hx5,hx6,-⟩:=Wg' (Kd.R_reads' HS.o.rn).2.2 v p q
  subst eA
  replace p:=eq_true p
  replace q:=eq_true q
  go_wp2
  go_roundg k1
  case measure=>omega
  case rel=>exact ⟨_,rfl,HT,rfl⟩
 rw [if_neg c] at h
 cases h
def rootF (ah : List Int) : Nat → Int → Option Int
 | 0,_=>none
 | k + 1,n=>if inR n ah.length then if rd ah n = -1 then some n else rootF ah k (rd ah n) else none
theorem wg' {w0 W : World} {g : Nat} {N : Int} {Ae : Option Addr} {ce : Nat} {es : List (S73)} {col : Nat → Nat} {vy vn vl va vb : Value} {s : SI} (hS : Sol w0 W g N Ae ce es col vy vn vl va vb s) (k : Nat) (n r : Int) (h : rootF s.ah k n = some r) :
  Calls Tryz.prog 66 #[.pointer (some ⟨g,0,none⟩),.int .i64 n] W fun e w'=>e = .returned (.int .i64 r) ∧ w' = W:=by
 have hu87:=Tryz.underlying87
 have hu89:=Tryz.underlying89
 have hu73:=Tryz.underlying73
 have hu35:=Tryz.underlying35
 have HS:=qz.mk hS
 clear hS
 have HT:=qz.mk h
 clear h
 obtain ⟨An,cn,e_⟩:=Kd.R_slice HS.o.ra
 subst e_
 have hc:=HS.o.cells
 go_enter Tryz.func66,Tryz.ntmps66
 go_wp2
 go_loopg [1] k (fun kq v1 w'=>∃ n : Int,v1 = .int .i64 n ∧ qz (rootF s.ah kq n = some r) ∧ w' = W)
 case atStart=>exact ⟨n,rfl,HT,rfl⟩
 clear HT
 obtain ⟨n,rfl,HT,rfl⟩:=hrel
 have h:=HT.o
 clear HT
 obtain _|k1:=gk
 ·cases h
 rw [rootF] at h
 by_cases c : inR n s.ah.length
 ·rw [if_pos c] at h
  obtain ⟨p,q⟩:=c
  obtain ⟨ad,eA,hx0⟩:=Kd.at_int (Kd.R_reads' HS.o.ra).2.2 n p q
  subst eA
  replace p:=eq_true p
  replace q:=eq_true q
  by_cases ci : rd s.ah n = -1
  ·rw [if_pos ci] at h
   obtain rfl:=Option.some.inj h
   have cb : (rd s.ah n != -1) = false:=by simpa using ci
   clear ci h
   go_wp2
   go_ret
   exact ⟨rfl,rfl⟩
  rw [if_neg ci] at h
  have cb : (rd s.ah n != -1) = true:=by simpa using ci
  have HT:=qz.mk h
  clear ci h
  go_wp2
  go_roundg k1
  case measure=>omega
  case rel=>exact ⟨_,rfl,HT,rfl⟩
 rw [if_neg c] at h
 cases h
def WFn (nd : List (S89)) : Prop:=∀ i : Int,inR i nd.length → (td' nd i).f2 = -1 ∨ (i < (td' nd i).f2 ∧ (td' nd i).f2 < (nd.length : Int))
def EOk (es : List (S73)) (n : Nat) : Prop:=∀ e : Int,inR e es.length → inR (ud' es e).f0 n ∧ inR (ud' es e).f1 n
theorem ql' {nd : List (S89)} (hw : WFn nd) : ∀ (k : Nat) (n : Int),inR n nd.length → (nd.length : Int) < n + k → ∃ r,Qf' nd k n = some r ∧ inR r nd.length
 | 0,n,hn,hk=>absurd hk Lb'
 | k + 1,n,hn,hk=>by
  rw [Qf',if_pos hn]
  by_cases c : (td' nd n).f2 = -1
  ·rw [if_pos c]
   exact ⟨n,rfl,hn⟩
  rw [if_neg c]
  have:=(hw n hn).resolve_left c
  have h0:=hn.1
  exact ql' hw k _ ⟨aa',this.2⟩ aa'
def topI (nd : List (S89)) (n : Int) : Int:=(Qf' nd (nd.length + 1) n).getD 0
theorem xh' {nd : List (S89)} (hw : WFn nd) {n : Int} (hn : inR n nd.length) : Qf' nd (nd.length + 1) n = some (topI nd n):=by
 obtain ⟨r,hr,_⟩:=ql' hw (nd.length + 1) n hn Ya'
 rw [topI,hr]
 rfl
theorem Nd' {nd : List (S89)} (hw : WFn nd) {n : Int} (hn : inR n nd.length) : inR (topI nd n) nd.length:=by
 obtain ⟨r,hr,h⟩:=ql' hw (nd.length + 1) n hn Ya'
 rw [topI,hr]
 exact h
theorem Vn' {nd : List (S89)} (hw : WFn nd) (n : Int) : ∀ (k : Nat) (v : Int),0 < k → v = -1 ∨ inR v nd.length ∧ (nd.length : Int) + 1 < v + k → ∃ r,Rf' nd n k v = some r
 | 0,v,hp,hk=>absurd hp aa'
 | k + 1,v,hp,hk=>by
  rw [Rf']
  by_cases c : v = -1
  ·rw [if_pos c]
   exact ⟨_,rfl⟩
  rw [if_neg c]
  obtain ⟨hv,hk⟩:=hk.resolve_left c
  by_cases d : v = n
  ·rw [if_pos d]
   exact ⟨_,rfl⟩
  rw [if_neg d,if_pos hv]
  have h0:=hv.1
  have h1:=hv.2
  refine Vn' hw n k _ aa' ?_
  rcases hw v hv with h|h
  ·exact .inl h
  exact .inr ⟨⟨aa',h.2⟩,aa'⟩
def Ad' (nd : List (S89)) (n v : Int) : Bool:=(Rf' nd n (nd.length + 2) v).getD false
theorem yh' {nd : List (S89)} (hw : WFn nd) (n : Int) {v : Int} (hv : v = -1 ∨ inR v nd.length) : Rf' nd n (nd.length + 2) v = some (Ad' nd n v):=by
 obtain ⟨r,hr⟩:=Vn' hw n (nd.length + 2) v aa' (hv.imp_right fun h=>⟨h,Sa'⟩)
 rw [Ad',hr]
 rfl
def ue' (nd : List (S89)) (es : List (S73)) (n : Int) : Int:=if (td' nd n).f3 = -1 then (td' nd n).f4 else if Ad' nd n (ud' es (td' nd n).f3).f0 = true then (ud' es (td' nd n).f3).f0 else (ud' es (td' nd n).f3).f1
theorem Fo' {w0 W : World} {g : Nat} {N : Int} {Ae : Option Addr} {ce : Nat} {es : List (S73)} {col : Nat → Nat} {vy vn vl va vb : Value} {s : SI} (hS : Sol w0 W g N Ae ce es col vy vn vl va vb s) (hw : WFn s.nd) (ho : EOk es s.nd.length) (n : Int) (hn : inR n s.nd.length) (hm : (td' s.nd n).f3 = -1 ∨ inR (td' s.nd n).f3 es.length) :
  Calls Tryz.prog 75 #[.pointer (some ⟨g,0,none⟩),.int .i64 n] W fun e w'=>e = .returned (.int .i64 (ue' s.nd es n)) ∧ w' = W:=by
 have hu87:=Tryz.underlying87
 have hu89:=Tryz.underlying89
 have hu73:=Tryz.underlying73
 have hu35:=Tryz.underlying35
 have HS:=qz.mk hS
 clear hS
 obtain ⟨An,cn,e_⟩:=Kd.R_slice HS.o.rn
 subst e_
 have hc:=HS.o.cells
 obtain ⟨p,q⟩:=hn
 obtain ⟨ad,A0,c0,A1,c1,eA,hx0,hx1,hx2,hx3,hx4,hx5,hx6,-⟩:=Wg' (Kd.R_reads' HS.o.rn).2.2 n p q
 subst eA
 replace p:=eq_true p
 replace q:=eq_true q
 rw [ue']
 by_cases c : (td' s.nd n).f3 = -1
 ·have cb : ((td' s.nd n).f3 == -1) = true:=by simpa using c
  rw [if_pos c]
  clear c hm hw ho
  go_enter Tryz.func75,Tryz.ntmps75
  go_wp2
  go_ret
  exact ⟨rfl,rfl⟩
 have cb : ((td' s.nd n).f3 == -1) = false:=by simpa using c
 replace hm:=hm.resolve_left c
 rw [if_neg c]
 clear c
 have hA:=yh' hw n (v:=(ud' es (td' s.nd n).f3).f0) (.inr (ho _ hm).1)
 obtain ⟨pE,qE⟩:=hm
 obtain ⟨adE,eAE,he0E,he1E,he2E,he3E,he4E⟩:=of' (Kd.C_below HS.o.he HS.o.hb) ((td' s.nd n).f3) pE qE
 subst eAE
 replace pE:=eq_true pE
 replace qE:=eq_true qE
 cases b : Ad' s.nd n (ud' es (td' s.nd n).f3).f0 with
 | true =>
  rw [b] at hA
  rw [if_pos rfl]
  have HA:=qz.mk hA
  clear hA hw ho b
  go_enter Tryz.func75,Tryz.ntmps75
  go_wp2_with (first|(go_at_call 49;(with_reducible refine (Qg' Za' _ n _ true HA.o).mono ?_);rintro e w2 ⟨rfl,rfl⟩))
  go_ret
  exact ⟨rfl,rfl⟩
 | false =>
  rw [b] at hA
  rw [if_neg ba']
  have HA:=qz.mk hA
  clear hA hw ho b
  go_enter Tryz.func75,Tryz.ntmps75
  go_wp2_with (first|(go_at_call 49;(with_reducible refine (Qg' Za' _ n _ false HA.o).mono ?_);rintro e w2 ⟨rfl,rfl⟩))
  go_ret
  exact ⟨rfl,rfl⟩
theorem Ze' {w0 W : World} {g : Nat} {N : Int} {Ae : Option Addr} {ce : Nat} {es : List (S73)} {col : Nat → Nat} {vy vn vl va vb : Value} {s : SI} (hS : Sol w0 W g N Ae ce es col vy vn vl va vb s) (hw : WFn s.nd) (ho : EOk es s.nd.length) (i : Int) (hi : inR i es.length) :
  Calls Tryz.prog 101 #[.pointer (some ⟨g,0,none⟩),.int .i64 i] W fun e w'=>e = .returned (.tuple #[.int .i64 (topI s.nd (ud' es i).f0),.int .i64 (topI s.nd (ud' es i).f1)]) ∧ ∃ m,w' = W.drewN m:=by
 have hu87:=Tryz.underlying87
 have hu89:=Tryz.underlying89
 have hu73:=Tryz.underlying73
 have hu35:=Tryz.underlying35
 have HS:=qz.mk hS
 clear hS
 have hc:=HS.o.cells
 have HA:=qz.mk (xh' hw (ho i hi).1)
 have HB:=qz.mk (xh' hw (ho i hi).2)
 clear hw ho
 obtain ⟨pE,qE⟩:=hi
 obtain ⟨adE,eAE,he0E,he1E,he2E,he3E,he4E⟩:=of' (Kd.C_below HS.o.he HS.o.hb) (i) pE qE
 subst eAE
 replace pE:=eq_true pE
 replace qE:=eq_true qE
 go_enter Tryz.func101,Tryz.ntmps101
 go_wp2_with fail
 go_quiet ((go_at_call 67;first|exact Calls.quiet_of_same (ng' Za' _ _ _ HA.o)|exact Calls.quiet_of_same (ng' Za' _ _ _ HB.o)))
 go_wp2
 go_ret2
 exact ⟨rfl,_,rfl⟩
def ze' (nd : List (S89)) (es : List (S73)) (e n : Int) : Int:=if topI nd (ud' es e).f0 = n then topI nd (ud' es e).f1 else topI nd (ud' es e).f0
theorem Jn' {w0 W : World} {g : Nat} {N : Int} {Ae : Option Addr} {ce : Nat} {es : List (S73)} {col : Nat → Nat} {vy vn vl va vb : Value} {s : SI} (hS : Sol w0 W g N Ae ce es col vy vn vl va vb s) (hw : WFn s.nd) (ho : EOk es s.nd.length) (i n : Int) (hi : inR i es.length) :
  Calls Tryz.prog 84 #[.pointer (some ⟨g,0,none⟩),.int .i64 i,.int .i64 n] W fun e w'=>e = .returned (.int .i64 (ze' s.nd es i n)) ∧ ∃ m,w' = W.drewN m:=by
 have hu87:=Tryz.underlying87
 have hu89:=Tryz.underlying89
 have hu73:=Tryz.underlying73
 have hu35:=Tryz.underlying35
 have HS:=qz.mk hS
 clear hS
 have hc:=HS.o.cells
 rw [ze']
 have HW:=qz.mk hw
 have HE:=qz.mk ho
 have HI:=qz.mk hi
 clear hw ho hi
 by_cases c : topI s.nd (ud' es i).f0 = n
 ·rw [if_pos c]
  have cb : (topI s.nd (ud' es i).f0 == n) = true:=by simpa using c
  clear c
  go_enter Tryz.func84,Tryz.ntmps84
  go_wp2_with (first|(go_at_call 101;(with_reducible refine (Ze' Za' HW.o HE.o i HI.o).mono ?_);rintro e w2 ⟨rfl,m,rfl⟩))
  go_ret
  exact ⟨rfl,_,rfl⟩
 rw [if_neg c]
 have cb : (topI s.nd (ud' es i).f0 == n) = false:=by simpa using c
 clear c
 go_enter Tryz.func84,Tryz.ntmps84
 go_wp2_with (first|(go_at_call 101;(with_reducible refine (Ze' Za' HW.o HE.o i HI.o).mono ?_);rintro e w2 ⟨rfl,m,rfl⟩))
 go_ret
 exact ⟨rfl,_,rfl⟩
def scI (x : S73) : Int:=wrap64 ((wrap64 ((wrap64 (90000 * x.f2)) + (wrap64 (300 * x.f3)))) + x.f4)
def rh' (nd : List (S89)) (n : Int) : Nat → Int → Int → Option Int
 | 0,_,_=>none
 | k + 1,m,out=>if m = -1 then some out else if inR m nd.length then rh' nd n k (td' nd m).f2 (if n = m then wrap64 (out + (td' nd n).f5) else out) else none
def og' (nd : List (S89)) (b : Int) : Nat → Int → Int → Option Int
 | 0,_,_=>none
 | k + 1,n,out=>if n = -1 then some out else if inR n nd.length then (rh' nd n (nd.length + 2) b out).bind fun o=>og' nd b k (td' nd n).f2 o else none
def Ig' (y : List Int) (x : S73) : Int:=wrap64 (wrap64 (rd y x.f0 + rd y x.f1) - wrap64 (2 * scI x))
theorem Am' {w0 W : World} {g : Nat} {N : Int} {Ae : Option Addr} {ce : Nat} {es : List (S73)} {col : Nat → Nat} {vy vn vl va vb : Value} {s : SI} (hS : Sol w0 W g N Ae ce es col vy vn vl va vb s) (ho : EOk es s.nd.length) (hoy : EOk es s.y.length) (i : Int) (hi : inR i es.length) (k : Nat) (r : Int)
  (h : og' s.nd (td' s.nd (ud' es i).f1).f2 k (td' s.nd (ud' es i).f0).f2 (Ig' s.y (ud' es i)) = some r) :
  Calls Tryz.prog 102 #[.pointer (some ⟨g,0,none⟩),.int .i64 i] W fun e w'=>e = .returned (.int .i64 r) ∧ Below W.heap.size W w':=by
 have hu87:=Tryz.underlying87
 have hu89:=Tryz.underlying89
 have hu73:=Tryz.underlying73
 have hu35:=Tryz.underlying35
 have HS:=qz.mk hS
 clear hS
 have HT:=qz.mk h
 clear h
 rw [Ig'] at HT
 obtain ⟨An,cn,e_⟩:=Kd.R_slice HS.o.rn
 subst e_
 obtain ⟨Ay,cy,e_⟩:=Kd.R_slice HS.o.ry
 subst e_
 have hc:=HS.o.cells
 obtain ⟨yA0,yA1⟩:=(hoy i hi).1
 obtain ⟨yB0,yB1⟩:=(hoy i hi).2
 obtain ⟨pA,qA⟩:=(ho i hi).1
 obtain ⟨pB,qB⟩:=(ho i hi).2
 obtain ⟨pE,qE⟩:=hi
 obtain ⟨adE,eAE,he0E,he1E,he2E,he3E,he4E⟩:=of' (Kd.C_below HS.o.he HS.o.hb) (i) pE qE
 subst eAE
 obtain ⟨ady,e_,hyA⟩:=Kd.at_int (Kd.R_reads' HS.o.ry).2.2 _ yA0 yA1
 subst e_
 obtain ⟨ady',e_,hyB⟩:=Kd.at_int (Kd.R_reads' HS.o.ry).2.2 _ yB0 yB1
 obtain rfl:=Option.some.inj e_
 replace pE:=eq_true pE
 replace qE:=eq_true qE
 replace yA0:=eq_true yA0
 replace yA1:=eq_true yA1
 replace yB0:=eq_true yB0
 replace yB1:=eq_true yB1
 clear ho hoy
 go_enter Tryz.func102,Tryz.ntmps102
 go_wp2
 have BX1 : qz ((W.alloc (.cells #[.int .i64 (ud' es i).f0,.int .i64 (ud' es i).f1,.int .i64 (ud' es i).f2,.int .i64 (ud' es i).f3,.int .i64 (ud' es i).f4] 73)).heap[W.heap.size]? = some (.cells #[.int .i64 (ud' es i).f0,.int .i64 (ud' es i).f1,.int .i64 (ud' es i).f2,.int .i64 (ud' es i).f3,.int .i64 (ud' es i).f4] 73 (0,0))):=⟨yd' W _⟩
 have HB1 : qz (Below W.heap.size W (W.alloc (.cells #[.int .i64 (ud' es i).f0,.int .i64 (ud' es i).f1,.int .i64 (ud' es i).f2,.int .i64 (ud' es i).f3,.int .i64 (ud' es i).f4] 73))):=⟨qo (Below.refl _ _) _⟩
 generalize W.alloc (.cells #[.int .i64 (ud' es i).f0,.int .i64 (ud' es i).f1,.int .i64 (ud' es i).f2,.int .i64 (ud' es i).f3,.int .i64 (ud' es i).f4] 73) = W1 at *
 generalize hgb : W.heap.size = gb at BX1 ⊢
 refine Md' (n:=22) (S:=fun w'=>w'.cell? ⟨gb,0,none⟩ = some (.int .i64 (ud' es i).f0) ∧ w'.cell? ⟨gb,1,none⟩ = some (.int .i64 (ud' es i).f1) ∧ w'.cell? ⟨gb,2,none⟩ = some (.int .i64 (ud' es i).f2) ∧ w'.cell? ⟨gb,3,none⟩ = some (.int .i64 (ud' es i).f3) ∧ w'.cell? ⟨gb,4,none⟩ = some (.int .i64 (ud' es i).f4) ∧ w'.cell? ⟨g,2,none⟩ = some (.slice (some ady) s.y.length cy) ∧ w'.cell? (ady.add (ud' es i).f0.toNat) = some (.int .i64 (rd s.y (ud' es i).f0)) ∧ w'.cell? (ady.add (ud' es i).f1.toNat) = some (.int .i64 (rd s.y (ud' es i).f1))) (ds:=[]) (Array.replicate 22 false) da' rfl rfl ⟨(qq BX1.o 0).trans rfl,(qq BX1.o 1).trans rfl,(qq BX1.o 2).trans rfl,(qq BX1.o 3).trans rfl,(qq BX1.o 4).trans rfl,vd' HB1.o hc.2.2.1,vd' HB1.o hyA,vd' HB1.o hyB⟩ (fun hHeld=>?_)
 refine pa_ 0 17 (bz_ 22 1) ?_
 refine pa_ 1 18 (bz_ 22 3) ?_
 refine pa_ 2 19 (bz_ 22 7) ?_
 refine pa_ 4 21 (bz_ 22 23) ?_
 refine pa_ 8 25 (bz_ 22 279) ?_
 refine pa_ 9 26 (bz_ 22 791) ?_
 refine pa_ 10 27 (bz_ 22 1815) ?_
 refine pa_ 12 29 (bz_ 22 5911) ?_
 refine ta_ 3 20 (bz_ 22 5919) hHeld (hy:=Or.inl ⟨ca',ya'⟩) (h:=?_)
 refine ta_ 5 22 (bz_ 22 5951) hHeld (hy:=Or.inl ⟨ca',ya'⟩) (h:=?_)
 refine pa_ 6 23 (bz_ 22 6015) ?_
 refine ta_ 7 24 (bz_ 22 6143) hHeld (hy:=Or.inl ⟨ca',ya'⟩) (h:=?_)
 refine ta_ 11 28 (bz_ 22 8191) hHeld (hy:=Or.inl ⟨ca',ya'⟩) (h:=?_)
 refine ta_ 13 30 (bz_ 22 16383) hHeld (hy:=Or.inl ⟨ca',ya'⟩) (h:=?_)
 refine pa_ 14 31 (bz_ 22 32767) ?_
 refine ta_ 15 32 (bz_ 22 65535) hHeld (hy:=Or.inl ⟨ca',ya'⟩) (h:=?_)
 refine pa_ 16 33 (bz_ 22 131071) ?_
 refine ta_ 17 34 (bz_ 22 262143) hHeld (hy:=Or.inl ⟨ca',ya'⟩) (h:=?_)
 refine Td' (i:=18) (N:=some 35) (bz_ 22 524287) rfl rfl da' ba' (fun K hK=>?_)
 refine goes_ Tryz.func46 da' rfl #[.agg #[.int .i64 (ud' es i).f0,.int .i64 (ud' es i).f1,.int .i64 (ud' es i).f2,.int .i64 (ud' es i).f3,.int .i64 (ud' es i).f4]] ca' rfl rfl xa' ?_
 with_reducible refine (impl_Scalar.calls _ _ _ _ _ _ _ rfl).mono ?_
 rintro e wc ⟨rfl,hb⟩
 refine ⟨_,rfl,?_⟩
 refine hK.out _ _ ⟨vd' hb hHeld.1,vd' hb hHeld.2.1,vd' hb hHeld.2.2.1,vd' hb hHeld.2.2.2.1,vd' hb hHeld.2.2.2.2.1,vd' hb hHeld.2.2.2.2.2.1,vd' hb hHeld.2.2.2.2.2.2.1,vd' hb hHeld.2.2.2.2.2.2.2⟩ (fun hHeld=>?_)
 clear hK K
 refine zd' (a':=?_) ?_ ?_
 rotate_left
 ·show Act.put _ (some 35) _ = _
  simp only [Act.put,List.setIfInBounds_toArray,List.set_cons_zero,List.set_cons_succ,Bd',Cd']
  rfl
 refine pa_ 19 36 (bz_ 22 1048575) ?_
 refine pa_ 20 37 (bz_ 22 2097151) ?_
 refine pa_ 21 6 (bz_ 22 4194303) ?_
 refine Wd' da' ?_
 have HBC : qz (Below W1.heap.size W1 wc):=⟨qy Gc' hb⟩
 have HB2:=qz.mk (qy HB1.o HBC.o)
 have BX2:=qz.mk (qx BX1.o HBC.o)
 have HS2:=qz.mk (HS.o.to HB2.o)
 clear hHeld HBC BX1 hb hc he0E he1E he2E he3E he4E hyA hyB HB1
 have hc:=HS2.o.cells
 have hc0 : wc.cell? ⟨gb,0,none⟩ = some (.int .i64 (ud' es i).f0):=(qq BX2.o 0).trans rfl
 have hc1 : wc.cell? ⟨gb,1,none⟩ = some (.int .i64 (ud' es i).f1):=(qq BX2.o 1).trans rfl
 obtain ⟨adA,A0A,c0A,A1A,c1A,e_,hx0A,hx1A,hx2A,hx3A,hx4A,hx5A,hx6A,-⟩:=Wg' (Kd.R_reads' HS2.o.rn).2.2 _ pA qA
 subst e_
 obtain ⟨adB,A0B,c0B,A1B,c1B,e_,hx0B,hx1B,hx2B,hx3B,hx4B,hx5B,hx6B,-⟩:=Wg' (Kd.R_reads' HS2.o.rn).2.2 _ pB qB
 obtain rfl:=Option.some.inj e_
 replace pA:=eq_true pA
 replace qA:=eq_true qA
 replace pB:=eq_true pB
 replace qB:=eq_true qB
 go_wp2_with fail
 go_quiet (fail)
 go_wp2_with fail
 go_loopg [6,7,8] k (fun kq v6 v7 v8 w'=>∃ (n out : Int) (m : Nat),v6 = .int .i64 out ∧ v7 = .int .i64 n ∧ qz (og' s.nd (td' s.nd (ud' es i).f1).f2 kq n out = some r) ∧ w' = wc.drewN m)
 case atStart=>exact ⟨_,_,_,rfl,rfl,HT,rfl⟩
 clear HT
 obtain ⟨n,out,m,rfl,rfl,HT,rfl⟩:=hrel
 have h:=HT.o
 clear HT
 obtain _|k1:=gk
 ·cases h
 rw [og'] at h
 by_cases cn : n = -1
 ·rw [if_pos cn] at h
  obtain rfl:=Option.some.inj h
  have cb : (n != -1) = false:=by simpa using cn
  clear cn h
  go_wp2_with fail
  go_ret
  exact ⟨rfl,qd HB2.o _⟩
 rw [if_neg cn] at h
 have cb : (n != -1) = true:=by simpa using cn
 clear cn
 by_cases c : inR n s.nd.length
 ·rw [if_pos c] at h
  obtain ⟨o,hin,h⟩:=Option.bind_eq_some_iff.mp h
  have HT:=qz.mk h
  have HN:=qz.mk hin
  clear h hin
  obtain ⟨p,q⟩:=c
  obtain ⟨ad_,A0_,c0_,A1_,c1_,e_,hx0,hx1,hx2,hx3,hx4,hx5,hx6,-⟩:=Wg' (Kd.R_reads' HS2.o.rn).2.2 n p q
  obtain rfl:=Option.some.inj e_
  replace p:=eq_true p
  replace q:=eq_true q
  go_wp2_with fail
  go_quiet (fail)
  go_wp2_with fail
  go_loopg [6,8] (s.nd.length + 2) (fun kq v6 v8 w'=>∃ (m1 out : Int),v6 = .int .i64 out ∧ v8 = .int .i64 m1 ∧ qz (rh' s.nd n kq m1 out = some o) ∧ w' = wc.drewN (m + nq))
  case atStart=>exact ⟨_,_,rfl,rfl,HN,by first|rfl|exact World.drewN_drewN _ _ _⟩
  clear HN
  obtain ⟨m1,out,rfl,rfl,HN,rfl⟩:=hrel
  have h:=HN.o
  clear HN
  obtain _|k2:=gk
  ·cases h
  rw [rh'] at h
  by_cases cm : m1 = -1
  ·rw [if_pos cm] at h
   obtain rfl:=Option.some.inj h
   have cb1 : (m1 != -1) = false:=by simpa using cm
   clear cm h
   go_wp2_with fail
   go_roundg k1
   case measure=>omega
   case rel=>exact ⟨_,_,_,rfl,rfl,HT,rfl⟩
  rw [if_neg cm] at h
  have cb1 : (m1 != -1) = true:=by simpa using cm
  clear cm
  by_cases c1 : inR m1 s.nd.length
  ·rw [if_pos c1] at h
   obtain ⟨p1,q1⟩:=c1
   obtain ⟨ad1_,A01_,c01_,A11_,c11_,e1_,hy0,hy1,hy2,hy3,hy4,hy5,hy6,-⟩:=Wg' (Kd.R_reads' HS2.o.rn).2.2 m1 p1 q1
   obtain rfl:=Option.some.inj e1_
   replace p1:=eq_true p1
   replace q1:=eq_true q1
   by_cases cq : n = m1
   ·rw [if_pos cq] at h
    have HN:=qz.mk h
    have cb2 : (n == m1) = true:=by simpa using cq
    clear h cq
    go_wp2_with fail
    go_roundg k2
    case measure=>omega
    case rel=>exact ⟨_,_,rfl,rfl,HN,rfl⟩
   rw [if_neg cq] at h
   have HN:=qz.mk h
   have cb2 : (n == m1) = false:=by simpa using cq
   clear h cq
   go_wp2_with fail
   go_roundg k2
   case measure=>omega
   case rel=>exact ⟨_,_,rfl,rfl,HN,rfl⟩
  rw [if_neg c1] at h
  cases h
 rw [if_neg c] at h
 cases h
theorem Bm' {nd : List (S89)} (hw : WFn nd) (n : Int) : ∀ (k : Nat) (v out : Int),0 < k → v = -1 ∨ inR v nd.length ∧ (nd.length : Int) + 1 < v + k → ∃ r,rh' nd n k v out = some r
 | 0,v,_,hp,hk=>absurd hp aa'
 | k + 1,v,out,hp,hk=>by
  rw [rh']
  by_cases c : v = -1
  ·rw [if_pos c]
   exact ⟨_,rfl⟩
  rw [if_neg c]
  obtain ⟨hv,hk⟩:=hk.resolve_left c
  rw [if_pos hv]
  have h0:=hv.1
  have h1:=hv.2
  refine Bm' hw n k _ _ aa' ?_
  rcases hw v hv with h|h
  ·exact .inl h
  exact .inr ⟨⟨aa',h.2⟩,aa'⟩
theorem Il' {nd : List (S89)} (hw : WFn nd) (b : Int) (hb : b = -1 ∨ inR b nd.length) : ∀ (k : Nat) (v out : Int),0 < k → v = -1 ∨ inR v nd.length ∧ (nd.length : Int) + 1 < v + k → ∃ r,og' nd b k v out = some r
 | 0,v,_,hp,hk=>absurd hp aa'
 | k + 1,v,out,hp,hk=>by
  rw [og']
  by_cases c : v = -1
  ·rw [if_pos c]
   exact ⟨_,rfl⟩
  rw [if_neg c]
  obtain ⟨hv,hk⟩:=hk.resolve_left c
  rw [if_pos hv]
  have h0:=hv.1
  have h1:=hv.2
  obtain ⟨o,ho⟩:=Bm' hw v (nd.length + 2) b out aa' (hb.imp_right fun h=>⟨h,Sa'⟩)
  rw [ho]
  refine Il' hw b hb k _ o aa' ?_
  rcases hw v hv with h|h
  ·exact .inl h
  exact .inr ⟨⟨aa',h.2⟩,aa'⟩
theorem te' {nd : List (S89)} (hw : WFn nd) {v : Int} (hv : inR v nd.length) : (td' nd v).f2 = -1 ∨ inR (td' nd v).f2 nd.length :=
 (hw v hv).imp_right fun h=>⟨Mb',h.2⟩
def slackI (y : List Int) (nd : List (S89)) (x : S73) : Int:=(og' nd (td' nd x.f1).f2 (nd.length + 2) (td' nd x.f0).f2 (Ig' y x)).getD 0
theorem pq' {nd : List (S89)} (y : List Int) (hw : WFn nd) {x : S73} (h0 : inR x.f0 nd.length) (h1 : inR x.f1 nd.length) : og' nd (td' nd x.f1).f2 (nd.length + 2) (td' nd x.f0).f2 (Ig' y x) = some (slackI y nd x):=by
 obtain ⟨r,hr⟩:=Il' hw (td' nd x.f1).f2 (te' hw h1) (nd.length + 2) (td' nd x.f0).f2 (Ig' y x) aa' ((te' hw h0).imp_right fun h=>⟨h,Sa'⟩)
 rw [slackI,hr]
 rfl
theorem Je' {w0 W : World} {g : Nat} {N : Int} {Ae : Option Addr} {ce : Nat} {es : List (S73)} {col : Nat → Nat} {vy vn vl va vb : Value} {s : SI} (hS : Sol w0 W g N Ae ce es col vy vn vl va vb s) (hw : WFn s.nd) (ho : EOk es s.nd.length) (hoy : EOk es s.y.length) (i : Int) (hi : inR i es.length) :
  Calls Tryz.prog 102 #[.pointer (some ⟨g,0,none⟩),.int .i64 i] W fun e w'=>e = .returned (.int .i64 (slackI s.y s.nd (ud' es i))) ∧ Below W.heap.size W w' :=
 Am' hS ho hoy i hi _ _ (pq' s.y hw (ho i hi).1 (ho i hi).2)
end Go.Proofs.YtnffimpoekjkpaaGreat.QFnExactSolve
