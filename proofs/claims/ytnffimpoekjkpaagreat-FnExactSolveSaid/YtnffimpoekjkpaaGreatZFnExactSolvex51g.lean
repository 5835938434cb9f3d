import Derived.Test.YtnffimpoekjkpaaGreatZFnExactSolvex40g
import Derived.Outline
import Derived.Test.YtnffimpoekjkpaaGreatZFnExactSolvex1
import Derived.Test.YtnffimpoekjkpaaGreatZFnExactSolvex34
set_option linter.all false
namespace Go.Proofs.YtnffimpoekjkpaaGreat.QFnExactSolve
open Go.RowKit Go.Proofs.YtnffimpoekjkpaaGreatW.PrintWords Go.Proofs.YtnffimpoekjkpaaGreatW.PrintLast Go.Proofs.YtnffimpoekjkpaaGreatW.PrintMore
attribute [local go_sem] Od' Pd' Xd' Yd' Jd' Kd' Qd' Rd'
set_option maxHeartbeats 8000000
set_option maxRecDepth 100000
def cv (x : S77) : S89:=⟨x.f0,[],x.f4,0,x.f2,x.f3,x.f5⟩
def cvs (nd : List S77) : List S89:=nd.map cv
theorem Hd' (nd : List S77) : (cvs nd).length = nd.length:=List.length_map ..
theorem Ef' (nd : List S77) (i : Int) : td' (cvs nd) i = cv (wd' nd i):=by
 unfold td' wd' cvs
 rw [show z89 = cv z77 from rfl]
 simp only [List.getD_eq_getElem?_getD,List.getElem?_map]
 cases nd[i.toNat]? <;> rfl
theorem lp' {nd : List S89} (hw : WFn nd) {v : Int} (hv : inR v nd.length) : decide ((td' nd v).f2 ≥ 0) = !decide ((td' nd v).f2 = -1):=by
 have:=hv.1
 rcases hw v hv with h|h
 ·rw [h];decide
 rw [decide_eq_true (show (td' nd v).f2 ≥ 0 by omega),decide_eq_false aa'];rfl
theorem Fm' {w0 W : World} {Z : Nat → Prop} {wz : World} {g : Nat} {N : Int} {Ae : Option Addr} {ce : Nat} {es : List (S73)} {col : Nat → Nat} {vy vn vm : Value} {s : RI} (hS : Rn w0 W Z wz g N Ae ce es col vy vn vm s) (k : Nat) (n r : Int) (hw : WFn (cvs s.nd)) (h : Qf' (cvs s.nd) k n = some r) :
  Calls Tryz.prog 59 #[.pointer (some ⟨g,0,none⟩),.int .i64 n] W fun e w'=>e = .returned (.int .i64 r) ∧ w' = W:=by
 have hu51:=Tryz.underlying51
 have hu77:=Tryz.underlying77
 have hu56:=Tryz.underlying56
 have hu73:=Tryz.underlying73
 have hu35:=Tryz.underlying35
 have HS:=qz.mk hS
 clear hS
 have HT:=qz.mk h
 have HW:=qz.mk hw
 clear h hw
 obtain ⟨An,cn,e_⟩:=Kd.R_slice HS.o.rn
 subst e_
 have hc:=HS.o.cells
 go_enter Tryz.func59,Tryz.ntmps59
 go_wp2
 go_loopg [1] k (fun kq v1 w'=>∃ n : Int,v1 = .int .i64 n ∧ qz (Qf' (cvs s.nd) kq n = some r) ∧ w' = W)
 case atStart=>exact ⟨n,rfl,HT,rfl⟩
 clear HT
 obtain ⟨n,rfl,HT,rfl⟩:=hrel
 have h:=HT.o
 clear HT
 obtain _|k1:=gk
 ·cases h
 rw [Qf',Ef'] at h
 by_cases c : inR n (cvs s.nd).length
 ·rw [if_pos c] at h
  have hu:=lp' HW.o c
  rw [Ef'] at hu
  rw [Hd'] at c
  obtain ⟨p,q⟩:=c
  obtain ⟨ad,A0,c0,A1,c1,eA,hx0,hx1,hx2,hx3,hx4,hx5,-⟩:=wh' (Kd.R_reads' HS.o.rn).2.2 n p q
  subst eA
  replace p:=eq_true p
  replace q:=eq_true q
  by_cases ci : (wd' s.nd n).f4 = -1
  ·rw [if_pos (show (cv (wd' s.nd n)).f2 = -1 from ci)] at h
   obtain rfl:=Option.some.inj h
   have cb : decide ((wd' s.nd n).f4 ≥ 0) = false:=hu.trans (by rw [decide_eq_true (show (cv (wd' s.nd n)).f2 = -1 from ci)];rfl)
   clear ci h hu
   go_wp2
   go_ret
   exact ⟨rfl,rfl⟩
  rw [if_neg (show ¬(cv (wd' s.nd n)).f2 = -1 from ci)] at h
  have cb : decide ((wd' s.nd n).f4 ≥ 0) = true:=hu.trans (by rw [decide_eq_false (show ¬(cv (wd' s.nd n)).f2 = -1 from ci)];rfl)
  have HT:=qz.mk h
  clear ci h hu
  go_wp2
  go_roundg k1
  case measure=>omega
  case rel=>exact ⟨_,rfl,HT,rfl⟩
 rw [if_neg c] at h
 cases h
theorem ae' {w0 W : World} {Z : Nat → Prop} {wz : World} {g : Nat} {N : Int} {Ae : Option Addr} {ce : Nat} {es : List (S73)} {col : Nat → Nat} {vy vn vm : Value} {s : RI} (hS : Rn w0 W Z wz g N Ae ce es col vy vn vm s) (n : Int) (hw : WFn (cvs s.nd)) (hn : inR n s.nd.length) :
  Calls Tryz.prog 59 #[.pointer (some ⟨g,0,none⟩),.int .i64 n] W fun e w'=>e = .returned (.int .i64 (topI (cvs s.nd) n)) ∧ w' = W :=
 Fm' hS _ n _ hw (xh' hw (by rw [Hd'];exact hn))
def Ce' (x : S77) : Bool:=!x.f5 && decide (x.f4 < 0)
theorem ne' {w0 W : World} {Z : Nat → Prop} {wz : World} {g : Nat} {N : Int} {Ae : Option Addr} {ce : Nat} {es : List (S73)} {col : Nat → Nat} {vy vn vm : Value} {s : RI} (hS : Rn w0 W Z wz g N Ae ce es col vy vn vm s) (n : Int) (r : Bool) (hn : inR n s.nd.length) (h : Ce' (wd' s.nd n) = r) :
  Calls Tryz.prog 20 #[.pointer (some ⟨g,0,none⟩),.int .i64 n] W fun e w'=>e = .returned (.bool r) ∧ w' = W:=by
 have hu51:=Tryz.underlying51
 have hu77:=Tryz.underlying77
 have hu56:=Tryz.underlying56
 have hu73:=Tryz.underlying73
 have hu35:=Tryz.underlying35
 have HS:=qz.mk hS
 clear hS
 obtain ⟨An,cn,e_⟩:=Kd.R_slice HS.o.rn
 subst e_
 have hc:=HS.o.cells
 obtain ⟨p,q⟩:=hn
 obtain ⟨ad,A0,c0,A1,c1,eA,hx0,hx1,hx2,hx3,hx4,hx5,-⟩:=wh' (Kd.R_reads' HS.o.rn).2.2 n p q
 subst eA
 replace p:=eq_true p
 replace q:=eq_true q
 subst h
 unfold Ce'
 cases cb : (wd' s.nd n).f5 with
 | true =>
  rw [cb] at hx5
  go_enter Tryz.func20,Tryz.ntmps20
  go_wp2
  go_ret
  exact ⟨rfl,rfl⟩
 | false =>
  rw [cb] at hx5
  cases cd : decide ((wd' s.nd n).f4 < 0) <;>
  ·go_enter Tryz.func20,Tryz.ntmps20
   go_wp2
   go_ret
   exact ⟨rfl,rfl⟩
theorem uf' {w0 W : World} {Z : Nat → Prop} {wz : World} {g : Nat} {N : Int} {Ae : Option Addr} {ce : Nat} {es : List (S73)} {col : Nat → Nat} {vy vn vm : Value} {s : RI} (hS : Rn w0 W Z wz g N Ae ce es col vy vn vm s) (k : Nat) (n v : Int) (r : Bool) (hw : WFn (cvs s.nd)) (hn : n ≠ -1) (hv : -1 ≤ v) (h : Rf' (cvs s.nd) n k v = some r) :
  Calls Tryz.prog 41 #[.pointer (some ⟨g,0,none⟩),.int .i64 v,.int .i64 n] W fun e w'=>e = .returned (.bool r) ∧ w' = W:=by
 have hu51:=Tryz.underlying51
 have hu77:=Tryz.underlying77
 have hu56:=Tryz.underlying56
 have hu73:=Tryz.underlying73
 have hu35:=Tryz.underlying35
 have HS:=qz.mk hS
 clear hS
 have HT:=qz.mk h
 have HW:=qz.mk hw
 have HV:=qz.mk hv
 have HN:=qz.mk hn
 clear h hw hv hn
 obtain ⟨An,cn,e_⟩:=Kd.R_slice HS.o.rn
 subst e_
 have hc:=HS.o.cells
 go_enter Tryz.func41,Tryz.ntmps41
 go_wp2
 go_loopg [1] k (fun kq v1 w'=>∃ v : Int,v1 = .int .i64 v ∧ qz (-1 ≤ v) ∧ qz (Rf' (cvs s.nd) n kq v = some r) ∧ w' = W)
 case atStart=>exact ⟨v,rfl,HV,HT,rfl⟩
 clear HT HV
 obtain ⟨v,rfl,HV,HT,rfl⟩:=hrel
 have h:=HT.o
 clear HT
 obtain _|k1:=gk
 ·cases h
 rw [Rf'] at h
 by_cases cv : v = -1
 ·rw [if_pos cv,decide_eq_false HN.o] at h
  obtain rfl:=Option.some.inj h
  have cb : decide (v ≥ 0) = false:=by rw [decide_eq_false_iff_not];omega
  have ce : (v == n) = false:=by rw [cv];have:=HN.o;simp;omega
  clear cv h
  go_wp2
  go_ret
  exact ⟨rfl,rfl⟩
 rw [if_neg cv] at h
 have cb : decide (v ≥ 0) = true:=decide_eq_true (by have:=HV.o;omega)
 clear cv
 by_cases cn : v = n
 ·rw [if_pos cn] at h
  obtain rfl:=Option.some.inj h
  have cb2 : (v != n) = false:=by simpa using cn
  have ce : (v == n) = true:=by simpa using cn
  clear cn h
  go_wp2
  go_ret
  exact ⟨rfl,rfl⟩
 rw [if_neg cn] at h
 have cb2 : (v != n) = true:=by simpa using cn
 clear cn
 by_cases c : inR v (cvs s.nd).length
 ·rw [if_pos c] at h
  have hu:=HW.o v c
  rw [Ef'] at h hu
  have HV2 : qz (-1 ≤ (wd' s.nd v).f4):=⟨by have h0:=c.1;change (wd' s.nd v).f4 = -1 ∨ _ < (wd' s.nd v).f4 ∧ _ at hu;omega⟩
  have HT:=qz.mk h
  clear h hu
  rw [Hd'] at c
  obtain ⟨p,q⟩:=c
  obtain ⟨ad,A0,c0,A1,c1,eA,hx0,hx1,hx2,hx3,hx4,hx5,-⟩:=wh' (Kd.R_reads' HS.o.rn).2.2 v p q
  subst eA
  replace p:=eq_true p
  replace q:=eq_true q
  go_wp2
  go_roundg k1
  case measure=>omega
  case rel=>exact ⟨_,rfl,HV2,HT,rfl⟩
 rw [if_neg c] at h
 cases h
theorem tj' {w0 W : World} {Z : Nat → Prop} {wz : World} {g : Nat} {N : Int} {Ae : Option Addr} {ce : Nat} {es : List (S73)} {col : Nat → Nat} {vy vn vm : Value} {s : RI} (hS : Rn w0 W Z wz g N Ae ce es col vy vn vm s) (n v : Int) (hw : WFn (cvs s.nd)) (hn : n ≠ -1) (hv : v = -1 ∨ inR v s.nd.length) :
  Calls Tryz.prog 41 #[.pointer (some ⟨g,0,none⟩),.int .i64 v,.int .i64 n] W fun e w'=>e = .returned (.bool (Ad' (cvs s.nd) n v)) ∧ w' = W :=
 uf' hS _ n v _ hw hn (by rcases hv with h|h;omega;have:=h.1;omega) (yh' hw n (by rw [Hd'];exact hv))
def slS (nd : List S89) (a b : Int) : Nat → Int → Int → Int
 | 0,_,s=>s
 | k + 1,i,s=>if i < (nd.length : Int) then slS nd a b k (i + 1) (if (td' nd i).f6 = false ∧ Ad' nd i a = true ∧ Ad' nd i b = true then wrap64 (s + (td' nd i).f5) else s) else s
def slackS (N : Int) (y : List Int) (nd : List S89) (x : S73) : Int:=slS nd x.f0 x.f1 (nd.length + 1) N (Ig' y x)
theorem Hi' {w0 W : World} {Z : Nat → Prop} {wz : World} {g : Nat} {N : Int} {Ae : Option Addr} {ce : Nat} {es : List (S73)} {col : Nat → Nat} {vy vn vm : Value} {s : RI} (hS : Rn w0 W Z wz g N Ae ce es col vy vn vm s) (hw : WFn (cvs s.nd)) (X : S73) (hA : inR X.f0 s.nd.length) (hB : inR X.f1 s.nd.length) (hyA : inR X.f0 s.y.length) (hyB : inR X.f1 s.y.length) (hN : 0 ≤ N) (hsz : s.nd.length ≤ 1000000) :
  Calls Tryz.prog 76 #[.pointer (some ⟨g,0,none⟩),.agg #[.int .i64 X.f0,.int .i64 X.f1,.int .i64 X.f2,.int .i64 X.f3,.int .i64 X.f4]] W fun e w'=>e = .returned (.int .i64 (slackS N s.y (cvs s.nd) X)) ∧ Below W.heap.size W w':=by
 have hu51:=Tryz.underlying51
 have hu77:=Tryz.underlying77
 have hu56:=Tryz.underlying56
 have hu73:=Tryz.underlying73
 have hu35:=Tryz.underlying35
 have HS:=qz.mk hS
 clear hS
 have HW:=qz.mk hw
 have HAB:=qz.mk (And.intro hA hB)
 have HN:=qz.mk hN
 have HSZ:=qz.mk hsz
 obtain ⟨An,cn,e_⟩:=Kd.R_slice HS.o.rn
 subst e_
 obtain ⟨Ay,cy,e_⟩:=Kd.R_slice HS.o.ry
 subst e_
 have hc:=HS.o.cells
 obtain ⟨yA0,yA1⟩:=hyA
 obtain ⟨yB0,yB1⟩:=hyB
 obtain ⟨ady,e_,hyA⟩:=Kd.at_int (Kd.R_reads' HS.o.ry).2.2 _ yA0 yA1
 subst e_
 obtain ⟨ady',e_,hyB⟩:=Kd.at_int (Kd.R_reads' HS.o.ry).2.2 _ yB0 yB1
 obtain rfl:=Option.some.inj e_
 replace yA0:=eq_true yA0
 replace yA1:=eq_true yA1
 replace yB0:=eq_true yB0
 replace yB1:=eq_true yB1
 obtain ⟨R,hR⟩ : ∃ R,slackS N s.y (cvs s.nd) X = R:=⟨_,rfl⟩
 have HT:=qz.mk hR
 rw [hR]
 rw [slackS,Ig',Hd'] at HT
 clear hw hA hB hN hsz hR
 go_enter Tryz.func76,Tryz.ntmps76
 go_upto_region 1 with fail
 have BX1 : qz ((W.alloc (.cells #[.int .i64 X.f0,.int .i64 X.f1,.int .i64 X.f2,.int .i64 X.f3,.int .i64 X.f4] 73)).heap[W.heap.size]? = some (.cells #[.int .i64 X.f0,.int .i64 X.f1,.int .i64 X.f2,.int .i64 X.f3,.int .i64 X.f4] 73 (0,0))):=⟨yd' W _⟩
 have HB1 : qz (Below W.heap.size W (W.alloc (.cells #[.int .i64 X.f0,.int .i64 X.f1,.int .i64 X.f2,.int .i64 X.f3,.int .i64 X.f4] 73))):=⟨qo (Below.refl _ _) _⟩
 generalize W.alloc (.cells #[.int .i64 X.f0,.int .i64 X.f1,.int .i64 X.f2,.int .i64 X.f3,.int .i64 X.f4] 73) = W1 at *
 generalize hgb : W.heap.size = gb at BX1 ⊢
 go_wp2_with fail
 refine Md' (n:=22) (S:=fun w'=>w'.cell? ⟨gb,0,none⟩ = some (.int .i64 X.f0) ∧ w'.cell? ⟨gb,1,none⟩ = some (.int .i64 X.f1) ∧ w'.cell? ⟨gb,2,none⟩ = some (.int .i64 X.f2) ∧ w'.cell? ⟨gb,3,none⟩ = some (.int .i64 X.f3) ∧ w'.cell? ⟨gb,4,none⟩ = some (.int .i64 X.f4) ∧ w'.cell? ⟨g,2,none⟩ = some (.slice (some ady) s.y.length cy) ∧ w'.cell? (ady.add X.f0.toNat) = some (.int .i64 (rd s.y X.f0)) ∧ w'.cell? (ady.add X.f1.toNat) = some (.int .i64 (rd s.y X.f1))) (ds:=[]) (Array.replicate 22 false) da' rfl rfl ⟨(qq BX1.o 0).trans rfl,(qq BX1.o 1).trans rfl,(qq BX1.o 2).trans rfl,(qq BX1.o 3).trans rfl,(qq BX1.o 4).trans rfl,vd' HB1.o hc.2.2.1,vd' HB1.o hyA,vd' HB1.o hyB⟩ (fun hHeld=>?_)
 refine pa_ 0 7 (bz_ 22 1) ?_
 refine pa_ 1 8 (bz_ 22 3) ?_
 refine pa_ 2 9 (bz_ 22 7) ?_
 refine pa_ 4 11 (bz_ 22 23) ?_
 refine pa_ 8 15 (bz_ 22 279) ?_
 refine pa_ 9 16 (bz_ 22 791) ?_
 refine pa_ 10 17 (bz_ 22 1815) ?_
 refine pa_ 12 19 (bz_ 22 5911) ?_
 refine ta_ 3 10 (bz_ 22 5919) hHeld (hy:=Or.inl ⟨ca',ya'⟩) (h:=?_)
 refine ta_ 5 12 (bz_ 22 5951) hHeld (hy:=Or.inl ⟨ca',ya'⟩) (h:=?_)
 refine pa_ 6 13 (bz_ 22 6015) ?_
 refine ta_ 7 14 (bz_ 22 6143) hHeld (hy:=Or.inl ⟨ca',ya'⟩) (h:=?_)
 refine ta_ 11 18 (bz_ 22 8191) hHeld (hy:=Or.inl ⟨ca',ya'⟩) (h:=?_)
 refine ta_ 13 20 (bz_ 22 16383) hHeld (hy:=Or.inl ⟨ca',ya'⟩) (h:=?_)
 refine pa_ 14 21 (bz_ 22 32767) ?_
 refine ta_ 15 22 (bz_ 22 65535) hHeld (hy:=Or.inl ⟨ca',ya'⟩) (h:=?_)
 refine pa_ 16 23 (bz_ 22 131071) ?_
 refine ta_ 17 24 (bz_ 22 262143) hHeld (hy:=Or.inl ⟨ca',ya'⟩) (h:=?_)
 refine Td' (i:=18) (N:=some 25) (bz_ 22 524287) rfl rfl da' ba' (fun K hK=>?_)
 refine goes_ Tryz.func39 da' rfl #[.agg #[.int .i64 X.f0,.int .i64 X.f1,.int .i64 X.f2,.int .i64 X.f3,.int .i64 X.f4]] ca' rfl rfl xa' ?_
 with_reducible refine (spec_Scalar.calls _ _ _ _ _ _ _ rfl).mono ?_
 rintro e wc ⟨rfl,hb⟩
 refine ⟨_,rfl,?_⟩
 refine hK.out _ _ ⟨vd' hb hHeld.1,vd' hb hHeld.2.1,vd' hb hHeld.2.2.1,vd' hb hHeld.2.2.2.1,vd' hb hHeld.2.2.2.2.1,vd' hb hHeld.2.2.2.2.2.1,vd' hb hHeld.2.2.2.2.2.2.1,vd' hb hHeld.2.2.2.2.2.2.2⟩ (fun hHeld=>?_)
 clear hK K
 refine zd' (a':=?_) ?_ ?_
 rotate_left
 ·show Act.put _ (some 25) _ = _
  simp only [Act.put,List.setIfInBounds_toArray,List.set_cons_zero,List.set_cons_succ,Bd',Cd']
  rfl
 refine pa_ 19 26 (bz_ 22 1048575) ?_
 refine pa_ 20 27 (bz_ 22 2097151) ?_
 refine pa_ 21 5 (bz_ 22 4194303) ?_
 refine Wd' da' ?_
 have HBC : qz (Below W1.heap.size W1 wc):=⟨qy Gc' hb⟩
 have HB2:=qz.mk (qy HB1.o HBC.o)
 have BX2:=qz.mk (qx BX1.o HBC.o)
 have HS2:=qz.mk (HS.o.to HB2.o)
 clear hHeld HBC BX1 hb hc hyA hyB HB1
 have hc:=HS2.o.cells
 have hc0 : wc.cell? ⟨gb,0,none⟩ = some (.int .i64 X.f0):=(qq BX2.o 0).trans rfl
 have hc1 : wc.cell? ⟨gb,1,none⟩ = some (.int .i64 X.f1):=(qq BX2.o 1).trans rfl
 go_wp2_with fail
 go_loopg [5,6] (s.nd.length + 1) (fun kq v5 v6 w'=>∃ (i z : Int),v5 = .int .i64 z ∧ v6 = .int .i64 i ∧ qz (0 ≤ i ∧ (s.nd.length : Int) < i + kq) ∧ qz (slS (cvs s.nd) X.f0 X.f1 kq i z = R) ∧ w' = wc)
 case atStart=>exact ⟨_,_,rfl,rfl,⟨HN.o,sa'⟩,HT,rfl⟩
 clear HT
 obtain ⟨i,z,rfl,rfl,HI,HT,rfl⟩:=hrel
 have h:=HT.o
 clear HT
 have h0:=HI.o
 cases gk with
 | zero =>
  rw [slS] at h
  subst h
  have cl0 : decide (i < (s.nd.length : Int)) = false:=decide_eq_false aa'
  clear h0
  go_wp2_with fail
  go_ret
  exact ⟨rfl,HB2.o⟩
 | succ k1 =>
  rw [slS,Hd'] at h
  by_cases c : i < (s.nd.length : Int)
  ·rw [if_pos c] at h
   have HIL:=qz.mk c
   have cl0 : decide (i < (s.nd.length : Int)) = true:=decide_eq_true c
   have hi1 : wrap64 (i + 1) = i + 1:=w64 aa' jb'
   have HQA:=qz.mk (yh' HW.o i (v:=X.f0) (.inr (by rw [Hd'];exact HAB.o.1)))
   have HQB:=qz.mk (yh' HW.o i (v:=X.f1) (.inr (by rw [Hd'];exact HAB.o.2)))
   have HI1 : qz (i ≠ -1):=⟨aa'⟩
   have HVA : qz (-1 ≤ X.f0):=⟨by have:=HAB.o.1.1;omega⟩
   have HVB : qz (-1 ≤ X.f1):=⟨by have:=HAB.o.2.1;omega⟩
   rw [Ef'] at h
   have p:=h0.1
   have q:=c
   obtain ⟨ad,A0,c0,A1,c1,eA,hx0,hx1,hx2,hx3,hx4,hx5,-⟩:=wh' (Kd.R_reads' HS2.o.rn).2.2 i p q
   subst eA
   replace p:=eq_true p
   replace q:=eq_true q
   clear c h0
   cases b1 : (wd' s.nd i).f5 with
   | true =>
    rw [if_neg (by rintro ⟨h,-⟩;change (wd' s.nd i).f5 = false at h;rw [b1] at h;cases h)] at h
    rw [b1] at hx5
    have HT:=qz.mk h
    clear h b1 HQA HQB
    go_wp2_with fail
    go_roundg k1
    case measure=>omega
    case rel=>exact ⟨i + 1,z,rfl,Ea',⟨fa',fa'⟩,HT,rfl⟩
   | false =>
    rw [b1] at hx5
    cases b2 : Ad' (cvs s.nd) i X.f0 with
    | false =>
     rw [if_neg (by rintro ⟨-,h,-⟩;rw [b2] at h;cases h)] at h
     rw [b2] at HQA
     have HT:=qz.mk h
     clear h b1 b2 HQB
     go_wp2_with (first|(go_at_call 41;(with_reducible refine (uf' HS2.o _ _ X.f0 _ HW.o HI1.o HVA.o HQA.o).mono ?_);rintro e_ w2 ⟨rfl,h2⟩;replace h2:=h2.symm;subst h2))
     go_roundg k1
     case measure=>omega
     case rel=>exact ⟨i + 1,z,rfl,Ea',⟨fa',fa'⟩,HT,rfl⟩
    | true =>
     rw [b2] at HQA
     cases b3 : Ad' (cvs s.nd) i X.f1 with
     | false =>
      rw [if_neg (by rintro ⟨-,-,h⟩;rw [b3] at h;cases h)] at h
      rw [b3] at HQB
      have HT:=qz.mk h
      clear h b1 b2 b3
      go_wp2_with (first|(go_at_call 41;(with_reducible refine (uf' HS2.o _ _ X.f0 _ HW.o HI1.o HVA.o HQA.o).mono ?_);rintro e_ w2 ⟨rfl,h2⟩;replace h2:=h2.symm;subst h2)|(go_at_call 41;(with_reducible refine (uf' HS2.o _ _ X.f1 _ HW.o HI1.o HVB.o HQB.o).mono ?_);rintro e_ w2 ⟨rfl,h2⟩;replace h2:=h2.symm;subst h2))
      go_roundg k1
      case measure=>omega
      case rel=>exact ⟨i + 1,z,rfl,Ea',⟨fa',fa'⟩,HT,rfl⟩
     | true =>
      rw [if_pos ⟨b1,b2,b3⟩] at h
      rw [b3] at HQB
      have HT:=qz.mk h
      clear h b1 b2 b3
      go_wp2_with (first|(go_at_call 41;(with_reducible refine (uf' HS2.o _ _ X.f0 _ HW.o HI1.o HVA.o HQA.o).mono ?_);rintro e_ w2 ⟨rfl,h2⟩;replace h2:=h2.symm;subst h2)|(go_at_call 41;(with_reducible refine (uf' HS2.o _ _ X.f1 _ HW.o HI1.o HVB.o HQB.o).mono ?_);rintro e_ w2 ⟨rfl,h2⟩;replace h2:=h2.symm;subst h2))
      go_roundg k1
      case measure=>omega
      case rel=>exact ⟨i + 1,_,rfl,Ea',⟨fa',fa'⟩,HT,rfl⟩
  rw [if_neg c] at h
  subst h
  have cl0 : decide (i < (s.nd.length : Int)) = false:=decide_eq_false c
  clear c h0
  go_wp2_with fail
  go_ret
  exact ⟨rfl,HB2.o⟩
def Fe' (nd : List S89) (t : Int) : List S56 → S56 × Bool
 | []=>(⟨0,0⟩,false)
 | x :: l=>if topI nd x.f0 = t then (x,true) else if topI nd x.f1 = t then (⟨x.f1,x.f0⟩,true) else Fe' nd t l
theorem uj' (l : List S56) (i : Int) (h0 : 0 ≤ i) (h1 : i < (l.length : Int)) : l.drop i.toNat = xd' l i :: l.drop (i + 1).toNat:=by
 have h : i.toNat < l.length:=by omega
 rw [List.drop_eq_getElem_cons h,show (i + 1).toNat = i.toNat + 1 from by omega]
 congr 1
 simp [xd',h]
theorem kk' (l : List S56) (i : Int) (h0 : 0 ≤ i) (h1 : i < (l.length : Int)) : xd' l i ∈ l:=by
 have h : i.toNat < l.length:=by omega
 have : xd' l i = l[i.toNat]:=by simp [xd',h]
 rw [this]
 exact List.getElem_mem h
theorem put2 {W : World} {gb : Nat} {a0 a1 b0 b1 : Value} (h : W.heap[gb]? = some (.cells #[a0,a1] 56 (0,0))) : ((W.setCell ⟨gb,0,none⟩ b0).setCell ⟨gb,1,none⟩ b1).heap[gb]? = some (.cells #[b0,b1] 56 (0,0)):=by
 simpa using be' (be' h 0 b0) 1 b1
theorem Nh' {W W1 : World} {gb : Nat} {b0 b1 : Value} (h : Below W.heap.size W W1) (hg : W.heap.size ≤ gb) : Below W.heap.size W ((W1.setCell ⟨gb,0,none⟩ b0).setCell ⟨gb,1,none⟩ b1):=qp (qp h hg) hg
theorem Jg' {w0 W : World} {Z : Nat → Prop} {wz : World} {g : Nat} {N : Int} {Ae : Option Addr} {ce : Nat} {es : List (S73)} {col : Nat → Nat} {vy vn vm : Value} {s : RI} (hS : Rn w0 W Z wz g N Ae ce es col vy vn vm s) (t : Int) (r : S56) (b : Bool) (hw : WFn (cvs s.nd)) (hm : ∀ x ∈ s.mt,inR x.f0 s.nd.length ∧ inR x.f1 s.nd.length) (hsz : s.mt.length ≤ 1000000) (h : Fe' (cvs s.nd) t s.mt = (r,b)) :
  Calls Tryz.prog 62 #[.pointer (some ⟨g,0,none⟩),.int .i64 t] W fun e w'=>e = .returned (.tuple #[.agg #[.int .i64 r.f0,.int .i64 r.f1],.bool b]) ∧ Below W.heap.size W w':=by
 have hu51:=Tryz.underlying51
 have hu77:=Tryz.underlying77
 have hu56:=Tryz.underlying56
 have hu73:=Tryz.underlying73
 have hu35:=Tryz.underlying35
 have HS:=qz.mk hS
 clear hS
 have HW:=qz.mk hw
 have HM:=qz.mk hm
 have HSZ:=qz.mk hsz
 have HT:=qz.mk h
 clear hw hm hsz h
 obtain ⟨Am,cm,e_⟩:=Kd.R_slice HS.o.rm
 subst e_
 go_enter Tryz.func62,Tryz.ntmps62
 go_upto_region 1 with fail
 have BX1 : qz ((W.alloc (.cells #[.int .i64 0,.int .i64 0] 56)).heap[W.heap.size]? = some (.cells #[.int .i64 0,.int .i64 0] 56 (0,0))):=⟨yd' W _⟩
 have HB1 : qz (Below W.heap.size W (W.alloc (.cells #[.int .i64 0,.int .i64 0] 56))):=⟨qo (Below.refl _ _) _⟩
 generalize W.alloc (.cells #[.int .i64 0,.int .i64 0] 56) = W1 at *
 generalize hgb : W.heap.size = gb at BX1 ⊢
 have hc:=(HS.o.to HB1.o).cells
 go_wp2_with fail
 go_loopg [6] (s.mt.length + 1) (fun kq v6 w'=>∃ i : Int,v6 = .int .i64 i ∧ qz (0 ≤ i ∧ i + kq = s.mt.length + 1 ∧ i ≤ s.mt.length) ∧ qz (Fe' (cvs s.nd) t (s.mt.drop i.toNat) = (r,b)) ∧ qz (Below W1.heap.size W1 w'))
 case atStart=>exact ⟨0,rfl,⟨aa',aa',aa'⟩,HT,⟨Below.refl _ _⟩⟩
 clear HT hc
 obtain ⟨i,rfl,HI,HT,HB⟩:=hrel
 have h:=HT.o
 clear HT
 have HS2:=qz.mk (HS.o.to (qy HB1.o HB.o))
 have hc:=HS2.o.cells
 have BX2:=qz.mk (qx BX1.o HB.o)
 cases gk with
 | zero =>
  exfalso
  have h1:=HI.o
  omega
 | succ k1 =>
  by_cases c : i < (s.mt.length : Int)
  ·have hi:=HI.o
   rw [uj' _ _ hi.1 c,Fe'] at h
   have cl0 : decide (i < (s.mt.length : Int)) = true:=decide_eq_true c
   have HIL:=qz.mk c
   obtain ⟨ad,e_,hx0,hx1⟩:=Cf' (Kd.R_reads' HS2.o.rm).2.2 i hi.1 c
   subst e_
   obtain ⟨m0,m1⟩:=HM.o _ (kk' s.mt i hi.1 c)
   have HX:=qz.mk (And.intro m0 m1)
   obtain ⟨x,hx⟩ : ∃ x,xd' s.mt i = x:=⟨_,rfl⟩
   rw [hx] at h hx0 hx1 HX
   have pi:=eq_true hi.1
   have qi:=eq_true c
   clear c hi m0 m1 hx
   go_upto_region 5 with fail
   have BXX : qz ((wr.alloc (.cells #[.int .i64 x.f0,.int .i64 x.f1] 56)).heap[wr.heap.size]? = some (.cells #[.int .i64 x.f0,.int .i64 x.f1] 56 (0,0))):=⟨yd' wr _⟩
   have HBX : qz (Below wr.heap.size wr (wr.alloc (.cells #[.int .i64 x.f0,.int .i64 x.f1] 56))):=⟨qo (Below.refl _ _) _⟩
   generalize wr.alloc (.cells #[.int .i64 x.f0,.int .i64 x.f1] 56) = W2 at *
   generalize hgx : wr.heap.size = gx at BXX ⊢
   have HS3:=qz.mk (HS2.o.to HBX.o)
   have hb0 : W2.cell? ⟨gx,0,none⟩ = some (.int .i64 x.f0):=(qq BXX.o 0).trans rfl
   have hb1 : W2.cell? ⟨gx,1,none⟩ = some (.int .i64 x.f1):=(qq BXX.o 1).trans rfl
   have BX3:=qz.mk (qx BX2.o HBX.o)
   have hk0 : W2.cell? ⟨gb,0,none⟩ = some (.int .i64 0):=(qq BX3.o 0).trans rfl
   have hk1 : W2.cell? ⟨gb,1,none⟩ = some (.int .i64 0):=(qq BX3.o 1).trans rfl
   have hf0:=qu BX3.o 0
   have hf1:=qu BX3.o 1
   have hgxb : (gx == gb) = false:=by have:=ke' BX2.o;simp;omega
   have hgbx : (gb == gx) = false:=by have:=ke' BX2.o;simp;omega
   by_cases c1 : topI (cvs s.nd) x.f0 = t
   ·rw [if_pos c1] at h
    obtain ⟨rfl,rfl⟩:=Prod.mk.inj h
    have cb1 : (topI (cvs s.nd) x.f0 == t) = true:=by simpa using c1
    clear c1 h
    go_wp2_with (first|(go_at_call 59;(with_reducible refine (ae' HS3.o x.f0 HW.o HX.o.1).mono ?_);rintro e_ w2 ⟨rfl,h2⟩;replace h2:=h2.symm;subst h2)|(go_at_call 59;(with_reducible refine (ae' HS3.o x.f1 HW.o HX.o.2).mono ?_);rintro e_ w2 ⟨rfl,h2⟩;replace h2:=h2.symm;subst h2))
    refine bodyPost_ret (Ni' rfl _ _ gb 56 #[.int .i64 (x.f0),.int .i64 (x.f1)] (0,0) _ rfl (put2 BX3.o) Tryz.underlying56 rfl da') rfl ?_
    subst hgb
    exact ⟨rfl,Nh' (qy HB1.o (qy HB.o HBX.o)) aa'⟩
   rw [if_neg c1] at h
   have cb1 : (topI (cvs s.nd) x.f0 == t) = false:=by simpa using c1
   clear c1
   by_cases c2 : topI (cvs s.nd) x.f1 = t
   ·rw [if_pos c2] at h
    obtain ⟨rfl,rfl⟩:=Prod.mk.inj h
    have cb2 : (topI (cvs s.nd) x.f1 == t) = true:=by simpa using c2
    clear c2 h
    go_wp2_with (first|(go_at_call 59;(with_reducible refine (ae' HS3.o x.f0 HW.o HX.o.1).mono ?_);rintro e_ w2 ⟨rfl,h2⟩;replace h2:=h2.symm;subst h2)|(go_at_call 59;(with_reducible refine (ae' HS3.o x.f1 HW.o HX.o.2).mono ?_);rintro e_ w2 ⟨rfl,h2⟩;replace h2:=h2.symm;subst h2))
    refine bodyPost_ret (Ni' rfl _ _ gb 56 #[.int .i64 (x.f1),.int .i64 (x.f0)] (0,0) _ rfl (put2 BX3.o) Tryz.underlying56 rfl da') rfl ?_
    subst hgb
    exact ⟨rfl,Nh' (qy HB1.o (qy HB.o HBX.o)) aa'⟩
   rw [if_neg c2] at h
   have cb2 : (topI (cvs s.nd) x.f1 == t) = false:=by simpa using c2
   have HT:=qz.mk h
   clear c2 h
   go_wp2_with (first|(go_at_call 59;(with_reducible refine (ae' HS3.o x.f0 HW.o HX.o.1).mono ?_);rintro e_ w2 ⟨rfl,h2⟩;replace h2:=h2.symm;subst h2)|(go_at_call 59;(with_reducible refine (ae' HS3.o x.f1 HW.o HX.o.2).mono ?_);rintro e_ w2 ⟨rfl,h2⟩;replace h2:=h2.symm;subst h2))
   go_roundg k1
   case measure=>omega
   case rel=>exact ⟨i + 1,by rw [w64 fa' (by have:=HIL.o;have:=HSZ.o;omega)],⟨fa',fa',ga'⟩,HT,⟨qy HB.o HBX.o⟩⟩
  have hi:=HI.o
  rw [List.drop_eq_nil_of_le aa',Fe'] at h
  obtain ⟨rfl,rfl⟩:=Prod.mk.inj h
  have cl0 : decide (i < (s.mt.length : Int)) = false:=decide_eq_false c
  have hk0 : wr.cell? ⟨gb,0,none⟩ = some (.int .i64 0):=(qq BX2.o 0).trans rfl
  have hk1 : wr.cell? ⟨gb,1,none⟩ = some (.int .i64 0):=(qq BX2.o 1).trans rfl
  have hf0:=qu BX2.o 0
  have hf1:=qu BX2.o 1
  clear c hi h
  go_wp2_with fail
  refine bodyPost_ret (Ni' rfl _ _ gb 56 #[.int .i64 (0),.int .i64 (0)] (0,0) _ rfl (put2 BX2.o) Tryz.underlying56 rfl da') rfl ?_
  subst hgb
  exact ⟨rfl,Nh' (qy HB1.o HB.o) aa'⟩
def xe' (nd : List S77) (mt : List S56) (t : Int) : Int:=if (Fe' (cvs nd) t mt).2 = true then (Fe' (cvs nd) t mt).1.f0 else (wd' nd t).f2
theorem gj' {w0 W : World} {Z : Nat → Prop} {wz : World} {g : Nat} {N : Int} {Ae : Option Addr} {ce : Nat} {es : List (S73)} {col : Nat → Nat} {vy vn vm : Value} {s : RI} (hS : Rn w0 W Z wz g N Ae ce es col vy vn vm s) (t : Int) (hw : WFn (cvs s.nd)) (hm : ∀ x ∈ s.mt,inR x.f0 s.nd.length ∧ inR x.f1 s.nd.length) (hsz : s.mt.length ≤ 1000000) (ht : inR t s.nd.length) :
  Calls Tryz.prog 43 #[.pointer (some ⟨g,0,none⟩),.int .i64 t] W fun e w'=>e = .returned (.int .i64 (xe' s.nd s.mt t)) ∧ Below W.heap.size W w':=by
 have hu51:=Tryz.underlying51
 have hu77:=Tryz.underlying77
 have hu56:=Tryz.underlying56
 have hu73:=Tryz.underlying73
 have hu35:=Tryz.underlying35
 have HS:=qz.mk hS
 clear hS
 obtain ⟨r,b,hr⟩ : ∃ r b,Fe' (cvs s.nd) t s.mt = (r,b):=⟨_,_,rfl⟩
 rw [xe',hr]
 dsimp only
 obtain ⟨An,cn,e_⟩:=Kd.R_slice HS.o.rn
 subst e_
 have HMW:=qz.mk (fun (b' : Bool) (e : b = b')=>Jg' HS.o t r b' hw hm hsz (e ▸ hr))
 clear hw hm hsz hr
 obtain ⟨p,q⟩:=ht
 cases b with
 | true =>
  rw [if_pos rfl]
  go_enter Tryz.func43,Tryz.ntmps43
  go_upto_region 2 with (first|(go_at_call 62;refine (HMW.o true rfl).mono ?_;rintro e_ w2 ⟨rfl,hb⟩;have HB2:=qz.mk hb;clear hb))
  have BXX : qz ((w2.alloc (.cells #[.int .i64 r.f0,.int .i64 r.f1] 56)).heap[w2.heap.size]? = some (.cells #[.int .i64 r.f0,.int .i64 r.f1] 56 (0,0))):=⟨yd' w2 _⟩
  have HBX : qz (Below w2.heap.size w2 (w2.alloc (.cells #[.int .i64 r.f0,.int .i64 r.f1] 56))):=⟨qo (Below.refl _ _) _⟩
  generalize w2.alloc (.cells #[.int .i64 r.f0,.int .i64 r.f1] 56) = W3 at *
  have hb0 : W3.cell? ⟨w2.heap.size,0,none⟩ = some (.int .i64 r.f0):=(qq BXX.o 0).trans rfl
  go_wp2_with fail
  go_ret
  exact ⟨rfl,qy HB2.o HBX.o⟩
 | false =>
  rw [if_neg ba']
  go_enter Tryz.func43,Tryz.ntmps43
  go_upto_region 2 with (first|(go_at_call 62;refine (HMW.o false rfl).mono ?_;rintro e_ w2 ⟨rfl,hb⟩;have HB2:=qz.mk hb;clear hb))
  have BXX : qz ((w2.alloc (.cells #[.int .i64 r.f0,.int .i64 r.f1] 56)).heap[w2.heap.size]? = some (.cells #[.int .i64 r.f0,.int .i64 r.f1] 56 (0,0))):=⟨yd' w2 _⟩
  have HBX : qz (Below w2.heap.size w2 (w2.alloc (.cells #[.int .i64 r.f0,.int .i64 r.f1] 56))):=⟨qo (Below.refl _ _) _⟩
  generalize w2.alloc (.cells #[.int .i64 r.f0,.int .i64 r.f1] 56) = W3 at *
  have HS3:=qz.mk (HS.o.to (qy HB2.o HBX.o))
  have hc:=HS3.o.cells
  obtain ⟨ad,A0,c0,A1,c1,eA,hx0,hx1,hx2,hx3,hx4,hx5,-⟩:=wh' (Kd.R_reads' HS3.o.rn).2.2 t p q
  subst eA
  have p':=eq_true p
  have q':=eq_true q
  go_wp2_with fail
  go_ret
  exact ⟨rfl,qy HB2.o HBX.o⟩
theorem Pl' {nd : List S77} (hw : WFn (cvs nd)) {i : Int} (hi : inR i nd.length) : Dd' (td' (cvs nd) i) = Ce' (wd' nd i):=by
 have h:=hw i (by rw [Hd'];exact hi)
 rw [Ef'] at h ⊢
 have h0:=hi.1
 change (wd' nd i).f4 = -1 ∨ i < (wd' nd i).f4 ∧ _ at h
 rw [Dd',Ce',Bool.and_comm]
 show (!(wd' nd i).f5 && decide ((wd' nd i).f4 = -1)) = (!(wd' nd i).f5 && decide ((wd' nd i).f4 < 0))
 congr 1
 rw [decide_eq_decide]
 omega
theorem Ii' {w0 W : World} {Z : Nat → Prop} {wz : World} {g : Nat} {N : Int} {Ae : Option Addr} {ce : Nat} {es : List (S73)} {col : Nat → Nat} {vy vn vm : Value} {s : RI} (hS : Rn w0 W Z wz g N Ae ce es col vy vn vm s) (hw : WFn (cvs s.nd)) (hN : 0 ≤ N) (hsz : s.nd.length ≤ 1000000) (Al : Option Addr) (cl : Nat) (L : List Int) (hC : Kd.C (Kd.int .i64) W Al L.length L) (hcl : L.length ≤ cl) (lab r : Int) (hL : L = [] ∧ lab = 0 ∨ L ≠ [] ∧ L.length = s.nd.length ∧ lab = 2)
  (h : Zd' (cvs s.nd) L lab (s.nd.length + 1) N = r) :
  Calls Tryz.prog 78 #[.pointer (some ⟨g,0,none⟩),.slice Al L.length cl] W fun e w'=>e = .returned (.int .i64 r) ∧ w' = W:=by
 have hu51:=Tryz.underlying51
 have hu77:=Tryz.underlying77
 have hu56:=Tryz.underlying56
 have hu73:=Tryz.underlying73
 have hu35:=Tryz.underlying35
 have HS:=qz.mk hS
 clear hS
 have HW:=qz.mk hw
 have HT:=qz.mk h
 have HN:=qz.mk hN
 have HSZ:=qz.mk hsz
 have HC:=qz.mk hC
 have HL:=qz.mk hL
 clear hw h hN hsz hC hL
 obtain ⟨An,cn,e_⟩:=Kd.R_slice HS.o.rn
 subst e_
 have hc:=HS.o.cells
 go_enter Tryz.func78,Tryz.ntmps78
 go_wp2_with fail
 go_loopg [5] (s.nd.length + 1) (fun kq v5 w'=>∃ i : Int,v5 = .int .i64 i ∧ qz (0 ≤ i ∧ (s.nd.length : Int) < i + kq) ∧ qz (Zd' (cvs s.nd) L lab kq i = r) ∧ w' = W)
 case atStart=>exact ⟨_,rfl,⟨HN.o,sa'⟩,HT,rfl⟩
 clear HT
 obtain ⟨i,rfl,HI,HT,rfl⟩:=hrel
 have h:=HT.o
 clear HT
 have h0:=HI.o
 by_cases c : i < (s.nd.length : Int)
 ·cases gk with
  | zero =>
   exfalso
   omega
  | succ k1 =>
   rw [Zd',Hd',if_pos c,Pl' HW.o ⟨h0.1,c⟩,Ef'] at h
   have cl0 : decide (i < (s.nd.length : Int)) = true:=decide_eq_true c
   have hi1 : wrap64 (i + 1) = i + 1:=w64 aa' jb'
   have HIN : qz (inR i s.nd.length):=⟨⟨h0.1,c⟩⟩
   have p:=h0.1
   have q:=c
   obtain ⟨ad,A0,c0,A1,c1,eA,hx0,hx1,hx2,hx3,hx4,hx5,-⟩:=wh' (Kd.R_reads' HS.o.rn).2.2 i p q
   subst eA
   replace p:=eq_true p
   replace q:=eq_true q
   clear c h0
   cases b1 : Ce' (wd' s.nd i) with
   | false =>
    rw [if_neg (by rintro ⟨h,-⟩;rw [b1] at h;cases h)] at h
    have HT:=qz.mk h
    have HB1:=qz.mk b1
    clear h b1
    go_wp2_with (first|(go_at_call 20;(with_reducible refine (ne' HS.o i _ HIN.o HB1.o).mono ?_);rintro e_ w2 ⟨rfl,h2⟩;replace h2:=h2.symm;subst h2))
    go_roundg k1
    case measure=>omega
    case rel=>exact ⟨i + 1,Ea',⟨fa',fa'⟩,HT,rfl⟩
   | true =>
    have HB1:=qz.mk b1
    by_cases b2 : (wd' s.nd i).f3 = 0
    ·have cb2 : ((wd' s.nd i).f3 == 0) = true:=by simpa using b2
     rcases HL.o with ⟨hL,hlab⟩|⟨hL,hLl,hlab⟩
     ·rw [if_pos ⟨b1,b2,.inl hlab⟩] at h
      subst h
      have cb3 : ((L.length : Int) == 0) = true:=by rw [hL];decide
      clear b1 b2 hlab hL
      go_wp2_with (first|(go_at_call 20;(with_reducible refine (ne' HS.o i _ HIN.o HB1.o).mono ?_);rintro e_ w2 ⟨rfl,h2⟩;replace h2:=h2.symm;subst h2))
      go_ret
      exact ⟨rfl,rfl⟩
     have cb3 : ((L.length : Int) == 0) = false:=by
      have : 0 < L.length:=List.length_pos_iff.2 hL
      simp
      omega
     have qL : i < (L.length : Int):=by have:=HIN.o.2;omega
     obtain ⟨al,e_,hxl⟩:=Kd.at_int HC.o i HIN.o.1 qL
     subst e_
     replace qL:=eq_true qL
     subst hlab
     clear hLl hL
     by_cases b3 : rd L i = 2
     ·rw [if_pos ⟨b1,b2,.inr b3⟩] at h
      subst h
      have cb4 : (rd L i == 2) = true:=by simpa using b3
      clear b1 b2 b3
      go_wp2_with (first|(go_at_call 20;(with_reducible refine (ne' HS.o i _ HIN.o HB1.o).mono ?_);rintro e_ w2 ⟨rfl,h2⟩;replace h2:=h2.symm;subst h2))
      go_ret
      exact ⟨rfl,rfl⟩
     rw [if_neg (by rintro ⟨-,-,h|h⟩;exact absurd h ba';exact b3 h)] at h
     have HT:=qz.mk h
     have cb4 : (rd L i == 2) = false:=by simpa using b3
     clear h b1 b2 b3
     go_wp2_with (first|(go_at_call 20;(with_reducible refine (ne' HS.o i _ HIN.o HB1.o).mono ?_);rintro e_ w2 ⟨rfl,h2⟩;replace h2:=h2.symm;subst h2))
     go_roundg k1
     case measure=>omega
     case rel=>exact ⟨i + 1,Ea',⟨fa',fa'⟩,HT,rfl⟩
    rw [if_neg (by rintro ⟨-,h,-⟩;exact b2 h)] at h
    have cb2 : ((wd' s.nd i).f3 == 0) = false:=by simpa using b2
    have HT:=qz.mk h
    clear h b1 b2
    go_wp2_with (first|(go_at_call 20;(with_reducible refine (ne' HS.o i _ HIN.o HB1.o).mono ?_);rintro e_ w2 ⟨rfl,h2⟩;replace h2:=h2.symm;subst h2))
    go_roundg k1
    case measure=>omega
    case rel=>exact ⟨i + 1,Ea',⟨fa',fa'⟩,HT,rfl⟩
 have cl0 : decide (i < (s.nd.length : Int)) = false:=decide_eq_false c
 have h2 : r = -1:=by
  cases gk with
  | zero=>rw [Zd'] at h;exact h.symm
  | succ k1=>rw [Zd',Hd',if_neg c] at h;exact h.symm
 subst h2
 clear c h0 h
 go_wp2_with fail
 go_ret
 exact ⟨rfl,rfl⟩
def wayS (nd : List S89) (ah : List S56) (rt : List Int) : Nat → Int → Option (List Int)
 | 0,_=>none
 | k + 1,n=>if inR n rt.length then if rd rt n = n then some [n] else if inR n ah.length ∧ inR (xd' ah n).f0 nd.length then (wayS nd ah rt k (topI nd (xd' ah n).f0)).map (n :: ·) else none else none
theorem Ql' {nd : List S89} {ah : List S56} {rt : List Int} {k : Nat} {n : Int} {l : List Int} (h : wayS nd ah rt k n = some l) : ∃ l',l = n :: l':=by
 obtain _|k:=k
 ·cases h
 rw [wayS] at h
 split at h
 ·split at h
  ·exact ⟨[],(Option.some.inj h).symm⟩
  split at h
  ·obtain ⟨l',_,e⟩:=Option.map_eq_some_iff.mp h
   exact ⟨l',e.symm⟩
  cases h
 cases h
theorem Oh' {α : Type} (d : Kd α) {W : World} {base z : Nat} {e : TypeId} {ok : Nat → Prop} (hb : base ≤ z) (h : W.heap[z]? = some (.cells #[] e (0,0))) (hk : ok z) : d.R e W base ok (.slice (some ⟨z,0,none⟩) 0 0) []:=by
 refine ⟨fun k e=>?_,[],⟨ia',.inr ⟨z,0,_,rfl,hb,h,Nat.le_refl _,ba',ia',ia'⟩⟩,ia',ia'⟩
 have : z = k:=by simpa [Value.ownBlock] using e
 subst this
 exact hk
theorem jh' {α : Type} {d : Kd α} {e : TypeId} {W W1 : World} {base : Nat} {v : Value} {l : List α} {col : Nat → Nat} (ho : d.R e W1 W.heap.size (fun _=>True) v l) (hb : base ≤ W.heap.size) (c : Nat) : d.R e W1 base (fun k=>(if W.heap.size ≤ k then c else col k) = c) v l :=
 Kd.R_lower (Kd.R_mono (Kd.R_bound ho) nc') hb
theorem Zg' {w0 W : World} {Z : Nat → Prop} {wz : World} {g : Nat} {N : Int} {Ae : Option Addr} {ce : Nat} {es : List (S73)} {col : Nat → Nat} {vy vn vm : Value} {s : RI} (hS : Rn w0 W Z wz g N Ae ce es col vy vn vm s) {gt : Nat} {vl va vr : Value} {t : TI} (hT : Tp W w0.heap.size gt col vl va vr t) (hw : WFn (cvs s.nd)) (k : Nat) (hk : k ≤ 1000000) (n : Int) (l : List Int) (h : wayS (cvs s.nd) t.ah t.rt k n = some l) :
  Calls Tryz.prog 79 #[.pointer (some ⟨g,0,none⟩),.pointer (some ⟨gt,0,none⟩),.int .i64 n] W fun e w'=>∃ v,e = .returned v ∧ Kd.R (Kd.int .i64) 3 w' W.heap.size (fun _=>True) v l ∧ Below W.heap.size W w':=by
 have hu51:=Tryz.underlying51
 have hu77:=Tryz.underlying77
 have hu56:=Tryz.underlying56
 have hu73:=Tryz.underlying73
 have hu35:=Tryz.underlying35
 have HS:=qz.mk hS
 clear hS
 have hu27:=Tryz.underlying27
 have hu102:=Tryz.underlying102
 have HTP:=qz.mk hT
 have HW:=qz.mk hw
 have HT:=qz.mk h
 have HK:=qz.mk hk
 clear h hk hw hT
 obtain ⟨Aa,ca,e_⟩:=Kd.R_slice HTP.o.ra
 subst e_
 obtain ⟨Ar,cr,e_⟩:=Kd.R_slice HTP.o.rr
 subst e_
 go_enter Tryz.func79,Tryz.ntmps79
 go_upto_region 2 with fail
 have BX1 : qz ((W.alloc (.cells #[.int .i64 n] 3)).heap[W.heap.size]? = some (.cells #[.int .i64 n] 3 (0,0))):=⟨yd' W _⟩
 have HB1 : qz (Below W.heap.size W (W.alloc (.cells #[.int .i64 n] 3))):=⟨qo (Below.refl _ _) _⟩
 generalize W.alloc (.cells #[.int .i64 n] 3) = W1 at *
 have HR0 : qz (Kd.R (Kd.int .i64) 3 W1 W.heap.size (fun _=>True) (.slice (some ⟨W.heap.size,0,none⟩) 1 1) [n]):=⟨one_R (Nat.le_refl _) BX1.o trivial⟩
 obtain ⟨l',hl'⟩:=Ql' HT.o
 go_wp2_with fail
 go_loopg [2,7] k (fun kq v2 v7 w'=>∃ (n : Int) (acc rest : List Int),v2 = .int .i64 n ∧ qz (Kd.R (Kd.int .i64) 3 w' W.heap.size (fun _=>True) v7 acc) ∧ qz (wayS (cvs s.nd) t.ah t.rt kq n = some (n :: rest)) ∧ qz (acc ++ rest = l ∧ acc.length + kq = k + 1) ∧ qz (Below W.heap.size W w'))
 case atStart=>exact ⟨n,[n],l',rfl,HR0,⟨by rw [HT.o,hl']⟩,⟨by rw [hl'];rfl,Ga'⟩,HB1⟩
 clear HT HR0 HB1 BX1
 obtain ⟨n,acc,rest,rfl,HO,HT,HL,HB⟩:=hrel
 have HS1:=qz.mk (HS.o.to HB.o)
 have HTP1:=qz.mk (HTP.o.to HB.o)
 have hct:=HTP1.o.cells
 have h:=HT.o
 clear HT
 obtain _|k1:=gk
 ·cases h
 rw [wayS] at h
 by_cases c : inR n t.rt.length
 ·rw [if_pos c] at h
  obtain ⟨p,q⟩:=c
  obtain ⟨adr,e_,hxr⟩:=Kd.at_int (Kd.R_reads' HTP1.o.rr).2.2 n p q
  subst e_
  replace p:=eq_true p
  replace q:=eq_true q
  by_cases cn : rd t.rt n = n
  ·rw [if_pos cn] at h
   have hr : rest = []:=by injection h with h;injection h with _ h;exact h.symm
   have cb : (rd t.rt n != n) = false:=by simpa using cn
   have hl:=HL.o.1
   rw [hr,List.append_nil] at hl
   subst hl
   clear cn h
   go_wp2_with fail
   go_ret
   exact ⟨_,rfl,HO.o,HB.o⟩
  rw [if_neg cn] at h
  have cb : (rd t.rt n != n) = true:=by simpa using cn
  clear cn
  by_cases c2 : inR n t.ah.length ∧ inR (xd' t.ah n).f0 (cvs s.nd).length
  ·rw [if_pos c2] at h
   obtain ⟨l1,h1,h2⟩:=Option.map_eq_some_iff.mp h
   obtain rfl : l1 = rest:=by injection h2
   obtain ⟨⟨p2,q2⟩,hin⟩:=c2
   have HIN : qz (inR (xd' t.ah n).f0 s.nd.length):=⟨by rw [← Hd'];exact hin⟩
   obtain ⟨ada,e_,hxa,-⟩:=Cf' (Kd.R_reads' HTP1.o.ra).2.2 n p2 q2
   subst e_
   replace p2:=eq_true p2
   replace q2:=eq_true q2
   obtain ⟨l2,hl2⟩:=Ql' h1
   obtain ⟨m,hm⟩ : ∃ m,topI (cvs s.nd) (xd' t.ah n).f0 = m:=⟨_,rfl⟩
   have HTQ:=qz.mk (ae' HS1.o (xd' t.ah n).f0 HW.o HIN.o)
   rw [hm] at h1 hl2 HTQ
   have HT:=qz.mk h1
   have HL2:=qz.mk hl2
   clear h h1 h2 hin hl2 hm
   go_wp2_with (first|(go_at_call 59;refine HTQ.o.mono ?_;rintro e_ w2 ⟨rfl,h2⟩;replace h2:=h2.symm;subst h2)|((with_reducible refine Ld' (b:=.append) (xs:=#[.tmp 29,.tmp 31]) rfl ?_);at_builtin;refine Kd.R_append (Kd.int .i64) (w0:=W) W.heap.size rfl (.tmp 29) (.tmp 31) 27 3 (.int .i64 0) 8 rfl Tryz.underlying27 Ud' rfl ba' aa' u7 acc m [.int .i64 m] (fun _=>True) (fun _=>False) rfl rfl ?aP (fun _ hk=>hk.elim) ?aF ?aO ?aB ?aS ?aL ?_;(case aP=>exact rfl);(case aF=>exact (fun _ _=>trivial));(case aO=>exact Nb');(case aB=>exact ab');(case aS=>exact qv ab');(case aL=>have:=HL.o.2;have:=HK.o;omega);intro v7 w7 ho hb hg hat;clear HO HB;have HO:=qz.mk ho;have HB:=qz.mk hb;clear ho hb hg hat))
   go_roundg k1
   case measure=>omega
   case rel=>exact ⟨m,_,l2,rfl,HO,⟨by rw [HT.o,HL2.o]⟩,⟨by have:=HL.o.1;rw [HL2.o] at this;rw [List.append_assoc];exact this,Hc'⟩,HB⟩
  rw [if_neg c2] at h
  cases h
 rw [if_neg c] at h
 cases h
theorem Ff' : (Tryz.prog.info? 56).map (fun i=>(i.zero,i.size,i.bytes)) = some (some (.agg #[.int .i64 0,.int .i64 0]),2,16):=by kernel_rfl
theorem mp' : (Tryz.prog.info? 77).map (fun i=>(i.zero,i.size,i.bytes)) = some (some (.agg #[.slice none 0 0,.slice none 0 0,.int .i64 0,.int .i64 0,.int .i64 0,.bool false]),6,80):=by kernel_rfl
def Of' (nd : List S89) (t : Int) : List S56 → List S56
 | []=>[]
 | x :: l=>if topI nd x.f0 ≠ t ∧ topI nd x.f1 ≠ t then x :: Of' nd t l else Of' nd t l
theorem ii' {w0 W : World} {Z : Nat → Prop} {wz : World} {g : Nat} {N : Int} {Ae : Option Addr} {ce : Nat} {es : List (S73)} {col : Nat → Nat} {vy vn vm : Value} {s : RI} (hS : Rn w0 W Z wz g N Ae ce es col vy vn vm s) (hw : WFn (cvs s.nd)) (t : Int) (hm : ∀ x ∈ s.mt,inR x.f0 s.nd.length ∧ inR x.f1 s.nd.length) (hsz : s.mt.length ≤ 1000000) :
  Calls Tryz.prog 82 #[.pointer (some ⟨g,0,none⟩),.int .i64 t] W fun e w'=>e = .returned (.tuple #[]) ∧ ∃ col' vm',Rn w0 w' Z wz g N Ae ce es col' vy vn vm' { s with mt:=Of' (cvs s.nd) t s.mt } ∧ ∀ k,k < W.heap.size → col' k = col k:=by
 have hu51:=Tryz.underlying51
 have hu77:=Tryz.underlying77
 have hu56:=Tryz.underlying56
 have hu73:=Tryz.underlying73
 have hu35:=Tryz.underlying35
 have HS:=qz.mk hS
 clear hS
 have hu49:=Tryz.underlying49
 have HW:=qz.mk hw
 have HM:=qz.mk hm
 have HSZ:=qz.mk hsz
 clear hw hm hsz
 obtain ⟨Am,cm,e_⟩:=Kd.R_slice HS.o.rm
 subst e_
 go_enter Tryz.func82,Tryz.ntmps82
 go_upto_region 1 with fail
 have BX1 : qz ((W.alloc (.cells #[] 56)).heap[W.heap.size]? = some (.cells #[] 56 (0,0))):=⟨yd' W _⟩
 have HB1 : qz (Below W.heap.size W (W.alloc (.cells #[] 56))):=⟨qo (Below.refl _ _) _⟩
 generalize W.alloc (.cells #[] 56) = W1 at *
 have HR0 : qz (Kd.R k56 56 W1 W.heap.size (fun _=>True) (.slice (some ⟨W.heap.size,0,none⟩) 0 0) []):=⟨Oh' k56 (Nat.le_refl _) BX1.o trivial⟩
 clear BX1
 have hc:=(HS.o.to HB1.o).cells
 go_wp2_with fail
 go_loopg [4,5] (s.mt.length + 1) (fun kq v4 v5 w'=>∃ (i : Int) (acc : List S56),v5 = .int .i64 i ∧ qz (Kd.R k56 56 w' W.heap.size (fun _=>True) v4 acc) ∧ qz (0 ≤ i ∧ i + kq = s.mt.length + 1 ∧ i ≤ s.mt.length) ∧ qz (acc ++ Of' (cvs s.nd) t (s.mt.drop i.toNat) = Of' (cvs s.nd) t s.mt ∧ (acc.length : Int) ≤ i) ∧ qz (Below W.heap.size W w'))
 case atStart=>exact ⟨0,[],rfl,HR0,⟨aa',aa',aa'⟩,⟨rfl,ia'⟩,HB1⟩
 clear HR0 HB1 hc
 obtain ⟨i,acc,rfl,HO,HI,HL,HB2⟩:=hrel
 have HS3:=qz.mk (HS.o.to HB2.o)
 have hc:=HS3.o.cells
 have h:=HL.o.1
 cases gk with
 | zero =>
  exfalso
  have h1:=HI.o
  omega
 | succ k1 =>
  by_cases c : i < (s.mt.length : Int)
  ·have hi:=HI.o
   rw [uj' _ _ hi.1 c,Of'] at h
   have cl0 : decide (i < (s.mt.length : Int)) = true:=decide_eq_true c
   have HIL:=qz.mk c
   have hi1 : wrap64 (i + 1) = i + 1:=w64 aa' jb'
   obtain ⟨ad,e_,hx0,hx1⟩:=Cf' (Kd.R_reads' HS3.o.rm).2.2 i hi.1 c
   subst e_
   obtain ⟨m0,m1⟩:=HM.o _ (kk' s.mt i hi.1 c)
   have HX:=qz.mk (And.intro m0 m1)
   obtain ⟨x,hx⟩ : ∃ x,xd' s.mt i = x:=⟨_,rfl⟩
   rw [hx] at h hx0 hx1 HX
   have pi:=eq_true hi.1
   have qi:=eq_true c
   clear c hi m0 m1 hx
   by_cases c1 : topI (cvs s.nd) x.f0 = t
   ·rw [if_neg (by rintro ⟨h,-⟩;exact h c1)] at h
    have cb1 : (topI (cvs s.nd) x.f0 != t) = false:=by simpa using c1
    have HL2:=qz.mk h
    clear c1 h
    go_wp2_with (first|(go_at_call 59;(with_reducible refine (ae' HS3.o x.f0 HW.o HX.o.1).mono ?_);rintro e_ w2 ⟨rfl,h2⟩;replace h2:=h2.symm;subst h2)|(go_at_call 59;(with_reducible refine (ae' HS3.o x.f1 HW.o HX.o.2).mono ?_);rintro e_ w2 ⟨rfl,h2⟩;replace h2:=h2.symm;subst h2))
    go_roundg k1
    case measure=>omega
    case rel=>exact ⟨i + 1,acc,Ea',HO,⟨fa',fa',ga'⟩,⟨HL2.o,by have:=HL.o.2;omega⟩,HB2⟩
   have cb1 : (topI (cvs s.nd) x.f0 != t) = true:=by simpa using c1
   by_cases c2 : topI (cvs s.nd) x.f1 = t
   ·rw [if_neg (by rintro ⟨-,h⟩;exact h c2)] at h
    have cb2 : (topI (cvs s.nd) x.f1 != t) = false:=by simpa using c2
    have HL2:=qz.mk h
    clear c1 c2 h
    go_wp2_with (first|(go_at_call 59;(with_reducible refine (ae' HS3.o x.f0 HW.o HX.o.1).mono ?_);rintro e_ w2 ⟨rfl,h2⟩;replace h2:=h2.symm;subst h2)|(go_at_call 59;(with_reducible refine (ae' HS3.o x.f1 HW.o HX.o.2).mono ?_);rintro e_ w2 ⟨rfl,h2⟩;replace h2:=h2.symm;subst h2))
    go_roundg k1
    case measure=>omega
    case rel=>exact ⟨i + 1,acc,Ea',HO,⟨fa',fa',ga'⟩,⟨HL2.o,by have:=HL.o.2;omega⟩,HB2⟩
   rw [if_pos ⟨c1,c2⟩] at h
   have cb2 : (topI (cvs s.nd) x.f1 != t) = true:=by simpa using c2
   have HL2:=qz.mk h
   clear c1 c2 h
   go_wp2_with (first|(go_at_call 59;(with_reducible refine (ae' HS3.o x.f0 HW.o HX.o.1).mono ?_);rintro e_ w2 ⟨rfl,h2⟩;replace h2:=h2.symm;subst h2)|(go_at_call 59;(with_reducible refine (ae' HS3.o x.f1 HW.o HX.o.2).mono ?_);rintro e_ w2 ⟨rfl,h2⟩;replace h2:=h2.symm;subst h2)|((with_reducible refine Ld' (b:=.append) (xs:=#[.tmp 42,.tmp 50]) rfl ?_);at_builtin;refine Kd.R_append k56 (w0:=W) W.heap.size rfl (.tmp 42) (.tmp 50) 49 56 (.agg #[.int .i64 0,.int .i64 0]) 16 rfl Tryz.underlying49 Ff' rfl ba' aa' u4 acc x [.int .i64 x.f0,.int .i64 x.f1] (fun _=>True) (fun _=>False) rfl rfl (cf' _ _ _ x) (fun _ hk=>hk.elim) (fun _ _=>trivial) ?aO ?aB ?aS ?aL ?_;(case aO=>exact Nb');(case aB=>exact Pc');(case aS=>exact qv Pc');(case aL=>have:=HL.o.2;have:=HIL.o;have:=HSZ.o;omega);intro v7 w7 ho hb hg hat;clear HO HB2;have HO:=qz.mk ho;have HB2:=qz.mk hb;clear ho hb hg hat))
   go_roundg k1
   case measure=>omega
   case rel=>exact ⟨i + 1,acc ++ [x],Ea',HO,⟨fa',fa',ga'⟩,⟨qc',rc'⟩,HB2⟩
  have hi:=HI.o
  rw [List.drop_eq_nil_of_le aa',Of',List.append_nil] at h
  have cl0 : decide (i < (s.mt.length : Int)) = false:=decide_eq_false c
  have hcol : ∀ k,k < W.heap.size → (if W.heap.size ≤ k then 3 else col k) = col k:=fun k hk=>by rw [if_neg aa']
  have HS4:=qz.mk ((HS.o.recol hcol).to HB2.o)
  have HF:=qz.mk (HS4.o.fm (jh' (col:=col) HO.o HS.o.hb.size 3))
  have hf4:=HS3.o.frz.2.2.1
  obtain ⟨A4,c4,e_⟩:=Kd.R_slice HO.o
  subst e_
  clear c hi
  go_wp2_with fail
  go_end0
  rw [h] at HF
  exact ⟨rfl,_,_,HF.o,hcol⟩
end Go.Proofs.YtnffimpoekjkpaaGreat.QFnExactSolve
