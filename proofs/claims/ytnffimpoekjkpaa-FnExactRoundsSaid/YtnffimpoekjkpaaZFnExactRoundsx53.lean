/- The reference's solver: l10Mate, l10Base, l10First. -/
import Derived.Test.YtnffimpoekjkpaaZFnExactRoundsx52
namespace Go.Proofs.Ytnffimpoekjkpaa.QFnExactRounds
open Go.RowKit Go.Proofs.YtnffimpoekjkpaaW.PrintWords Go.Proofs.YtnffimpoekjkpaaW.PrintLast Go.Proofs.YtnffimpoekjkpaaW.PrintMore
attribute [local go_sem] max2_int min2_int max_two min_two max_three min_three max_four min_four
set_option linter.unusedVariables false
set_option linter.unusedSimpArgs false
/-- The first mate link that touches a top, from within it. -/
def mateL (nd : List S60) (t : Int) : List S77 → S77 × Bool
 | []=>(⟨0,0⟩,false)
 | x :: l=>if topI nd x.f0 = t then (x,true) else if topI nd x.f1 = t then (⟨x.f1,x.f0⟩,true) else mateL nd t l
theorem drop_rd77 (l : List S77) (i : Int) (h0 : 0 ≤ i) (h1 : i < (l.length : Int)) : l.drop i.toNat = rd_T77 l i :: l.drop (i + 1).toNat:=by
 have h : i.toNat < l.length:=by omega
 rw [List.drop_eq_getElem_cons h,show (i + 1).toNat = i.toNat + 1 from by omega]
 congr 1
 simp [rd_T77,h]
theorem rd77_mem (l : List S77) (i : Int) (h0 : 0 ≤ i) (h1 : i < (l.length : Int)) : rd_T77 l i ∈ l:=by
 have h : i.toNat < l.length:=by omega
 have : rd_T77 l i = l[i.toNat]:=by simp [rd_T77,h]
 rw [this]
 exact List.getElem_mem h
theorem put2 {W : World} {gb : Nat} {a0 a1 b0 b1 : Value} (h : W.heap[gb]? = some (.cells #[a0,a1] 77 (0,0))) : ((W.setCell ⟨gb,0,none⟩ b0).setCell ⟨gb,1,none⟩ b1).heap[gb]? = some (.cells #[b0,b1] 77 (0,0)):=by
 simpa using blk_set (blk_set h 0 b0) 1 b1
theorem below_put2 {W W1 : World} {gb : Nat} {b0 b1 : Value} (h : Below W.heap.size W W1) (hg : W.heap.size ≤ gb) : Below W.heap.size W ((W1.setCell ⟨gb,0,none⟩ b0).setCell ⟨gb,1,none⟩ b1):=qp (qp h hg) hg
set_option maxHeartbeats 8000000 in
set_option maxRecDepth 100000 in
theorem l10Mate_calls {w0 W : World} {Z : Nat → Prop} {wz : World} {g : Nat} {N : Int} {Ae : Option Addr} {ce : Nat} {es : List (S51)} {col : Nat → Nat} {vy vn vm : Value} {s : RI} (hS : Rn w0 W Z wz g N Ae ce es col vy vn vm s) (t : Int) (r : S77) (b : Bool) (hw : WFn (cvs s.nd)) (hm : ∀ x ∈ s.mt,inR x.f0 s.nd.length ∧ inR x.f1 s.nd.length) (hsz : s.mt.length ≤ 1000000) (h : mateL (cvs s.nd) t s.mt = (r,b)) :
  Calls Try.prog 39 #[.pointer (some ⟨g,0,none⟩),.int .i64 t] W fun e w'=>e = .returned (.tuple #[.agg #[.int .i64 r.f0,.int .i64 r.f1],.bool b]) ∧ Below W.heap.size W w':=by
 have hu39:=Try.underlying39
 have hu55:=Try.underlying55
 have hu77:=Try.underlying77
 have hu51:=Try.underlying51
 have hu29:=Try.underlying29
 have HS:=qy.mk hS
 clear hS
 have HW:=qy.mk hw
 have HM:=qy.mk hm
 have HSZ:=qy.mk hsz
 have HT:=qy.mk h
 clear hw hm hsz h
 obtain ⟨Am,cm,e_⟩:=Kd.R_slice HS.out.rm
 subst e_
 go_enter Try.func39,Try.ntmps39
 go_upto_region 1 with fail
 have BX1 : qy ((W.alloc (.cells #[.int .i64 0,.int .i64 0] 77)).heap[W.heap.size]? = some (.cells #[.int .i64 0,.int .i64 0] 77 (0,0))):=⟨blk_new W _⟩
 have HB1 : qy (Below W.heap.size W (W.alloc (.cells #[.int .i64 0,.int .i64 0] 77))):=⟨qo (Below.refl _ _) _⟩
 generalize W.alloc (.cells #[.int .i64 0,.int .i64 0] 77) = W1 at *
 generalize hgb : W.heap.size = gb at BX1 ⊢
 have hc:=(HS.out.to HB1.out).cells
 go_wp2_with fail
 go_loopg [6] (s.mt.length + 1) (fun kq v6 w'=>∃ i : Int,v6 = .int .i64 i ∧ qy (0 ≤ i ∧ i + kq = s.mt.length + 1 ∧ i ≤ s.mt.length) ∧ qy (mateL (cvs s.nd) t (s.mt.drop i.toNat) = (r,b)) ∧ qy (Below W1.heap.size W1 w'))
 case atStart=>exact ⟨0,rfl,⟨by omega,by omega,by omega⟩,HT,⟨Below.refl _ _⟩⟩
 clear HT hc
 obtain ⟨i,rfl,HI,HT,HB⟩:=hrel
 have h:=HT.out
 clear HT
 have HS2:=qy.mk (HS.out.to (qx HB1.out HB.out))
 have hc:=HS2.out.cells
 have BX2:=qy.mk (qw BX1.out HB.out)
 cases gk with
 | zero =>
  exfalso
  have h1:=HI.out
  omega
 | succ k1 =>
  by_cases c : i < (s.mt.length : Int)
  ·have hi:=HI.out
   rw [drop_rd77 _ _ hi.1 c,mateL] at h
   have cl0 : decide (i < (s.mt.length : Int)) = true:=decide_eq_true c
   have HIL:=qy.mk c
   obtain ⟨ad,e_,hx0,hx1⟩:=at_T77 (Kd.R_reads' HS2.out.rm).2.2 i hi.1 c
   subst e_
   obtain ⟨m0,m1⟩:=HM.out _ (rd77_mem s.mt i hi.1 c)
   have HX:=qy.mk (And.intro m0 m1)
   obtain ⟨x,hx⟩ : ∃ x,rd_T77 s.mt i = x:=⟨_,rfl⟩
   rw [hx] at h hx0 hx1 HX
   have pi:=eq_true hi.1
   have qi:=eq_true c
   clear c hi m0 m1 hx
   go_upto_region 5 with fail
   have BXX : qy ((wr.alloc (.cells #[.int .i64 x.f0,.int .i64 x.f1] 77)).heap[wr.heap.size]? = some (.cells #[.int .i64 x.f0,.int .i64 x.f1] 77 (0,0))):=⟨blk_new wr _⟩
   have HBX : qy (Below wr.heap.size wr (wr.alloc (.cells #[.int .i64 x.f0,.int .i64 x.f1] 77))):=⟨qo (Below.refl _ _) _⟩
   generalize wr.alloc (.cells #[.int .i64 x.f0,.int .i64 x.f1] 77) = W2 at *
   generalize hgx : wr.heap.size = gx at BXX ⊢
   have HS3:=qy.mk (HS2.out.to HBX.out)
   have hb0 : W2.cell? ⟨gx,0,none⟩ = some (.int .i64 x.f0):=(qq BXX.out 0).trans rfl
   have hb1 : W2.cell? ⟨gx,1,none⟩ = some (.int .i64 x.f1):=(qq BXX.out 1).trans rfl
   have BX3:=qy.mk (qw BX2.out HBX.out)
   have hk0 : W2.cell? ⟨gb,0,none⟩ = some (.int .i64 0):=(qq BX3.out 0).trans rfl
   have hk1 : W2.cell? ⟨gb,1,none⟩ = some (.int .i64 0):=(qq BX3.out 1).trans rfl
   have hf0:=qs BX3.out 0
   have hf1:=qs BX3.out 1
   have hgxb : (gx == gb) = false:=by have:=blk_lt BX2.out;simp;omega
   have hgbx : (gb == gx) = false:=by have:=blk_lt BX2.out;simp;omega
   by_cases c1 : topI (cvs s.nd) x.f0 = t
   ·rw [if_pos c1] at h
    obtain ⟨rfl,rfl⟩:=Prod.mk.inj h
    have cb1 : (topI (cvs s.nd) x.f0 == t) = true:=by simpa using c1
    clear c1 h
    go_wp2_with (first|(go_at_call 28;(with_reducible refine (l10Top_is HS3.out x.f0 HW.out HX.out.1).mono ?_);rintro e_ w2 ⟨rfl,h2⟩;replace h2:=h2.symm;subst h2)|(go_at_call 28;(with_reducible refine (l10Top_is HS3.out x.f1 HW.out HX.out.2).mono ?_);rintro e_ w2 ⟨rfl,h2⟩;replace h2:=h2.symm;subst h2))
    refine bodyPost_ret (results_ct rfl _ _ gb 77 #[.int .i64 (x.f0),.int .i64 (x.f1)] (0,0) _ rfl (put2 BX3.out) Try.underlying77 rfl (by kernel_rfl)) rfl ?_
    subst hgb
    exact ⟨rfl,below_put2 (qx HB1.out (qx HB.out HBX.out)) (by omega)⟩
   rw [if_neg c1] at h
   have cb1 : (topI (cvs s.nd) x.f0 == t) = false:=by simpa using c1
   clear c1
   by_cases c2 : topI (cvs s.nd) x.f1 = t
   ·rw [if_pos c2] at h
    obtain ⟨rfl,rfl⟩:=Prod.mk.inj h
    have cb2 : (topI (cvs s.nd) x.f1 == t) = true:=by simpa using c2
    clear c2 h
    go_wp2_with (first|(go_at_call 28;(with_reducible refine (l10Top_is HS3.out x.f0 HW.out HX.out.1).mono ?_);rintro e_ w2 ⟨rfl,h2⟩;replace h2:=h2.symm;subst h2)|(go_at_call 28;(with_reducible refine (l10Top_is HS3.out x.f1 HW.out HX.out.2).mono ?_);rintro e_ w2 ⟨rfl,h2⟩;replace h2:=h2.symm;subst h2))
    refine bodyPost_ret (results_ct rfl _ _ gb 77 #[.int .i64 (x.f1),.int .i64 (x.f0)] (0,0) _ rfl (put2 BX3.out) Try.underlying77 rfl (by kernel_rfl)) rfl ?_
    subst hgb
    exact ⟨rfl,below_put2 (qx HB1.out (qx HB.out HBX.out)) (by omega)⟩
   rw [if_neg c2] at h
   have cb2 : (topI (cvs s.nd) x.f1 == t) = false:=by simpa using c2
   have HT:=qy.mk h
   clear c2 h
   go_wp2_with (first|(go_at_call 28;(with_reducible refine (l10Top_is HS3.out x.f0 HW.out HX.out.1).mono ?_);rintro e_ w2 ⟨rfl,h2⟩;replace h2:=h2.symm;subst h2)|(go_at_call 28;(with_reducible refine (l10Top_is HS3.out x.f1 HW.out HX.out.2).mono ?_);rintro e_ w2 ⟨rfl,h2⟩;replace h2:=h2.symm;subst h2))
   go_roundg k1
   case measure=>omega
   case rel=>exact ⟨i + 1,by rw [w64 (by have:=HI.out;omega) (by have:=HIL.out;have:=HSZ.out;omega)],⟨by have:=HI.out;omega,by have:=HI.out;omega,by have:=HIL.out;omega⟩,HT,⟨qx HB.out HBX.out⟩⟩
  have hi:=HI.out
  rw [List.drop_eq_nil_of_le (by omega),mateL] at h
  obtain ⟨rfl,rfl⟩:=Prod.mk.inj h
  have cl0 : decide (i < (s.mt.length : Int)) = false:=decide_eq_false c
  have hk0 : wr.cell? ⟨gb,0,none⟩ = some (.int .i64 0):=(qq BX2.out 0).trans rfl
  have hk1 : wr.cell? ⟨gb,1,none⟩ = some (.int .i64 0):=(qq BX2.out 1).trans rfl
  have hf0:=qs BX2.out 0
  have hf1:=qs BX2.out 1
  clear c hi h
  go_wp2_with fail
  refine bodyPost_ret (results_ct rfl _ _ gb 77 #[.int .i64 (0),.int .i64 (0)] (0,0) _ rfl (put2 BX2.out) Try.underlying77 rfl (by kernel_rfl)) rfl ?_
  subst hgb
  exact ⟨rfl,below_put2 (qx HB1.out HB.out) (by omega)⟩
def baseS (nd : List S55) (mt : List S77) (t : Int) : Int:=if (mateL (cvs nd) t mt).2 = true then (mateL (cvs nd) t mt).1.f0 else (rd_T55 nd t).f2
set_option maxHeartbeats 8000000 in
set_option maxRecDepth 100000 in
theorem l10Base_calls {w0 W : World} {Z : Nat → Prop} {wz : World} {g : Nat} {N : Int} {Ae : Option Addr} {ce : Nat} {es : List (S51)} {col : Nat → Nat} {vy vn vm : Value} {s : RI} (hS : Rn w0 W Z wz g N Ae ce es col vy vn vm s) (t : Int) (hw : WFn (cvs s.nd)) (hm : ∀ x ∈ s.mt,inR x.f0 s.nd.length ∧ inR x.f1 s.nd.length) (hsz : s.mt.length ≤ 1000000) (ht : inR t s.nd.length) :
  Calls Try.prog 48 #[.pointer (some ⟨g,0,none⟩),.int .i64 t] W fun e w'=>e = .returned (.int .i64 (baseS s.nd s.mt t)) ∧ Below W.heap.size W w':=by
 have hu39:=Try.underlying39
 have hu55:=Try.underlying55
 have hu77:=Try.underlying77
 have hu51:=Try.underlying51
 have hu29:=Try.underlying29
 have HS:=qy.mk hS
 clear hS
 obtain ⟨r,b,hr⟩ : ∃ r b,mateL (cvs s.nd) t s.mt = (r,b):=⟨_,_,rfl⟩
 rw [baseS,hr]
 dsimp only
 obtain ⟨An,cn,e_⟩:=Kd.R_slice HS.out.rn
 subst e_
 have HMW:=qy.mk (fun (b' : Bool) (e : b = b')=>l10Mate_calls HS.out t r b' hw hm hsz (e ▸ hr))
 clear hw hm hsz hr
 obtain ⟨p,q⟩:=ht
 cases b with
 | true =>
  rw [if_pos rfl]
  go_enter Try.func48,Try.ntmps48
  go_upto_region 2 with (first|(go_at_call 39;refine (HMW.out true rfl).mono ?_;rintro e_ w2 ⟨rfl,hb⟩;have HB2:=qy.mk hb;clear hb))
  have BXX : qy ((w2.alloc (.cells #[.int .i64 r.f0,.int .i64 r.f1] 77)).heap[w2.heap.size]? = some (.cells #[.int .i64 r.f0,.int .i64 r.f1] 77 (0,0))):=⟨blk_new w2 _⟩
  have HBX : qy (Below w2.heap.size w2 (w2.alloc (.cells #[.int .i64 r.f0,.int .i64 r.f1] 77))):=⟨qo (Below.refl _ _) _⟩
  generalize w2.alloc (.cells #[.int .i64 r.f0,.int .i64 r.f1] 77) = W3 at *
  have hb0 : W3.cell? ⟨w2.heap.size,0,none⟩ = some (.int .i64 r.f0):=(qq BXX.out 0).trans rfl
  go_wp2_with fail
  go_ret
  exact ⟨rfl,qx HB2.out HBX.out⟩
 | false =>
  rw [if_neg (by decide)]
  go_enter Try.func48,Try.ntmps48
  go_upto_region 2 with (first|(go_at_call 39;refine (HMW.out false rfl).mono ?_;rintro e_ w2 ⟨rfl,hb⟩;have HB2:=qy.mk hb;clear hb))
  have BXX : qy ((w2.alloc (.cells #[.int .i64 r.f0,.int .i64 r.f1] 77)).heap[w2.heap.size]? = some (.cells #[.int .i64 r.f0,.int .i64 r.f1] 77 (0,0))):=⟨blk_new w2 _⟩
  have HBX : qy (Below w2.heap.size w2 (w2.alloc (.cells #[.int .i64 r.f0,.int .i64 r.f1] 77))):=⟨qo (Below.refl _ _) _⟩
  generalize w2.alloc (.cells #[.int .i64 r.f0,.int .i64 r.f1] 77) = W3 at *
  have HS3:=qy.mk (HS.out.to (qx HB2.out HBX.out))
  have hc:=HS3.out.cells
  obtain ⟨ad,A0,c0,A1,c1,eA,hx0,hx1,hx2,hx3,hx4,hx5,-⟩:=at_T55 (Kd.R_reads' HS3.out.rn).2.2 t p q
  subst eA
  have p':=eq_true p
  have q':=eq_true q
  go_wp2_with fail
  go_ret
  exact ⟨rfl,qx HB2.out HBX.out⟩
theorem isTop5_cv {nd : List S55} (hw : WFn (cvs nd)) {i : Int} (hi : inR i nd.length) : isTopB (rd_T60 (cvs nd) i) = isTop5 (rd_T55 nd i):=by
 have h:=hw i (by rw [cvs_len];exact hi)
 rw [rd_cvs] at h ⊢
 have h0:=hi.1
 change (rd_T55 nd i).f4 = -1 ∨ i < (rd_T55 nd i).f4 ∧ _ at h
 rw [isTopB,isTop5,Bool.and_comm]
 show (!(rd_T55 nd i).f5 && decide ((rd_T55 nd i).f4 = -1)) = (!(rd_T55 nd i).f5 && decide ((rd_T55 nd i).f4 < 0))
 congr 1
 rw [decide_eq_decide]
 omega
set_option maxHeartbeats 8000000 in
set_option maxRecDepth 100000 in
theorem l10First_calls {w0 W : World} {Z : Nat → Prop} {wz : World} {g : Nat} {N : Int} {Ae : Option Addr} {ce : Nat} {es : List (S51)} {col : Nat → Nat} {vy vn vm : Value} {s : RI} (hS : Rn w0 W Z wz g N Ae ce es col vy vn vm s) (hw : WFn (cvs s.nd)) (hN : 0 ≤ N) (hsz : s.nd.length ≤ 1000000) (Al : Option Addr) (cl : Nat) (L : List Int) (hC : Kd.C (Kd.int .i64) W Al L.length L) (hcl : L.length ≤ cl) (lab r : Int) (hL : L = [] ∧ lab = 0 ∨ L ≠ [] ∧ L.length = s.nd.length ∧ lab = 2)
  (h : firstF (cvs s.nd) L lab (s.nd.length + 1) N = r) :
  Calls Try.prog 43 #[.pointer (some ⟨g,0,none⟩),.slice Al L.length cl] W fun e w'=>e = .returned (.int .i64 r) ∧ w' = W:=by
 have hu39:=Try.underlying39
 have hu55:=Try.underlying55
 have hu77:=Try.underlying77
 have hu51:=Try.underlying51
 have hu29:=Try.underlying29
 have HS:=qy.mk hS
 clear hS
 have HW:=qy.mk hw
 have HT:=qy.mk h
 have HN:=qy.mk hN
 have HSZ:=qy.mk hsz
 have HC:=qy.mk hC
 have HL:=qy.mk hL
 clear hw h hN hsz hC hL
 obtain ⟨An,cn,e_⟩:=Kd.R_slice HS.out.rn
 subst e_
 have hc:=HS.out.cells
 go_enter Try.func43,Try.ntmps43
 go_wp2_with fail
 go_loopg [5] (s.nd.length + 1) (fun kq v5 w'=>∃ i : Int,v5 = .int .i64 i ∧ qy (0 ≤ i ∧ (s.nd.length : Int) < i + kq) ∧ qy (firstF (cvs s.nd) L lab kq i = r) ∧ w' = W)
 case atStart=>exact ⟨_,rfl,⟨HN.out,by have:=HN.out;omega⟩,HT,rfl⟩
 clear HT
 obtain ⟨i,rfl,HI,HT,rfl⟩:=hrel
 have h:=HT.out
 clear HT
 have h0:=HI.out
 by_cases c : i < (s.nd.length : Int)
 ·cases gk with
  | zero =>
   exfalso
   omega
  | succ k1 =>
   rw [firstF,cvs_len,if_pos c,isTop5_cv HW.out ⟨h0.1,c⟩,rd_cvs] at h
   have cl0 : decide (i < (s.nd.length : Int)) = true:=decide_eq_true c
   have hi1 : wrap64 (i + 1) = i + 1:=w64 (by omega) (by have:=HSZ.out;omega)
   have HIN : qy (inR i s.nd.length):=⟨⟨h0.1,c⟩⟩
   have p:=h0.1
   have q:=c
   obtain ⟨ad,A0,c0,A1,c1,eA,hx0,hx1,hx2,hx3,hx4,hx5,-⟩:=at_T55 (Kd.R_reads' HS.out.rn).2.2 i p q
   subst eA
   replace p:=eq_true p
   replace q:=eq_true q
   clear c h0
   cases b1 : isTop5 (rd_T55 s.nd i) with
   | false =>
    rw [if_neg (by rintro ⟨h,-⟩;rw [b1] at h;cases h)] at h
    have HT:=qy.mk h
    have HB1:=qy.mk b1
    clear h b1
    go_wp2_with (first|(go_at_call 40;(with_reducible refine (l10IsTop_calls HS.out i _ HIN.out HB1.out).mono ?_);rintro e_ w2 ⟨rfl,h2⟩;replace h2:=h2.symm;subst h2))
    go_roundg k1
    case measure=>omega
    case rel=>exact ⟨i + 1,by rw [hi1],⟨by have:=HI.out;omega,by have:=HI.out;omega⟩,HT,rfl⟩
   | true =>
    have HB1:=qy.mk b1
    by_cases b2 : (rd_T55 s.nd i).f3 = 0
    ·have cb2 : ((rd_T55 s.nd i).f3 == 0) = true:=by simpa using b2
     rcases HL.out with ⟨hL,hlab⟩|⟨hL,hLl,hlab⟩
     ·rw [if_pos ⟨b1,b2,.inl hlab⟩] at h
      subst h
      have cb3 : ((L.length : Int) == 0) = true:=by rw [hL];decide
      clear b1 b2 hlab hL
      go_wp2_with (first|(go_at_call 40;(with_reducible refine (l10IsTop_calls HS.out i _ HIN.out HB1.out).mono ?_);rintro e_ w2 ⟨rfl,h2⟩;replace h2:=h2.symm;subst h2))
      go_ret
      exact ⟨rfl,rfl⟩
     have cb3 : ((L.length : Int) == 0) = false:=by
      have : 0 < L.length:=List.length_pos_iff.2 hL
      simp
      omega
     have qL : i < (L.length : Int):=by have:=HIN.out.2;omega
     obtain ⟨al,e_,hxl⟩:=Kd.at_int HC.out i HIN.out.1 qL
     subst e_
     replace qL:=eq_true qL
     subst hlab
     clear hLl hL
     by_cases b3 : rd L i = 2
     ·rw [if_pos ⟨b1,b2,.inr b3⟩] at h
      subst h
      have cb4 : (rd L i == 2) = true:=by simpa using b3
      clear b1 b2 b3
      go_wp2_with (first|(go_at_call 40;(with_reducible refine (l10IsTop_calls HS.out i _ HIN.out HB1.out).mono ?_);rintro e_ w2 ⟨rfl,h2⟩;replace h2:=h2.symm;subst h2))
      go_ret
      exact ⟨rfl,rfl⟩
     rw [if_neg (by rintro ⟨-,-,h|h⟩;exact absurd h (by decide);exact b3 h)] at h
     have HT:=qy.mk h
     have cb4 : (rd L i == 2) = false:=by simpa using b3
     clear h b1 b2 b3
     go_wp2_with (first|(go_at_call 40;(with_reducible refine (l10IsTop_calls HS.out i _ HIN.out HB1.out).mono ?_);rintro e_ w2 ⟨rfl,h2⟩;replace h2:=h2.symm;subst h2))
     go_roundg k1
     case measure=>omega
     case rel=>exact ⟨i + 1,by rw [hi1],⟨by have:=HI.out;omega,by have:=HI.out;omega⟩,HT,rfl⟩
    rw [if_neg (by rintro ⟨-,h,-⟩;exact b2 h)] at h
    have cb2 : ((rd_T55 s.nd i).f3 == 0) = false:=by simpa using b2
    have HT:=qy.mk h
    clear h b1 b2
    go_wp2_with (first|(go_at_call 40;(with_reducible refine (l10IsTop_calls HS.out i _ HIN.out HB1.out).mono ?_);rintro e_ w2 ⟨rfl,h2⟩;replace h2:=h2.symm;subst h2))
    go_roundg k1
    case measure=>omega
    case rel=>exact ⟨i + 1,by rw [hi1],⟨by have:=HI.out;omega,by have:=HI.out;omega⟩,HT,rfl⟩
 have cl0 : decide (i < (s.nd.length : Int)) = false:=decide_eq_false c
 have h2 : r = -1:=by
  cases gk with
  | zero=>rw [firstF] at h;exact h.symm
  | succ k1=>rw [firstF,cvs_len,if_neg c] at h;exact h.symm
 subst h2
 clear c h0 h
 go_wp2_with fail
 go_ret
 exact ⟨rfl,rfl⟩
end Go.Proofs.Ytnffimpoekjkpaa.QFnExactRounds
