/- The law FnExactRounds. -/
import Derived.Test.YtnffimpoekjkpaaZFnExactRoundsx64
import Derived.Test.YtnffimpoekjkpaaZFnExactRoundsx36
import Derived.Test.YtnffimpoekjkpaaZFnExactRoundsx7
namespace Go.Proofs.Ytnffimpoekjkpaa.QFnExactRounds
open Go.RowKit Go.Proofs.YtnffimpoekjkpaaW.PrintWords Go.Proofs.YtnffimpoekjkpaaW.PrintLast Go.Proofs.YtnffimpoekjkpaaW.PrintMore
attribute [local go_sem] max2_int min2_int max_two min_two max_three min_three max_four min_four
set_option linter.unusedVariables false
set_option linter.unusedSimpArgs false
/-- What the law asks of its argument's reading. -/
def LawR (k : Nat) (n : Int) (l : List S58) : Prop :=
 ∃ r,laws_szGraph.f n l 1048576 = some r ∧ (r < 0 ∨ (0 ≤ r ∧ ∃ (N : Int) (es : List S51),laws_toGraph.f k n l = some (N,es) ∧ laws_eqGraph.f k N es N es = some true ∧
  ∃ b,spec_GraphOk.f k N es = some b ∧ impl_GraphOk.f k N es = some b ∧ (b = true → (0 ≤ N ∧ N ≤ 1000) ∧ ∃ (ki ks : Nat) (s : SI) (t : RI),RunR N es ki (newI N es) s ∧ RunSR N es ks (newS N es) t ∧ s.rn = t.rn)))
/-- What both sides' Rounds answer. -/
theorem rounds_both {k : Nat} {N : Int} {es : List S51} {b : Bool} (h1 : spec_GraphOk.f k N es = some b) (h2 : impl_GraphOk.f k N es = some b) (h : b = true → (0 ≤ N ∧ N ≤ 1000) ∧ ∃ (ki ks : Nat) (s : SI) (t : RI),RunR N es ki (newI N es) s ∧ RunSR N es ks (newS N es) t ∧ s.rn = t.rn) :
  ∃ q : Int,(∀ (w : World) (A : Option Addr) (c : Nat),Kd.C k51 w A es.length es → es.length ≤ c → Calls Try.prog 5 #[.agg #[.int .i64 N,.slice A es.length c]] w fun e w'=>e = .returned (.int .i64 q) ∧ Below w.heap.size w w') ∧
   (∀ (w : World) (A : Option Addr) (c : Nat),Kd.C k51 w A es.length es → es.length ≤ c → Calls Try.prog 7 #[.agg #[.int .i64 N,.slice A es.length c]] w fun e w'=>e = .returned (.int .i64 q) ∧ Below w.heap.size w w'):=by
 cases b with
 | false=>exact ⟨-1,fun w A c hC hc=>spec_Rounds_no w N A c es hC hc k h1,fun w A c hC hc=>impl_Rounds_no w N A c es hC hc k h2⟩
 | true =>
  obtain ⟨hN,ki,ks,s,t,hi,hs,e⟩:=h rfl
  exact ⟨t.rn,fun w A c hC hc=>spec_Rounds_yes w N A c es hC hc k h1 hN ks t hs,fun w A c hC hc=>by rw [← e];exact impl_Rounds_yes w N A c es hC hc k h2 hN ki s hi⟩
set_option maxHeartbeats 8000000 in
set_option maxRecDepth 100000 in
theorem laws_FnExactRounds.calls (k : Nat) (a0_0 : Int) (A0_1 : Option Addr) (c0_1 : Nat) (l0_1 : List S58) (w : World) (hr0_1 : Kd.C k58 w A0_1 l0_1.length l0_1) (hc0_1 : l0_1.length ≤ c0_1) (h : LawR k a0_0 l0_1) :
  Calls Try.prog 3 #[.agg #[.int .i64 a0_0,.slice A0_1 l0_1.length c0_1]] w fun e w'=>e = .returned (.bool true) ∧ Below w.heap.size w w':=by
 have hu24:=Try.underlying24
 have hu29:=Try.underlying29
 have HC:=qy.mk hr0_1
 have HCC:=qy.mk hc0_1
 obtain ⟨r,hz,h⟩:=h
 have HZ:=qy.mk hz
 clear hr0_1 hc0_1 hz
 go_enter Try.func3,Try.ntmps3
 go_upto_region 1 with fail
 have BX1 : qy ((w.alloc (.cells #[.int .i64 a0_0,.slice A0_1 l0_1.length c0_1] 24)).heap[w.heap.size]? = some (.cells #[.int .i64 a0_0,.slice A0_1 l0_1.length c0_1] 24 (0,0))):=⟨blk_new w _⟩
 have HB1 : qy (Below w.heap.size w (w.alloc (.cells #[.int .i64 a0_0,.slice A0_1 l0_1.length c0_1] 24))):=⟨qo (Below.refl _ _) _⟩
 generalize w.alloc (.cells #[.int .i64 a0_0,.slice A0_1 l0_1.length c0_1] 24) = W1 at *
 have hb0 : W1.cell? ⟨w.heap.size,0,none⟩ = some (.int .i64 a0_0):=(qq BX1.out 0).trans rfl
 have hb1 : W1.cell? ⟨w.heap.size,1,none⟩ = some (.slice A0_1 l0_1.length c0_1):=(qq BX1.out 1).trans rfl
 go_upto_region 3 with (first|(go_at_call 4;refine (laws_szGraph.calls a0_0 A0_1 c0_1 l0_1 1048576 r W1 (Kd.C_below HC.out HB1.out) HCC.out HZ.out).mono ?_;rintro e_ w2 ⟨rfl,hb⟩;have HB2:=qy.mk (qx HB1.out hb);have BX2:=qy.mk (qw BX1.out hb);clear hb))
 clear hb0 hb1 HB1 BX1 HZ
 rcases h with hr|⟨hr,N,es,ht,he,b,h1,h2,h3⟩
 ·have cb : decide (r < 0) = true:=decide_eq_true hr
  clear hr
  go_wp2_with fail
  go_ret
  exact ⟨rfl,HB2.out⟩
 have cb : decide (r < 0) = false:=decide_eq_false (by omega)
 obtain ⟨q,hs,hi⟩:=rounds_both h1 h2 h3
 have HSC:=qy.mk hs
 have HIC:=qy.mk hi
 have HTG:=qy.mk ht
 have HEQ:=qy.mk he
 have hb0 : w2.cell? ⟨w.heap.size,0,none⟩ = some (.int .i64 a0_0):=(qq BX2.out 0).trans rfl
 have hb1 : w2.cell? ⟨w.heap.size,1,none⟩ = some (.slice A0_1 l0_1.length c0_1):=(qq BX2.out 1).trans rfl
 clear hr ht he h1 h2 h3 hs hi
 go_upto_region 6 with (first|(go_at_call 6;refine (laws_toGraph.calls k a0_0 A0_1 c0_1 l0_1 N es w2 (Kd.C_below HC.out HB2.out) HCC.out HTG.out).mono ?_;rintro e_ w3 ⟨v3,rfl,ho,hb⟩;obtain ⟨A3,c3,e_⟩:=Kd.R_slice ho;subst e_;have HO3:=qy.mk ho;have HB3:=qy.mk (qx HB2.out hb);have BX3:=qy.mk (qw BX2.out hb);clear ho hb)|(go_at_call 5;refine (HSC.out w3 A3 c3 (Kd.R_reads' HO3.out).2.2 (Kd.R_reads' HO3.out).2.1).mono ?_;rintro e_ w4 ⟨rfl,hb⟩;have HB4:=qy.mk (qx HB3.out hb);have BX4:=qy.mk (qw BX3.out hb);clear hb))
 clear hb0 hb1 HB3 BX3 HO3
 have hb0 : w4.cell? ⟨w.heap.size,0,none⟩ = some (.int .i64 a0_0):=(qq BX4.out 0).trans rfl
 have hb1 : w4.cell? ⟨w.heap.size,1,none⟩ = some (.slice A0_1 l0_1.length c0_1):=(qq BX4.out 1).trans rfl
 go_upto_region 7 with (first|(go_at_call 6;refine (laws_toGraph.calls k a0_0 A0_1 c0_1 l0_1 N es w4 (Kd.C_below HC.out HB4.out) HCC.out HTG.out).mono ?_;rintro e_ w5 ⟨v5,rfl,ho,hb⟩;obtain ⟨A5,c5,e_⟩:=Kd.R_slice ho;subst e_;have HO5:=qy.mk ho;have HB5:=qy.mk (qx HB4.out hb);have BX5:=qy.mk (qw BX4.out hb);clear ho hb))
 clear hb0 hb1
 have BXX : qy ((w5.alloc (.cells #[.int .i64 N,.slice A5 es.length c5] 29)).heap[w5.heap.size]? = some (.cells #[.int .i64 N,.slice A5 es.length c5] 29 (0,0))):=⟨blk_new w5 _⟩
 have HBX : qy (Below w5.heap.size w5 (w5.alloc (.cells #[.int .i64 N,.slice A5 es.length c5] 29))):=⟨qo (Below.refl _ _) _⟩
 generalize w5.alloc (.cells #[.int .i64 N,.slice A5 es.length c5] 29) = W6 at *
 have HO6:=qy.mk (Kd.R_below HO5.out HBX.out)
 have HB6:=qy.mk (qx HB5.out HBX.out)
 have BX6:=qy.mk (qw BX5.out HBX.out)
 generalize w5.heap.size = gx at BXX ⊢
 clear HO5 HB5 BX5 HBX
 have hx0 : W6.cell? ⟨gx,0,none⟩ = some (.int .i64 N):=(qq BXX.out 0).trans rfl
 have hx1 : W6.cell? ⟨gx,1,none⟩ = some (.slice A5 es.length c5):=(qq BXX.out 1).trans rfl
 have cbq : (q != q) = false:=by simp
 go_upto_region 10 with (first|(go_at_call 7;refine (HIC.out W6 A5 c5 (Kd.R_reads' HO6.out).2.2 (Kd.R_reads' HO6.out).2.1).mono ?_;rintro e_ w7 ⟨rfl,hb⟩;have HO7:=qy.mk (Kd.R_below HO6.out hb);have HB7:=qy.mk (qx HB6.out hb);have BX7:=qy.mk (qw BX6.out hb);have BXY:=qy.mk (qw BXX.out hb);clear hb))
 clear hx0 hx1 HO6 HB6 BX6 BXX
 refine start_ (n:=5) (S:=fun w'=>w'.cell? ⟨w.heap.size,0,none⟩ = some (.int .i64 a0_0) ∧ w'.cell? ⟨w.heap.size,1,none⟩ = some (.slice A0_1 l0_1.length c0_1) ∧ w'.cell? ⟨gx,0,none⟩ = some (.int .i64 N) ∧ w'.cell? ⟨gx,1,none⟩ = some (.slice A5 es.length c5)) (ds:=[]) (Array.replicate 5 false) (by kernel_rfl) rfl rfl ⟨(qq BX7.out 0).trans rfl,(qq BX7.out 1).trans rfl,(qq BXY.out 0).trans rfl,(qq BXY.out 1).trans rfl⟩ (fun hHeld=>?_)
 refine ta_ 0 22 (bz_ 5 1) hHeld (hy:=Or.inl ⟨by rfl,by rintro w' ⟨s0,s1,s2,s3⟩;go_simp;with_reducible rfl⟩) (h:=?_)
 refine ta_ 1 23 (bz_ 5 3) hHeld (hy:=Or.inl ⟨by rfl,by rintro w' ⟨s0,s1,s2,s3⟩;go_simp;with_reducible rfl⟩) (h:=?_)
 refine one_ (i:=2) (N:=some 24) (bz_ 5 7) rfl rfl (by kernel_rfl) (by decide) (fun K hK=>?_)
 refine goes_ Try.func6 (by kernel_rfl) rfl #[.agg #[.int .i64 a0_0,.slice A0_1 l0_1.length c0_1]] (by rfl) rfl rfl (by simp only [List.map_toArray,List.map_cons,List.map_nil];rfl) ?_
 refine (laws_toGraph.calls k a0_0 A0_1 c0_1 l0_1 N es w7.drew (Kd.C_below HC.out (qx HB7.out (qh (Below.refl _ _)))) HCC.out HTG.out).mono ?_
 rintro e_ w8 ⟨v8,rfl,ho,hb⟩
 obtain ⟨A8,c8,e_⟩:=Kd.R_slice ho
 subst e_
 have HO8:=qy.mk ho
 have HB8:=qy.mk (qx (qx HB7.out (qh (Below.refl _ _))) hb)
 have HO7b:=qy.mk (Kd.R_below HO7.out (qx (qh (Below.refl _ _)) hb))
 clear ho
 refine ⟨_,rfl,?_⟩
 refine hK.out _ _ ⟨pw_cell_below hb hHeld.1,pw_cell_below hb hHeld.2.1,pw_cell_below hb hHeld.2.2.1,pw_cell_below hb hHeld.2.2.2⟩ (fun hHeld=>?_)
 clear hK K
 refine norm_ (a':=?_) ?_ ?_
 rotate_left
 ·show Act.put _ (some 24) _ = _
  simp only [Act.put,List.setIfInBounds_toArray,List.set_cons_zero,List.set_cons_succ,i64_w,i32_w]
  rfl
 refine one_ (i:=3) (N:=some 25) (bz_ 5 15) rfl rfl (by kernel_rfl) (by decide) (fun K hK=>?_)
 refine goes_ Try.func8 (by kernel_rfl) rfl #[.agg #[.int .i64 N,.slice A5 es.length c5],.agg #[.int .i64 N,.slice A8 es.length c8]] (by rfl) rfl rfl (by simp only [List.map_toArray,List.map_cons,List.map_nil];rfl) ?_
 refine (laws_eqGraph.calls k N A5 c5 es N A8 c8 es true w8 (Kd.R_reads' HO7b.out).2.2 (Kd.R_reads' HO7b.out).2.1 (Kd.R_reads' HO8.out).2.2 (Kd.R_reads' HO8.out).2.1 HEQ.out).mono ?_
 rintro e_ w9 ⟨rfl,hb2⟩
 have HB9:=qy.mk (qx HB8.out hb2)
 refine ⟨_,rfl,?_⟩
 refine hK.out _ _ ⟨pw_cell_below hb2 hHeld.1,pw_cell_below hb2 hHeld.2.1,pw_cell_below hb2 hHeld.2.2.1,pw_cell_below hb2 hHeld.2.2.2⟩ (fun hHeld=>?_)
 clear hK K
 refine norm_ (a':=?_) ?_ ?_
 rotate_left
 ·show Act.put _ (some 25) _ = _
  simp only [Act.put,List.setIfInBounds_toArray,List.set_cons_zero,List.set_cons_succ,i64_w,i32_w]
  rfl
 refine pa_ 4 26 (bz_ 5 31) ?_
 refine done_ (by kernel_rfl) ?_
 have cbe : (!true) = false:=rfl
 go_wp2_with fail
 go_ret
 exact ⟨rfl,HB9.out⟩
end Go.Proofs.Ytnffimpoekjkpaa.QFnExactRounds
