/- The reference's solver: l10Slack, l10Mate. -/
import Derived.Test.YtnffimpoekjkpaaZFnExactRoundsx51
import Derived.Test.YtnffimpoekjkpaaZFnExactRoundsx1
namespace Go.Proofs.Ytnffimpoekjkpaa.QFnExactRounds
open Go.RowKit Go.Proofs.YtnffimpoekjkpaaW.PrintWords Go.Proofs.YtnffimpoekjkpaaW.PrintLast Go.Proofs.YtnffimpoekjkpaaW.PrintMore
attribute [local go_sem] max2_int min2_int max_two min_two max_three min_three max_four min_four
set_option linter.unusedVariables false
set_option linter.unusedSimpArgs false
def slS (nd : List S60) (a b : Int) : Nat → Int → Int → Int
 | 0,_,s=>s
 | k + 1,i,s=>if i < (nd.length : Int) then slS nd a b k (i + 1) (if (rd_T60 nd i).f6 = false ∧ hasI nd i a = true ∧ hasI nd i b = true then wrap64 (s + (rd_T60 nd i).f5) else s) else s
def slackS (N : Int) (y : List Int) (nd : List S60) (x : S51) : Int:=slS nd x.f0 x.f1 (nd.length + 1) N (slBase y x)
set_option maxHeartbeats 8000000 in
set_option maxRecDepth 100000 in
theorem l10Slack_calls {w0 W : World} {Z : Nat → Prop} {wz : World} {g : Nat} {N : Int} {Ae : Option Addr} {ce : Nat} {es : List (S51)} {col : Nat → Nat} {vy vn vm : Value} {s : RI} (hS : Rn w0 W Z wz g N Ae ce es col vy vn vm s) (hw : WFn (cvs s.nd)) (X : S51) (hA : inR X.f0 s.nd.length) (hB : inR X.f1 s.nd.length) (hyA : inR X.f0 s.y.length) (hyB : inR X.f1 s.y.length) (hN : 0 ≤ N) (hsz : s.nd.length ≤ 1000000) :
  Calls Try.prog 41 #[.pointer (some ⟨g,0,none⟩),.agg #[.int .i64 X.f0,.int .i64 X.f1,.int .i64 X.f2,.int .i64 X.f3,.int .i64 X.f4]] W fun e w'=>e = .returned (.int .i64 (slackS N s.y (cvs s.nd) X)) ∧ Below W.heap.size W w':=by
 have hu39:=Try.underlying39
 have hu55:=Try.underlying55
 have hu77:=Try.underlying77
 have hu51:=Try.underlying51
 have hu29:=Try.underlying29
 have HS:=qy.mk hS
 clear hS
 have HW:=qy.mk hw
 have HAB:=qy.mk (And.intro hA hB)
 have HN:=qy.mk hN
 have HSZ:=qy.mk hsz
 obtain ⟨An,cn,e_⟩:=Kd.R_slice HS.out.rn
 subst e_
 obtain ⟨Ay,cy,e_⟩:=Kd.R_slice HS.out.ry
 subst e_
 have hc:=HS.out.cells
 obtain ⟨yA0,yA1⟩:=hyA
 obtain ⟨yB0,yB1⟩:=hyB
 obtain ⟨ady,e_,hyA⟩:=Kd.at_int (Kd.R_reads' HS.out.ry).2.2 _ yA0 yA1
 subst e_
 obtain ⟨ady',e_,hyB⟩:=Kd.at_int (Kd.R_reads' HS.out.ry).2.2 _ yB0 yB1
 obtain rfl:=Option.some.inj e_
 replace yA0:=eq_true yA0
 replace yA1:=eq_true yA1
 replace yB0:=eq_true yB0
 replace yB1:=eq_true yB1
 obtain ⟨R,hR⟩ : ∃ R,slackS N s.y (cvs s.nd) X = R:=⟨_,rfl⟩
 have HT:=qy.mk hR
 rw [hR]
 rw [slackS,slBase,cvs_len] at HT
 clear hw hA hB hN hsz hR
 go_enter Try.func41,Try.ntmps41
 go_upto_region 1 with fail
 have BX1 : qy ((W.alloc (.cells #[.int .i64 X.f0,.int .i64 X.f1,.int .i64 X.f2,.int .i64 X.f3,.int .i64 X.f4] 51)).heap[W.heap.size]? = some (.cells #[.int .i64 X.f0,.int .i64 X.f1,.int .i64 X.f2,.int .i64 X.f3,.int .i64 X.f4] 51 (0,0))):=⟨blk_new W _⟩
 have HB1 : qy (Below W.heap.size W (W.alloc (.cells #[.int .i64 X.f0,.int .i64 X.f1,.int .i64 X.f2,.int .i64 X.f3,.int .i64 X.f4] 51))):=⟨qo (Below.refl _ _) _⟩
 generalize W.alloc (.cells #[.int .i64 X.f0,.int .i64 X.f1,.int .i64 X.f2,.int .i64 X.f3,.int .i64 X.f4] 51) = W1 at *
 generalize hgb : W.heap.size = gb at BX1 ⊢
 go_wp2_with fail
 refine start_ (n:=22) (S:=fun w'=>w'.cell? ⟨gb,0,none⟩ = some (.int .i64 X.f0) ∧ w'.cell? ⟨gb,1,none⟩ = some (.int .i64 X.f1) ∧ w'.cell? ⟨gb,2,none⟩ = some (.int .i64 X.f2) ∧ w'.cell? ⟨gb,3,none⟩ = some (.int .i64 X.f3) ∧ w'.cell? ⟨gb,4,none⟩ = some (.int .i64 X.f4) ∧ w'.cell? ⟨g,2,none⟩ = some (.slice (some ady) s.y.length cy) ∧ w'.cell? (ady.add X.f0.toNat) = some (.int .i64 (rd s.y X.f0)) ∧ w'.cell? (ady.add X.f1.toNat) = some (.int .i64 (rd s.y X.f1))) (ds:=[]) (Array.replicate 22 false) (by kernel_rfl) rfl rfl ⟨(qq BX1.out 0).trans rfl,(qq BX1.out 1).trans rfl,(qq BX1.out 2).trans rfl,(qq BX1.out 3).trans rfl,(qq BX1.out 4).trans rfl,pw_cell_below HB1.out hc.2.2.1,pw_cell_below HB1.out hyA,pw_cell_below HB1.out hyB⟩ (fun hHeld=>?_)
 refine pa_ 0 7 (bz_ 22 1) ?_
 refine pa_ 1 8 (bz_ 22 3) ?_
 refine pa_ 2 9 (bz_ 22 7) ?_
 refine pa_ 4 11 (bz_ 22 23) ?_
 refine pa_ 8 15 (bz_ 22 279) ?_
 refine pa_ 9 16 (bz_ 22 791) ?_
 refine pa_ 10 17 (bz_ 22 1815) ?_
 refine pa_ 12 19 (bz_ 22 5911) ?_
 refine ta_ 3 10 (bz_ 22 5919) hHeld (hy:=Or.inl ⟨by rfl,by rintro w' ⟨s0,s1,s2,s3,s4,s5,s6,s7⟩;go_simp;with_reducible rfl⟩) (h:=?_)
 refine ta_ 5 12 (bz_ 22 5951) hHeld (hy:=Or.inl ⟨by rfl,by rintro w' ⟨s0,s1,s2,s3,s4,s5,s6,s7⟩;go_simp;with_reducible rfl⟩) (h:=?_)
 refine pa_ 6 13 (bz_ 22 6015) ?_
 refine ta_ 7 14 (bz_ 22 6143) hHeld (hy:=Or.inl ⟨by rfl,by rintro w' ⟨s0,s1,s2,s3,s4,s5,s6,s7⟩;go_simp;with_reducible rfl⟩) (h:=?_)
 refine ta_ 11 18 (bz_ 22 8191) hHeld (hy:=Or.inl ⟨by rfl,by rintro w' ⟨s0,s1,s2,s3,s4,s5,s6,s7⟩;go_simp;with_reducible rfl⟩) (h:=?_)
 refine ta_ 13 20 (bz_ 22 16383) hHeld (hy:=Or.inl ⟨by rfl,by rintro w' ⟨s0,s1,s2,s3,s4,s5,s6,s7⟩;go_simp;with_reducible rfl⟩) (h:=?_)
 refine pa_ 14 21 (bz_ 22 32767) ?_
 refine ta_ 15 22 (bz_ 22 65535) hHeld (hy:=Or.inl ⟨by rfl,by rintro w' ⟨s0,s1,s2,s3,s4,s5,s6,s7⟩;go_simp;with_reducible rfl⟩) (h:=?_)
 refine pa_ 16 23 (bz_ 22 131071) ?_
 refine ta_ 17 24 (bz_ 22 262143) hHeld (hy:=Or.inl ⟨by rfl,by rintro w' ⟨s0,s1,s2,s3,s4,s5,s6,s7⟩;go_simp;with_reducible rfl⟩) (h:=?_)
 refine one_ (i:=18) (N:=some 25) (bz_ 22 524287) rfl rfl (by kernel_rfl) (by decide) (fun K hK=>?_)
 refine goes_ Try.func19 (by kernel_rfl) rfl #[.agg #[.int .i64 X.f0,.int .i64 X.f1,.int .i64 X.f2,.int .i64 X.f3,.int .i64 X.f4]] (by rfl) rfl rfl (by simp only [List.map_toArray,List.map_cons,List.map_nil];rfl) ?_
 with_reducible refine (spec_Scalar.calls _ _ _ _ _ _ _ rfl).mono ?_
 rintro e wc ⟨rfl,hb⟩
 refine ⟨_,rfl,?_⟩
 refine hK.out _ _ ⟨pw_cell_below hb hHeld.1,pw_cell_below hb hHeld.2.1,pw_cell_below hb hHeld.2.2.1,pw_cell_below hb hHeld.2.2.2.1,pw_cell_below hb hHeld.2.2.2.2.1,pw_cell_below hb hHeld.2.2.2.2.2.1,pw_cell_below hb hHeld.2.2.2.2.2.2.1,pw_cell_below hb hHeld.2.2.2.2.2.2.2⟩ (fun hHeld=>?_)
 clear hK K
 refine norm_ (a':=?_) ?_ ?_
 rotate_left
 ·show Act.put _ (some 25) _ = _
  simp only [Act.put,List.setIfInBounds_toArray,List.set_cons_zero,List.set_cons_succ,i64_w,i32_w]
  rfl
 refine pa_ 19 26 (bz_ 22 1048575) ?_
 refine pa_ 20 27 (bz_ 22 2097151) ?_
 refine pa_ 21 5 (bz_ 22 4194303) ?_
 refine done_ (by kernel_rfl) ?_
 have HBC : qy (Below W1.heap.size W1 wc):=⟨qx (by repeat (first|exact Below.refl _ _|apply qh|apply qd)) hb⟩
 have HB2:=qy.mk (qx HB1.out HBC.out)
 have BX2:=qy.mk (qw BX1.out HBC.out)
 have HS2:=qy.mk (HS.out.to HB2.out)
 clear hHeld HBC BX1 hb hc hyA hyB HB1
 have hc:=HS2.out.cells
 have hc0 : wc.cell? ⟨gb,0,none⟩ = some (.int .i64 X.f0):=(qq BX2.out 0).trans rfl
 have hc1 : wc.cell? ⟨gb,1,none⟩ = some (.int .i64 X.f1):=(qq BX2.out 1).trans rfl
 go_wp2_with fail
 go_loopg [5,6] (s.nd.length + 1) (fun kq v5 v6 w'=>∃ (i z : Int),v5 = .int .i64 z ∧ v6 = .int .i64 i ∧ qy (0 ≤ i ∧ (s.nd.length : Int) < i + kq) ∧ qy (slS (cvs s.nd) X.f0 X.f1 kq i z = R) ∧ w' = wc)
 case atStart=>exact ⟨_,_,rfl,rfl,⟨HN.out,by have:=HN.out;omega⟩,HT,rfl⟩
 clear HT
 obtain ⟨i,z,rfl,rfl,HI,HT,rfl⟩:=hrel
 have h:=HT.out
 clear HT
 have h0:=HI.out
 cases gk with
 | zero =>
  rw [slS] at h
  subst h
  have cl0 : decide (i < (s.nd.length : Int)) = false:=decide_eq_false (by omega)
  clear h0
  go_wp2_with fail
  go_ret
  exact ⟨rfl,HB2.out⟩
 | succ k1 =>
  rw [slS,cvs_len] at h
  by_cases c : i < (s.nd.length : Int)
  ·rw [if_pos c] at h
   have HIL:=qy.mk c
   have cl0 : decide (i < (s.nd.length : Int)) = true:=decide_eq_true c
   have hi1 : wrap64 (i + 1) = i + 1:=w64 (by omega) (by have:=HSZ.out;omega)
   have HQA:=qy.mk (has_is HW.out i (v:=X.f0) (.inr (by rw [cvs_len];exact HAB.out.1)))
   have HQB:=qy.mk (has_is HW.out i (v:=X.f1) (.inr (by rw [cvs_len];exact HAB.out.2)))
   have HI1 : qy (i ≠ -1):=⟨by omega⟩
   have HVA : qy (-1 ≤ X.f0):=⟨by have:=HAB.out.1.1;omega⟩
   have HVB : qy (-1 ≤ X.f1):=⟨by have:=HAB.out.2.1;omega⟩
   rw [rd_cvs] at h
   have p:=h0.1
   have q:=c
   obtain ⟨ad,A0,c0,A1,c1,eA,hx0,hx1,hx2,hx3,hx4,hx5,-⟩:=at_T55 (Kd.R_reads' HS2.out.rn).2.2 i p q
   subst eA
   replace p:=eq_true p
   replace q:=eq_true q
   clear c h0
   cases b1 : (rd_T55 s.nd i).f5 with
   | true =>
    rw [if_neg (by rintro ⟨h,-⟩;change (rd_T55 s.nd i).f5 = false at h;rw [b1] at h;cases h)] at h
    rw [b1] at hx5
    have HT:=qy.mk h
    clear h b1 HQA HQB
    go_wp2_with fail
    go_roundg k1
    case measure=>omega
    case rel=>exact ⟨i + 1,z,rfl,by rw [hi1],⟨by have:=HI.out;omega,by have:=HI.out;omega⟩,HT,rfl⟩
   | false =>
    rw [b1] at hx5
    cases b2 : hasI (cvs s.nd) i X.f0 with
    | false =>
     rw [if_neg (by rintro ⟨-,h,-⟩;rw [b2] at h;cases h)] at h
     rw [b2] at HQA
     have HT:=qy.mk h
     clear h b1 b2 HQB
     go_wp2_with (first|(go_at_call 58;(with_reducible refine (l10Within_calls HS2.out _ _ X.f0 _ HW.out HI1.out HVA.out HQA.out).mono ?_);rintro e_ w2 ⟨rfl,h2⟩;replace h2:=h2.symm;subst h2))
     go_roundg k1
     case measure=>omega
     case rel=>exact ⟨i + 1,z,rfl,by rw [hi1],⟨by have:=HI.out;omega,by have:=HI.out;omega⟩,HT,rfl⟩
    | true =>
     rw [b2] at HQA
     cases b3 : hasI (cvs s.nd) i X.f1 with
     | false =>
      rw [if_neg (by rintro ⟨-,-,h⟩;rw [b3] at h;cases h)] at h
      rw [b3] at HQB
      have HT:=qy.mk h
      clear h b1 b2 b3
      go_wp2_with (first|(go_at_call 58;(with_reducible refine (l10Within_calls HS2.out _ _ X.f0 _ HW.out HI1.out HVA.out HQA.out).mono ?_);rintro e_ w2 ⟨rfl,h2⟩;replace h2:=h2.symm;subst h2)|(go_at_call 58;(with_reducible refine (l10Within_calls HS2.out _ _ X.f1 _ HW.out HI1.out HVB.out HQB.out).mono ?_);rintro e_ w2 ⟨rfl,h2⟩;replace h2:=h2.symm;subst h2))
      go_roundg k1
      case measure=>omega
      case rel=>exact ⟨i + 1,z,rfl,by rw [hi1],⟨by have:=HI.out;omega,by have:=HI.out;omega⟩,HT,rfl⟩
     | true =>
      rw [if_pos ⟨b1,b2,b3⟩] at h
      rw [b3] at HQB
      have HT:=qy.mk h
      clear h b1 b2 b3
      go_wp2_with (first|(go_at_call 58;(with_reducible refine (l10Within_calls HS2.out _ _ X.f0 _ HW.out HI1.out HVA.out HQA.out).mono ?_);rintro e_ w2 ⟨rfl,h2⟩;replace h2:=h2.symm;subst h2)|(go_at_call 58;(with_reducible refine (l10Within_calls HS2.out _ _ X.f1 _ HW.out HI1.out HVB.out HQB.out).mono ?_);rintro e_ w2 ⟨rfl,h2⟩;replace h2:=h2.symm;subst h2))
      go_roundg k1
      case measure=>omega
      case rel=>exact ⟨i + 1,_,rfl,by rw [hi1],⟨by have:=HI.out;omega,by have:=HI.out;omega⟩,HT,rfl⟩
  rw [if_neg c] at h
  subst h
  have cl0 : decide (i < (s.nd.length : Int)) = false:=decide_eq_false c
  clear c h0
  go_wp2_with fail
  go_ret
  exact ⟨rfl,HB2.out⟩
end Go.Proofs.Ytnffimpoekjkpaa.QFnExactRounds
