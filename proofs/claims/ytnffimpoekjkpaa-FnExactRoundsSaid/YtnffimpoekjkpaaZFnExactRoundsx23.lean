/- The program's solver: other, slack. -/
import Derived.Test.YtnffimpoekjkpaaZFnExactRoundsx22
import Derived.Test.YtnffimpoekjkpaaZFnExactRoundsx4
namespace Go.Proofs.Ytnffimpoekjkpaa.QFnExactRounds
open Go.RowKit Go.Proofs.YtnffimpoekjkpaaW.PrintWords Go.Proofs.YtnffimpoekjkpaaW.PrintLast Go.Proofs.YtnffimpoekjkpaaW.PrintMore
attribute [local go_sem] max2_int min2_int max_two min_two max_three min_three max_four min_four
set_option linter.unusedVariables false
set_option linter.unusedSimpArgs false
def otherI (nd : List (S60)) (es : List (S51)) (e n : Int) : Int:=if topI nd (rd_T51 es e).f0 = n then topI nd (rd_T51 es e).f1 else topI nd (rd_T51 es e).f0
set_option maxHeartbeats 8000000 in
set_option maxRecDepth 100000 in
theorem other_calls {w0 W : World} {g : Nat} {N : Int} {Ae : Option Addr} {ce : Nat} {es : List (S51)} {col : Nat → Nat} {vy vn vl va vb : Value} {s : SI} (hS : Sol w0 W g N Ae ce es col vy vn vl va vb s) (hw : WFn s.nd) (ho : EOk es s.nd.length) (i n : Int) (hi : inR i es.length) :
  Calls Try.prog 52 #[.pointer (some ⟨g,0,none⟩),.int .i64 i,.int .i64 n] W fun e w'=>e = .returned (.int .i64 (otherI s.nd es i n)) ∧ ∃ m,w' = W.drewN m:=by
 have hu47:=Try.underlying47
 have hu60:=Try.underlying60
 have hu51:=Try.underlying51
 have hu29:=Try.underlying29
 have HS:=qy.mk hS
 clear hS
 have hc:=HS.out.cells
 rw [otherI]
 have HW:=qy.mk hw
 have HE:=qy.mk ho
 have HI:=qy.mk hi
 clear hw ho hi
 by_cases c : topI s.nd (rd_T51 es i).f0 = n
 ·rw [if_pos c]
  have cb : (topI s.nd (rd_T51 es i).f0 == n) = true:=by simpa using c
  clear c
  go_enter Try.func52,Try.ntmps52
  go_wp2_with (first|(go_at_call 60;(with_reducible refine (ends_calls (by first|exact HS.out|exact HS.out.to) HW.out HE.out i HI.out).mono ?_);rintro e w2 ⟨rfl,m,rfl⟩))
  go_ret
  exact ⟨rfl,_,rfl⟩
 rw [if_neg c]
 have cb : (topI s.nd (rd_T51 es i).f0 == n) = false:=by simpa using c
 clear c
 go_enter Try.func52,Try.ntmps52
 go_wp2_with (first|(go_at_call 60;(with_reducible refine (ends_calls (by first|exact HS.out|exact HS.out.to) HW.out HE.out i HI.out).mono ?_);rintro e w2 ⟨rfl,m,rfl⟩))
 go_ret
 exact ⟨rfl,_,rfl⟩
def scI (x : S51) : Int:=wrap64 ((wrap64 ((wrap64 (90000 * x.f2)) + (wrap64 (300 * x.f3)))) + x.f4)
def slInF (nd : List (S60)) (n : Int) : Nat → Int → Int → Option Int
 | 0,_,_=>none
 | k + 1,m,out=>if m = -1 then some out else if inR m nd.length then slInF nd n k (rd_T60 nd m).f2 (if n = m then wrap64 (out + (rd_T60 nd n).f5) else out) else none
def slOutF (nd : List (S60)) (b : Int) : Nat → Int → Int → Option Int
 | 0,_,_=>none
 | k + 1,n,out=>if n = -1 then some out else if inR n nd.length then (slInF nd n (nd.length + 2) b out).bind fun o=>slOutF nd b k (rd_T60 nd n).f2 o else none
def slBase (y : List Int) (x : S51) : Int:=wrap64 (wrap64 (rd y x.f0 + rd y x.f1) - wrap64 (2 * scI x))
set_option maxHeartbeats 8000000 in
set_option maxRecDepth 100000 in
theorem slackF_calls {w0 W : World} {g : Nat} {N : Int} {Ae : Option Addr} {ce : Nat} {es : List (S51)} {col : Nat → Nat} {vy vn vl va vb : Value} {s : SI} (hS : Sol w0 W g N Ae ce es col vy vn vl va vb s) (ho : EOk es s.nd.length) (hoy : EOk es s.y.length) (i : Int) (hi : inR i es.length) (k : Nat) (r : Int)
  (h : slOutF s.nd (rd_T60 s.nd (rd_T51 es i).f1).f2 k (rd_T60 s.nd (rd_T51 es i).f0).f2 (slBase s.y (rd_T51 es i)) = some r) :
  Calls Try.prog 61 #[.pointer (some ⟨g,0,none⟩),.int .i64 i] W fun e w'=>e = .returned (.int .i64 r) ∧ Below W.heap.size W w':=by
 have hu47:=Try.underlying47
 have hu60:=Try.underlying60
 have hu51:=Try.underlying51
 have hu29:=Try.underlying29
 have HS:=qy.mk hS
 clear hS
 have HT:=qy.mk h
 clear h
 rw [slBase] at HT
 obtain ⟨An,cn,e_⟩:=Kd.R_slice HS.out.rn
 subst e_
 obtain ⟨Ay,cy,e_⟩:=Kd.R_slice HS.out.ry
 subst e_
 have hc:=HS.out.cells
 obtain ⟨yA0,yA1⟩:=(hoy i hi).1
 obtain ⟨yB0,yB1⟩:=(hoy i hi).2
 obtain ⟨pA,qA⟩:=(ho i hi).1
 obtain ⟨pB,qB⟩:=(ho i hi).2
 obtain ⟨pE,qE⟩:=hi
 obtain ⟨adE,eAE,he0E,he1E,he2E,he3E,he4E⟩:=at_T51 (Kd.C_below HS.out.he HS.out.hb) (i) pE qE
 subst eAE
 obtain ⟨ady,e_,hyA⟩:=Kd.at_int (Kd.R_reads' HS.out.ry).2.2 _ yA0 yA1
 subst e_
 obtain ⟨ady',e_,hyB⟩:=Kd.at_int (Kd.R_reads' HS.out.ry).2.2 _ yB0 yB1
 obtain rfl:=Option.some.inj e_
 replace pE:=eq_true pE
 replace qE:=eq_true qE
 replace yA0:=eq_true yA0
 replace yA1:=eq_true yA1
 replace yB0:=eq_true yB0
 replace yB1:=eq_true yB1
 clear ho hoy
 go_enter Try.func61,Try.ntmps61
 go_wp2
 have BX1 : qy ((W.alloc (.cells #[.int .i64 (rd_T51 es i).f0,.int .i64 (rd_T51 es i).f1,.int .i64 (rd_T51 es i).f2,.int .i64 (rd_T51 es i).f3,.int .i64 (rd_T51 es i).f4] 51)).heap[W.heap.size]? = some (.cells #[.int .i64 (rd_T51 es i).f0,.int .i64 (rd_T51 es i).f1,.int .i64 (rd_T51 es i).f2,.int .i64 (rd_T51 es i).f3,.int .i64 (rd_T51 es i).f4] 51 (0,0))):=⟨blk_new W _⟩
 have HB1 : qy (Below W.heap.size W (W.alloc (.cells #[.int .i64 (rd_T51 es i).f0,.int .i64 (rd_T51 es i).f1,.int .i64 (rd_T51 es i).f2,.int .i64 (rd_T51 es i).f3,.int .i64 (rd_T51 es i).f4] 51))):=⟨qo (Below.refl _ _) _⟩
 generalize W.alloc (.cells #[.int .i64 (rd_T51 es i).f0,.int .i64 (rd_T51 es i).f1,.int .i64 (rd_T51 es i).f2,.int .i64 (rd_T51 es i).f3,.int .i64 (rd_T51 es i).f4] 51) = W1 at *
 generalize hgb : W.heap.size = gb at BX1 ⊢
 refine start_ (n:=22) (S:=fun w'=>w'.cell? ⟨gb,0,none⟩ = some (.int .i64 (rd_T51 es i).f0) ∧ w'.cell? ⟨gb,1,none⟩ = some (.int .i64 (rd_T51 es i).f1) ∧ w'.cell? ⟨gb,2,none⟩ = some (.int .i64 (rd_T51 es i).f2) ∧ w'.cell? ⟨gb,3,none⟩ = some (.int .i64 (rd_T51 es i).f3) ∧ w'.cell? ⟨gb,4,none⟩ = some (.int .i64 (rd_T51 es i).f4) ∧ w'.cell? ⟨g,2,none⟩ = some (.slice (some ady) s.y.length cy) ∧ w'.cell? (ady.add (rd_T51 es i).f0.toNat) = some (.int .i64 (rd s.y (rd_T51 es i).f0)) ∧ w'.cell? (ady.add (rd_T51 es i).f1.toNat) = some (.int .i64 (rd s.y (rd_T51 es i).f1))) (ds:=[]) (Array.replicate 22 false) (by kernel_rfl) rfl rfl ⟨(qq BX1.out 0).trans rfl,(qq BX1.out 1).trans rfl,(qq BX1.out 2).trans rfl,(qq BX1.out 3).trans rfl,(qq BX1.out 4).trans rfl,pw_cell_below HB1.out hc.2.2.1,pw_cell_below HB1.out hyA,pw_cell_below HB1.out hyB⟩ (fun hHeld=>?_)
 refine pa_ 0 17 (bz_ 22 1) ?_
 refine pa_ 1 18 (bz_ 22 3) ?_
 refine pa_ 2 19 (bz_ 22 7) ?_
 refine pa_ 4 21 (bz_ 22 23) ?_
 refine pa_ 8 25 (bz_ 22 279) ?_
 refine pa_ 9 26 (bz_ 22 791) ?_
 refine pa_ 10 27 (bz_ 22 1815) ?_
 refine pa_ 12 29 (bz_ 22 5911) ?_
 refine ta_ 3 20 (bz_ 22 5919) hHeld (hy:=Or.inl ⟨by rfl,by rintro w' ⟨s0,s1,s2,s3,s4,s5,s6,s7⟩;go_simp;with_reducible rfl⟩) (h:=?_)
 refine ta_ 5 22 (bz_ 22 5951) hHeld (hy:=Or.inl ⟨by rfl,by rintro w' ⟨s0,s1,s2,s3,s4,s5,s6,s7⟩;go_simp;with_reducible rfl⟩) (h:=?_)
 refine pa_ 6 23 (bz_ 22 6015) ?_
 refine ta_ 7 24 (bz_ 22 6143) hHeld (hy:=Or.inl ⟨by rfl,by rintro w' ⟨s0,s1,s2,s3,s4,s5,s6,s7⟩;go_simp;with_reducible rfl⟩) (h:=?_)
 refine ta_ 11 28 (bz_ 22 8191) hHeld (hy:=Or.inl ⟨by rfl,by rintro w' ⟨s0,s1,s2,s3,s4,s5,s6,s7⟩;go_simp;with_reducible rfl⟩) (h:=?_)
 refine ta_ 13 30 (bz_ 22 16383) hHeld (hy:=Or.inl ⟨by rfl,by rintro w' ⟨s0,s1,s2,s3,s4,s5,s6,s7⟩;go_simp;with_reducible rfl⟩) (h:=?_)
 refine pa_ 14 31 (bz_ 22 32767) ?_
 refine ta_ 15 32 (bz_ 22 65535) hHeld (hy:=Or.inl ⟨by rfl,by rintro w' ⟨s0,s1,s2,s3,s4,s5,s6,s7⟩;go_simp;with_reducible rfl⟩) (h:=?_)
 refine pa_ 16 33 (bz_ 22 131071) ?_
 refine ta_ 17 34 (bz_ 22 262143) hHeld (hy:=Or.inl ⟨by rfl,by rintro w' ⟨s0,s1,s2,s3,s4,s5,s6,s7⟩;go_simp;with_reducible rfl⟩) (h:=?_)
 refine one_ (i:=18) (N:=some 35) (bz_ 22 524287) rfl rfl (by kernel_rfl) (by decide) (fun K hK=>?_)
 refine goes_ Try.func23 (by kernel_rfl) rfl #[.agg #[.int .i64 (rd_T51 es i).f0,.int .i64 (rd_T51 es i).f1,.int .i64 (rd_T51 es i).f2,.int .i64 (rd_T51 es i).f3,.int .i64 (rd_T51 es i).f4]] (by rfl) rfl rfl (by simp only [List.map_toArray,List.map_cons,List.map_nil];rfl) ?_
 with_reducible refine (impl_Scalar.calls _ _ _ _ _ _ _ rfl).mono ?_
 rintro e wc ⟨rfl,hb⟩
 refine ⟨_,rfl,?_⟩
 refine hK.out _ _ ⟨pw_cell_below hb hHeld.1,pw_cell_below hb hHeld.2.1,pw_cell_below hb hHeld.2.2.1,pw_cell_below hb hHeld.2.2.2.1,pw_cell_below hb hHeld.2.2.2.2.1,pw_cell_below hb hHeld.2.2.2.2.2.1,pw_cell_below hb hHeld.2.2.2.2.2.2.1,pw_cell_below hb hHeld.2.2.2.2.2.2.2⟩ (fun hHeld=>?_)
 clear hK K
 refine norm_ (a':=?_) ?_ ?_
 rotate_left
 ·show Act.put _ (some 35) _ = _
  simp only [Act.put,List.setIfInBounds_toArray,List.set_cons_zero,List.set_cons_succ,i64_w,i32_w]
  rfl
 refine pa_ 19 36 (bz_ 22 1048575) ?_
 refine pa_ 20 37 (bz_ 22 2097151) ?_
 refine pa_ 21 6 (bz_ 22 4194303) ?_
 refine done_ (by kernel_rfl) ?_
 have HBC : qy (Below W1.heap.size W1 wc):=⟨qx (by repeat (first|exact Below.refl _ _|apply qh|apply qd)) hb⟩
 have HB2:=qy.mk (qx HB1.out HBC.out)
 have BX2:=qy.mk (qw BX1.out HBC.out)
 have HS2:=qy.mk (HS.out.to HB2.out)
 clear hHeld HBC BX1 hb hc he0E he1E he2E he3E he4E hyA hyB HB1
 have hc:=HS2.out.cells
 have hc0 : wc.cell? ⟨gb,0,none⟩ = some (.int .i64 (rd_T51 es i).f0):=(qq BX2.out 0).trans rfl
 have hc1 : wc.cell? ⟨gb,1,none⟩ = some (.int .i64 (rd_T51 es i).f1):=(qq BX2.out 1).trans rfl
 obtain ⟨adA,A0A,c0A,A1A,c1A,e_,hx0A,hx1A,hx2A,hx3A,hx4A,hx5A,hx6A,-⟩:=at_T60 (Kd.R_reads' HS2.out.rn).2.2 _ pA qA
 subst e_
 obtain ⟨adB,A0B,c0B,A1B,c1B,e_,hx0B,hx1B,hx2B,hx3B,hx4B,hx5B,hx6B,-⟩:=at_T60 (Kd.R_reads' HS2.out.rn).2.2 _ pB qB
 obtain rfl:=Option.some.inj e_
 replace pA:=eq_true pA
 replace qA:=eq_true qA
 replace pB:=eq_true pB
 replace qB:=eq_true qB
 go_wp2_with fail
 go_quiet (fail)
 go_wp2_with fail
 go_loopg [6,7,8] k (fun kq v6 v7 v8 w'=>∃ (n out : Int) (m : Nat),v6 = .int .i64 out ∧ v7 = .int .i64 n ∧ qy (slOutF s.nd (rd_T60 s.nd (rd_T51 es i).f1).f2 kq n out = some r) ∧ w' = wc.drewN m)
 case atStart=>exact ⟨_,_,_,rfl,rfl,HT,rfl⟩
 clear HT
 obtain ⟨n,out,m,rfl,rfl,HT,rfl⟩:=hrel
 have h:=HT.out
 clear HT
 obtain _|k1:=gk
 ·cases h
 rw [slOutF] at h
 by_cases cn : n = -1
 ·rw [if_pos cn] at h
  obtain rfl:=Option.some.inj h
  have cb : (n != -1) = false:=by simpa using cn
  clear cn h
  go_wp2_with fail
  go_ret
  exact ⟨rfl,qd HB2.out _⟩
 rw [if_neg cn] at h
 have cb : (n != -1) = true:=by simpa using cn
 clear cn
 by_cases c : inR n s.nd.length
 ·rw [if_pos c] at h
  obtain ⟨o,hin,h⟩:=Option.bind_eq_some_iff.mp h
  have HT:=qy.mk h
  have HN:=qy.mk hin
  clear h hin
  obtain ⟨p,q⟩:=c
  obtain ⟨ad_,A0_,c0_,A1_,c1_,e_,hx0,hx1,hx2,hx3,hx4,hx5,hx6,-⟩:=at_T60 (Kd.R_reads' HS2.out.rn).2.2 n p q
  obtain rfl:=Option.some.inj e_
  replace p:=eq_true p
  replace q:=eq_true q
  go_wp2_with fail
  go_quiet (fail)
  go_wp2_with fail
  go_loopg [6,8] (s.nd.length + 2) (fun kq v6 v8 w'=>∃ (m1 out : Int),v6 = .int .i64 out ∧ v8 = .int .i64 m1 ∧ qy (slInF s.nd n kq m1 out = some o) ∧ w' = wc.drewN (m + nq))
  case atStart=>exact ⟨_,_,rfl,rfl,HN,by first|rfl|exact World.drewN_drewN _ _ _⟩
  clear HN
  obtain ⟨m1,out,rfl,rfl,HN,rfl⟩:=hrel
  have h:=HN.out
  clear HN
  obtain _|k2:=gk
  ·cases h
  rw [slInF] at h
  by_cases cm : m1 = -1
  ·rw [if_pos cm] at h
   obtain rfl:=Option.some.inj h
   have cb1 : (m1 != -1) = false:=by simpa using cm
   clear cm h
   go_wp2_with fail
   go_roundg k1
   case measure=>omega
   case rel=>exact ⟨_,_,_,rfl,rfl,HT,rfl⟩
  rw [if_neg cm] at h
  have cb1 : (m1 != -1) = true:=by simpa using cm
  clear cm
  by_cases c1 : inR m1 s.nd.length
  ·rw [if_pos c1] at h
   obtain ⟨p1,q1⟩:=c1
   obtain ⟨ad1_,A01_,c01_,A11_,c11_,e1_,hy0,hy1,hy2,hy3,hy4,hy5,hy6,-⟩:=at_T60 (Kd.R_reads' HS2.out.rn).2.2 m1 p1 q1
   obtain rfl:=Option.some.inj e1_
   replace p1:=eq_true p1
   replace q1:=eq_true q1
   by_cases cq : n = m1
   ·rw [if_pos cq] at h
    have HN:=qy.mk h
    have cb2 : (n == m1) = true:=by simpa using cq
    clear h cq
    go_wp2_with fail
    go_roundg k2
    case measure=>omega
    case rel=>exact ⟨_,_,rfl,rfl,HN,rfl⟩
   rw [if_neg cq] at h
   have HN:=qy.mk h
   have cb2 : (n == m1) = false:=by simpa using cq
   clear h cq
   go_wp2_with fail
   go_roundg k2
   case measure=>omega
   case rel=>exact ⟨_,_,rfl,rfl,HN,rfl⟩
  rw [if_neg c1] at h
  cases h
 rw [if_neg c] at h
 cases h
theorem slInF_ok {nd : List (S60)} (hw : WFn nd) (n : Int) : ∀ (k : Nat) (v out : Int),0 < k → v = -1 ∨ inR v nd.length ∧ (nd.length : Int) + 1 < v + k → ∃ r,slInF nd n k v out = some r
 | 0,v,_,hp,hk=>absurd hp (by omega)
 | k + 1,v,out,hp,hk=>by
  rw [slInF]
  by_cases c : v = -1
  ·rw [if_pos c]
   exact ⟨_,rfl⟩
  rw [if_neg c]
  obtain ⟨hv,hk⟩:=hk.resolve_left c
  rw [if_pos hv]
  have h0:=hv.1
  have h1:=hv.2
  refine slInF_ok hw n k _ _ (by omega) ?_
  rcases hw v hv with h|h
  ·exact .inl h
  exact .inr ⟨⟨by omega,h.2⟩,by omega⟩
theorem slOutF_ok {nd : List (S60)} (hw : WFn nd) (b : Int) (hb : b = -1 ∨ inR b nd.length) : ∀ (k : Nat) (v out : Int),0 < k → v = -1 ∨ inR v nd.length ∧ (nd.length : Int) + 1 < v + k → ∃ r,slOutF nd b k v out = some r
 | 0,v,_,hp,hk=>absurd hp (by omega)
 | k + 1,v,out,hp,hk=>by
  rw [slOutF]
  by_cases c : v = -1
  ·rw [if_pos c]
   exact ⟨_,rfl⟩
  rw [if_neg c]
  obtain ⟨hv,hk⟩:=hk.resolve_left c
  rw [if_pos hv]
  have h0:=hv.1
  have h1:=hv.2
  obtain ⟨o,ho⟩:=slInF_ok hw v (nd.length + 2) b out (by omega) (hb.imp_right fun h=>⟨h,by have:=h.1;omega⟩)
  rw [ho]
  refine slOutF_ok hw b hb k _ o (by omega) ?_
  rcases hw v hv with h|h
  ·exact .inl h
  exact .inr ⟨⟨by omega,h.2⟩,by omega⟩
theorem up_in {nd : List (S60)} (hw : WFn nd) {v : Int} (hv : inR v nd.length) : (rd_T60 nd v).f2 = -1 ∨ inR (rd_T60 nd v).f2 nd.length :=
 (hw v hv).imp_right fun h=>⟨by have:=hv.1;omega,h.2⟩
def slackI (y : List Int) (nd : List (S60)) (x : S51) : Int:=(slOutF nd (rd_T60 nd x.f1).f2 (nd.length + 2) (rd_T60 nd x.f0).f2 (slBase y x)).getD 0
theorem slack_is {nd : List (S60)} (y : List Int) (hw : WFn nd) {x : S51} (h0 : inR x.f0 nd.length) (h1 : inR x.f1 nd.length) : slOutF nd (rd_T60 nd x.f1).f2 (nd.length + 2) (rd_T60 nd x.f0).f2 (slBase y x) = some (slackI y nd x):=by
 obtain ⟨r,hr⟩:=slOutF_ok hw (rd_T60 nd x.f1).f2 (up_in hw h1) (nd.length + 2) (rd_T60 nd x.f0).f2 (slBase y x) (by omega) ((up_in hw h0).imp_right fun h=>⟨h,by have:=h.1;omega⟩)
 rw [slackI,hr]
 rfl
theorem slack_calls {w0 W : World} {g : Nat} {N : Int} {Ae : Option Addr} {ce : Nat} {es : List (S51)} {col : Nat → Nat} {vy vn vl va vb : Value} {s : SI} (hS : Sol w0 W g N Ae ce es col vy vn vl va vb s) (hw : WFn s.nd) (ho : EOk es s.nd.length) (hoy : EOk es s.y.length) (i : Int) (hi : inR i es.length) :
  Calls Try.prog 61 #[.pointer (some ⟨g,0,none⟩),.int .i64 i] W fun e w'=>e = .returned (.int .i64 (slackI s.y s.nd (rd_T51 es i))) ∧ Below W.heap.size W w' :=
 slackF_calls hS ho hoy i hi _ _ (slack_is s.y hw (ho i hi).1 (ho i hi).2)
end Go.Proofs.Ytnffimpoekjkpaa.QFnExactRounds
