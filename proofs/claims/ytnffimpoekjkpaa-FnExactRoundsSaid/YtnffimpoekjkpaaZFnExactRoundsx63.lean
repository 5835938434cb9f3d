/- The reference's solver: l10Round. -/
import Derived.Test.YtnffimpoekjkpaaZFnExactRoundsx60
import Derived.Test.YtnffimpoekjkpaaZFnExactRoundsx62
import Derived.Test.YtnffimpoekjkpaaZFnExactRoundsx57
namespace Go.Proofs.Ytnffimpoekjkpaa.QFnExactRounds
open Go.RowKit Go.Proofs.YtnffimpoekjkpaaW.PrintWords Go.Proofs.YtnffimpoekjkpaaW.PrintLast Go.Proofs.YtnffimpoekjkpaaW.PrintMore
attribute [local go_sem] max2_int min2_int max_two min_two max_three min_three max_four min_four
set_option linter.unusedVariables false
set_option linter.unusedSimpArgs false
/-- What holds between two rounds of the reference's, as far as the walk asks. -/
structure GdS (N : Int) (es : List S51) (s : RI) : Prop where
 w : WFn (cvs s.nd)
 o : EOk es s.nd.length
 y : EOk es s.y.length
 n : N = s.y.length
 nn : N ≤ s.nd.length
 sz : s.nd.length ≤ 1000000
 m : ∀ x ∈ s.mt,inR x.f0 s.nd.length ∧ inR x.f1 s.nd.length
 sm : s.mt.length ≤ 1000
structure AdjS (N : Int) (es : List S51) (s : RI) (lb : List Int) (s' : RI) : Prop where
 hp : 0 ≤ (stepS N es s lb).1 → 0 < s.nd.length
 hU : 0 ≤ (stepS N es s lb).1 → frsS N es s lb ≠ -1 → UOkS (chgS N es s lb) (frsS N es s lb)
 e : s' = adjustS N es s lb
structure ShrS (s : RI) (t : TI) (X : S51) (ws us : List Int) (i kk : Int) (ring : List Int) (lk : List S77) (k : Nat) (s' : RI) : Prop where
 hk : k ≤ 1000
 h1 : wayS (cvs s.nd) t.ah t.rt k (topI (cvs s.nd) X.f0) = some ws
 h2 : wayS (cvs s.nd) t.ah t.rt k (topI (cvs s.nd) X.f1) = some us
 hla : ws.length ≤ 1000
 hlb : us.length ≤ 1000
 hws : ∀ n ∈ ws,inR n t.ah.length ∧ inR n s.nd.length
 hus : ∀ n ∈ us,inR n t.ah.length ∧ inR n s.nd.length
 hi : idxF ws us (ws.length + 1) 0 = some i
 hkk : spec_l08Place.f (us.length + 1) us (rd ws i) = some kk
 hk0 : 0 ≤ kk ∧ kk < us.length
 hr : upS t.ah us kk (us.length + 1) 0 (dnS t.ah ws (ws.length + 1) (i - 1) [rd ws i] []).1 ((dnS t.ah ws (ws.length + 1) (i - 1) [rd ws i] []).2 ++ [⟨X.f0,X.f1⟩]) = (ring,lk)
 hring : ∀ m ∈ ring,inR m s.nd.length
 e : s' = shrinkS s ring lk (rd ws i)
structure AugS (N : Int) (s : RI) (t : TI) (X : S51) (ws us : List Int) (k ko : Nat) (s' : RI) : Prop where
 hk : k ≤ 1000
 h1 : wayS (cvs s.nd) t.ah t.rt k (topI (cvs s.nd) X.f0) = some ws
 h2 : wayS (cvs s.nd) t.ah t.rt k (topI (cvs s.nd) X.f1) = some us
 hla : ws.length ≤ 1000
 hlb : us.length ≤ 1000
 hws : ∀ n ∈ ws,inR n t.lb.length ∧ inR n t.ah.length
 hus : ∀ n ∈ us,inR n t.lb.length ∧ inR n t.ah.length
 ho : OpenSR N s.nd.length ko { s with mt:=ahF t.lb t.ah us (ahF t.lb t.ah ws (wlF (cvs s.nd) us (wlF (cvs s.nd) ws s.mt) ++ [⟨X.f0,X.f1⟩])) } s'
def RoundS (N : Int) (es : List S51) (s s' : RI) : Prop :=
 GdS N es s ∧ ∃ (k : Nat) (T : TI) (r : Int),labelF N s.y (cvs s.nd) s.mt es k (startT s.nd s.mt) = some (T,r) ∧
  ((r < 0 ∧ AdjS N es s T.lb s') ∨
   (inR r es.length ∧
    ((rd T.rt (topI (cvs s.nd) (rd_T51 es r).f0) = rd T.rt (topI (cvs s.nd) (rd_T51 es r).f1) ∧ ∃ ws us i kk ring lk kw,ShrS s T (rd_T51 es r) ws us i kk ring lk kw s') ∨
    (rd T.rt (topI (cvs s.nd) (rd_T51 es r).f0) ≠ rd T.rt (topI (cvs s.nd) (rd_T51 es r).f1) ∧ ∃ ws us kw ko,AugS N s T (rd_T51 es r) ws us kw ko s'))))
set_option maxHeartbeats 8000000 in
set_option maxRecDepth 100000 in
theorem l10Round_calls {w0 W : World} {g : Nat} {N : Int} {Ae : Option Addr} {ce : Nat} {es : List (S51)} {s s' : RI} (hI : IsRn w0 W g N Ae ce es s) (h : RoundS N es s s') :
  Calls Try.prog 20 #[.pointer (some ⟨g,0,none⟩)] W fun e w'=>e = .returned (.tuple #[]) ∧ IsRn w0 w' g N Ae ce es s':=by
 obtain ⟨col,vy,vn,vm,hS⟩:=hI
 have hu39:=Try.underlying39
 have hu55:=Try.underlying55
 have hu77:=Try.underlying77
 have hu51:=Try.underlying51
 have hu29:=Try.underlying29
 have HS:=qy.mk hS
 clear hS
 have hu35:=Try.underlying35
 have hu68:=Try.underlying68
 obtain ⟨G,k,T,r,hl,h⟩:=h
 have HG:=qy.mk G
 have HN0 : qy (0 ≤ N):=⟨by have:=G.n;omega⟩
 have HLC:=qy.mk (l10Label_calls HS.out G.w G.m (by have:=G.sm;omega) G.sz G.o G.y HN0.out k T r hl)
 clear G hl
 go_enter Try.func20,Try.ntmps20
 go_upto_region 1 with (first|(go_at_call 26;refine HLC.out.mono ?_;rintro e_ w2 ⟨gt,col2,vl,va,vr,rfl,hT,hcol,hb,hlen⟩;have HT:=qy.mk hT;have HCL:=qy.mk hcol;have HB:=qy.mk hb;have HLN:=qy.mk hlen;clear hT hcol hb hlen))
 have HS2:=qy.mk ((HS.out.recol HCL.out).to HB.out)
 clear HLC HS HCL HB
 rcases h with ⟨hr,hA⟩|⟨hr,h⟩
 ·have HA:=qy.mk hA
  have cb : decide (r < 0) = true:=decide_eq_true hr
  clear hA hr
  have HAC:=qy.mk (l10Adjust_calls HS2.out HT.out HG.out.w HG.out.sz HG.out.o HG.out.y HG.out.n HG.out.nn HLN.out.1 HA.out.hp HA.out.hU)
  rw [← HA.out.e] at HAC
  go_wp2_with (first|(go_at_call 27;refine HAC.out.mono ?_;rintro e_ w3 ⟨rfl,hs⟩;have HS3:=qy.mk hs;clear hs))
  first|go_end0|((try simp only [Exit.inBlock,Exit.then]);refine bodyPost_ret (results_none rfl _ _ _) rfl ?_)
  exact ⟨rfl,HS3.out⟩
 have cb : decide (r < 0) = false:=decide_eq_false (by have:=hr.1;omega)
 have HR:=qy.mk hr
 have hc:=HS2.out.cells
 have HX:=qy.mk (HG.out.o r hr)
 obtain ⟨adE,e_,he0,he1,he2,he3,he4⟩:=at_T51 (Kd.C_below HS2.out.he HS2.out.hb) r hr.1 hr.2
 subst e_
 have pr:=eq_true hr.1
 have qr:=eq_true hr.2
 obtain ⟨X,hX⟩ : ∃ X,rd_T51 es r = X:=⟨_,rfl⟩
 rw [hX] at h he0 he1 he2 he3 he4 HX
 obtain ⟨A,hA⟩ : ∃ A,topI (cvs s.nd) X.f0 = A:=⟨_,rfl⟩
 obtain ⟨B,hB⟩ : ∃ B,topI (cvs s.nd) X.f1 = B:=⟨_,rfl⟩
 have HIA:=qy.mk (topI_in HG.out.w (by rw [cvs_len];exact HX.out.1))
 have HIB:=qy.mk (topI_in HG.out.w (by rw [cvs_len];exact HX.out.2))
 rw [hA,cvs_len] at HIA
 rw [hB,cvs_len] at HIB
 rw [hA,hB] at h
 have HTA:=qy.mk (fun (W' : World) (hh : Rn w0 W' (fun _=>False) w0 g N (some adE) ce es col2 vy vn vm s)=>l10Top_bl hh X.f0 HG.out.w HX.out.1)
 have HTB:=qy.mk (fun (W' : World) (hh : Rn w0 W' (fun _=>False) w0 g N (some adE) ce es col2 vy vn vm s)=>l10Top_bl hh X.f1 HG.out.w HX.out.2)
 simp only [hA] at HTA
 simp only [hB] at HTB
 clear hr hX hA hB
 go_upto_region 4 with fail
 have BXE : qy ((w2.alloc (.cells #[.int .i64 X.f0,.int .i64 X.f1,.int .i64 X.f2,.int .i64 X.f3,.int .i64 X.f4] 51)).heap[w2.heap.size]? = some (.cells #[.int .i64 X.f0,.int .i64 X.f1,.int .i64 X.f2,.int .i64 X.f3,.int .i64 X.f4] 51 (0,0))):=⟨blk_new w2 _⟩
 have HBE : qy (Below w2.heap.size w2 (w2.alloc (.cells #[.int .i64 X.f0,.int .i64 X.f1,.int .i64 X.f2,.int .i64 X.f3,.int .i64 X.f4] 51))):=⟨qo (Below.refl _ _) _⟩
 generalize w2.alloc (.cells #[.int .i64 X.f0,.int .i64 X.f1,.int .i64 X.f2,.int .i64 X.f3,.int .i64 X.f4] 51) = W3 at *
 have HS3:=qy.mk (HS2.out.to HBE.out)
 have HT3:=qy.mk (HT.out.to HBE.out)
 generalize w2.heap.size = ge at BXE ⊢
 clear hc he0 he1 he2 he3 he4 HBE HS2 HT
 have hct:=HT3.out.cells
 obtain ⟨Ar,cr,e_⟩:=Kd.R_slice HT3.out.rr
 subst e_
 obtain ⟨ar,e_,hrA⟩:=Kd.at_int (Kd.R_reads' HT3.out.rr).2.2 A HIA.out.1 (by rw [HLN.out.2.2];exact HIA.out.2)
 subst e_
 obtain ⟨_,e_,hrB⟩:=Kd.at_int (Kd.R_reads' HT3.out.rr).2.2 B HIB.out.1 (by rw [HLN.out.2.2];exact HIB.out.2)
 obtain rfl:=Option.some.inj e_
 have pA:=eq_true HIA.out.1
 have qA : (A < (T.rt.length : Int)) = True:=eq_true (by rw [HLN.out.2.2];exact HIA.out.2)
 have pB:=eq_true HIB.out.1
 have qB : (B < (T.rt.length : Int)) = True:=eq_true (by rw [HLN.out.2.2];exact HIB.out.2)
 refine start_ (n:=21) (S:=fun w'=>w'.cell? ⟨gt,2,none⟩ = some (.slice (some ar) T.rt.length cr) ∧ w'.cell? (ar.add A.toNat) = some (.int .i64 (rd T.rt A)) ∧ w'.cell? (ar.add B.toNat) = some (.int .i64 (rd T.rt B)) ∧ w'.cell? ⟨ge,0,none⟩ = some (.int .i64 X.f0) ∧ w'.cell? ⟨ge,1,none⟩ = some (.int .i64 X.f1)) (ds:=[]) (Array.replicate 21 false) (by kernel_rfl) rfl rfl ⟨hct.2.2,hrA,hrB,(qq BXE.out 0).trans rfl,(qq BXE.out 1).trans rfl⟩ (fun hHeld=>?_)
 refine pa_ 0 23 (bz_ 21 1) ?_
 refine pa_ 1 24 (bz_ 21 3) ?_
 refine pa_ 2 25 (bz_ 21 7) ?_
 refine pa_ 4 27 (bz_ 21 23) ?_
 refine pa_ 5 28 (bz_ 21 55) ?_
 refine pa_ 10 33 (bz_ 21 1079) ?_
 refine pa_ 11 34 (bz_ 21 3127) ?_
 refine pa_ 12 35 (bz_ 21 7223) ?_
 refine pa_ 14 37 (bz_ 21 23607) ?_
 refine pa_ 15 38 (bz_ 21 56375) ?_
 refine ta_ 3 26 (bz_ 21 56383) hHeld (hy:=Or.inl ⟨by rfl,by rintro w' ⟨s0,s1,s2,s3,s4⟩;go_simp;with_reducible rfl⟩) (h:=?_)
 refine ta_ 6 29 (bz_ 21 56447) hHeld (hy:=Or.inl ⟨by rfl,by rintro w' ⟨s0,s1,s2,s3,s4⟩;go_simp;with_reducible rfl⟩) (h:=?_)
 refine ta_ 13 36 (bz_ 21 64639) hHeld (hy:=Or.inl ⟨by rfl,by rintro w' ⟨s0,s1,s2,s3,s4⟩;go_simp;with_reducible rfl⟩) (h:=?_)
 refine ta_ 16 39 (bz_ 21 130175) hHeld (hy:=Or.inl ⟨by rfl,by rintro w' ⟨s0,s1,s2,s3,s4⟩;go_simp;with_reducible rfl⟩) (h:=?_)
 refine one_ (i:=7) (N:=some 30) (bz_ 21 130303) rfl rfl (by kernel_rfl) (by decide) (fun K hK=>?_)
 refine goes_ Try.func28 (by kernel_rfl) rfl #[.pointer (some ⟨g,0,none⟩),.int .i64 X.f0] (by rfl) rfl rfl (by simp only [List.map_toArray,List.map_cons,List.map_nil];rfl) ?_
 refine (HTA.out _ (HS3.out.to (qh (Below.refl _ _)))).mono ?_
 rintro e_ wc1 ⟨rfl,hb⟩
 have HBa:=qy.mk (qx (qh (Below.refl _ W3)) hb)
 refine ⟨_,rfl,?_⟩
 refine hK.out _ _ ⟨pw_cell_below hb hHeld.1,pw_cell_below hb hHeld.2.1,pw_cell_below hb hHeld.2.2.1,pw_cell_below hb hHeld.2.2.2.1,pw_cell_below hb hHeld.2.2.2.2⟩ (fun hHeld=>?_)
 clear hK K
 refine norm_ (a':=?_) ?_ ?_
 rotate_left
 ·show Act.put _ (some 30) _ = _
  simp only [Act.put,List.setIfInBounds_toArray,List.set_cons_zero,List.set_cons_succ,i64_w,i32_w]
  rfl
 refine pa_ 8 31 (bz_ 21 130559) ?_
 refine ta_ 9 32 (bz_ 21 131071) hHeld (hy:=Or.inl ⟨by rfl,by rintro w' ⟨s0,s1,s2,s3,s4⟩;go_simp;with_reducible rfl⟩) (h:=?_)
 refine one_ (i:=17) (N:=some 40) (bz_ 21 262143) rfl rfl (by kernel_rfl) (by decide) (fun K hK=>?_)
 refine goes_ Try.func28 (by kernel_rfl) rfl #[.pointer (some ⟨g,0,none⟩),.int .i64 X.f1] (by rfl) rfl rfl (by simp only [List.map_toArray,List.map_cons,List.map_nil];rfl) ?_
 refine (HTB.out _ (HS3.out.to HBa.out)).mono ?_
 rintro e_ wc2 ⟨rfl,hb⟩
 have HB4:=qy.mk (qx HBa.out hb)
 refine ⟨_,rfl,?_⟩
 refine hK.out _ _ ⟨pw_cell_below hb hHeld.1,pw_cell_below hb hHeld.2.1,pw_cell_below hb hHeld.2.2.1,pw_cell_below hb hHeld.2.2.2.1,pw_cell_below hb hHeld.2.2.2.2⟩ (fun hHeld=>?_)
 clear hK K
 refine norm_ (a':=?_) ?_ ?_
 rotate_left
 ·show Act.put _ (some 40) _ = _
  simp only [Act.put,List.setIfInBounds_toArray,List.set_cons_zero,List.set_cons_succ,i64_w,i32_w]
  rfl
 refine pa_ 18 41 (bz_ 21 524287) ?_
 refine ta_ 19 42 (bz_ 21 1048575) hHeld (hy:=Or.inl ⟨by rfl,by rintro w' ⟨s0,s1,s2,s3,s4⟩;go_simp;with_reducible rfl⟩) (h:=?_)
 refine pa_ 20 43 (bz_ 21 2097151) ?_
 refine done_ (by kernel_rfl) ?_
 have BX4:=qy.mk (qw BXE.out HB4.out)
 have HS4:=qy.mk (HS3.out.to HB4.out)
 have HT4:=qy.mk (HT3.out.to HB4.out)
 clear hHeld BXE HS3 HT3 HB4 hct hrA hrB HTA HTB HBa
 have hb0 : wc2.cell? ⟨ge,0,none⟩ = some (.int .i64 X.f0):=(qq BX4.out 0).trans rfl
 have hb1 : wc2.cell? ⟨ge,1,none⟩ = some (.int .i64 X.f1):=(qq BX4.out 1).trans rfl
 have hb2 : wc2.cell? ⟨ge,2,none⟩ = some (.int .i64 X.f2):=(qq BX4.out 2).trans rfl
 have hb3 : wc2.cell? ⟨ge,3,none⟩ = some (.int .i64 X.f3):=(qq BX4.out 3).trans rfl
 have hb4 : wc2.cell? ⟨ge,4,none⟩ = some (.int .i64 X.f4):=(qq BX4.out 4).trans rfl
 rcases h with ⟨hrt,ws,us,i,kk,ring,lk,kw,hs⟩|⟨hrt,ws,us,kw,ko,hs⟩
 ·have cb2 : (rd T.rt A == rd T.rt B) = true:=by simpa using hrt
  have HH:=qy.mk (l10Shrink_calls HS4.out HT4.out HG.out.w HG.out.m HG.out.sm HG.out.sz X HX.out.1 HX.out.2 kw hs.hk ws us hs.h1 hs.h2 hs.hla hs.hlb hs.hws hs.hus i kk hs.hi hs.hkk hs.hk0 ring lk hs.hr hs.hring)
  rw [← hs.e] at HH
  clear hrt hs
  go_wp2_with (first|(go_at_call 29;refine HH.out.mono ?_;rintro e_ w3 ⟨rfl,hs⟩;have HS5:=qy.mk hs;clear hs))
  first|go_end0|((try simp only [Exit.inBlock,Exit.then]);refine bodyPost_ret (results_none rfl _ _ _) rfl ?_)
  exact ⟨rfl,HS5.out⟩
 have cb2 : (rd T.rt A == rd T.rt B) = false:=by simpa using hrt
 have HH:=qy.mk (l10Augment_calls HS4.out HT4.out HG.out.w HG.out.m HG.out.sm HG.out.sz HN0.out X HX.out.1 HX.out.2 kw ko hs.hk ws us hs.h1 hs.h2 hs.hla hs.hlb hs.hws hs.hus s' hs.ho)
 clear hrt hs
 go_wp2_with (first|(go_at_call 30;refine HH.out.mono ?_;rintro e_ w3 ⟨rfl,hs⟩;have HS5:=qy.mk hs;clear hs))
 first|go_end0|((try simp only [Exit.inBlock,Exit.then]);refine bodyPost_ret (results_none rfl _ _ _) rfl ?_)
 exact ⟨rfl,HS5.out⟩
end Go.Proofs.Ytnffimpoekjkpaa.QFnExactRounds
