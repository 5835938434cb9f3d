/- The reference's l10Solve and Rounds. -/
import Derived.Test.YtnffimpoekjkpaaZFnExactRoundsx63
import Derived.Test.YtnffimpoekjkpaaZFnExactRoundsx32
namespace Go.Proofs.Ytnffimpoekjkpaa.QFnExactRounds
open Go.RowKit Go.Proofs.YtnffimpoekjkpaaW.PrintWords Go.Proofs.YtnffimpoekjkpaaW.PrintLast Go.Proofs.YtnffimpoekjkpaaW.PrintMore
attribute [local go_sem] max2_int min2_int max_two min_two max_three min_three max_four min_four
set_option linter.unusedVariables false
set_option linter.unusedSimpArgs false
def newNS (v : Int) : S55:=⟨[],[],v,0,-1,false⟩
def newS (N : Int) (es : List (S51)) : RI:=⟨List.replicate N.toNat (mostI es),(List.range N.toNat).map fun (v : Nat)=>newNS (v : Int),[],0,false⟩
inductive RunSR (N : Int) (es : List S51) : Nat → RI → RI → Prop
 | stop {s : RI} (h : ¬(s.rn < 20000 ∧ s.dn = false)) : RunSR N es 1 s s
 | more {k : Nat} {s s1 s' : RI} (h1 : s.rn < 20000) (h0 : 0 ≤ s.rn) (h2 : s.dn = false) (h : RoundS N es { s with rn:=s.rn + 1 } s1) (rest : RunSR N es k s1 s') : RunSR N es (k + 1) s s'
theorem rep_set (a b : Int) (i k : Nat) : (List.replicate i a ++ List.replicate (k + 1) b).set i a = List.replicate (i + 1) a ++ List.replicate k b:=by
 rw [List.set_append_right _ _ (by simp),List.length_replicate,Nat.sub_self,List.replicate_succ,List.set_cons_zero,List.replicate_succ',List.append_assoc]
 rfl
set_option maxHeartbeats 8000000 in
set_option maxRecDepth 100000 in
theorem l10Solve_calls (w : World) (N : Int) (Ae : Option Addr) (ce : Nat) (es : List (S51)) (hC : Kd.C k51 w Ae es.length es) (hec : es.length ≤ ce) (hN : 0 ≤ N ∧ N ≤ 1000) (kr : Nat) (s' : RI) (hr : RunSR N es kr (newS N es) s') :
  Calls Try.prog 11 #[.agg #[.int .i64 N,.slice Ae es.length ce]] w fun e w'=>∃ g,e = .returned (.pointer (some ⟨g,0,none⟩)) ∧ IsRn w w' g N Ae ce es s':=by
 have hu39:=Try.underlying39
 have hu55:=Try.underlying55
 have hu51:=Try.underlying51
 have hu29:=Try.underlying29
 have hu35:=Try.underlying35
 have hu36:=Try.underlying36
 have HC:=qy.mk hC
 have HEC:=qy.mk hec
 have HN:=qy.mk hN
 have HM:=qy.mk (Kd.C_max hC)
 have HR:=qy.mk hr
 have H0:=qy.mk hN
 obtain ⟨n,hn⟩:=Int.eq_ofNat_of_zero_le hN.1
 have HNT : qy (N.toNat = n):=⟨by rw [hn];rfl⟩
 have HNE:=qy.mk hn
 clear hC hec hN hr hn
 go_enter Try.func11,Try.ntmps11
 go_upto_region 1 with fail
 have BX1 : qy ((w.alloc (.cells #[.int .i64 N,.slice Ae es.length ce] 29)).heap[w.heap.size]? = some (.cells #[.int .i64 N,.slice Ae es.length ce] 29 (0,0))):=⟨blk_new w _⟩
 have HB1 : qy (Below w.heap.size w (w.alloc (.cells #[.int .i64 N,.slice Ae es.length ce] 29))):=⟨qo (Below.refl _ _) _⟩
 generalize w.alloc (.cells #[.int .i64 N,.slice Ae es.length ce] 29) = W1 at *
 have hb0 : W1.cell? ⟨w.heap.size,0,none⟩ = some (.int .i64 N):=(qq BX1.out 0).trans rfl
 have hb1 : W1.cell? ⟨w.heap.size,1,none⟩ = some (.slice Ae es.length ce):=(qq BX1.out 1).trans rfl
 refine start_ (n:=7) (S:=fun w'=>w'.cell? ⟨w.heap.size,0,none⟩ = some (.int .i64 N) ∧ w'.cell? ⟨w.heap.size,1,none⟩ = some (.slice Ae es.length ce)) (ds:=[5]) (Array.replicate 7 false) (by kernel_rfl) rfl rfl ⟨hb0,hb1⟩ (fun hHeld=>?_)
 refine pa_ 1 8 (bz_ 7 2) ?_
 refine ta_ 0 7 (bz_ 7 3) hHeld (hy:=Or.inl ⟨by rfl,by rintro w' ⟨s0,s1⟩;go_simp;with_reducible rfl⟩) (h:=?_)
 refine ta_ 2 9 (bz_ 7 7) hHeld (hy:=Or.inl ⟨by rfl,by rintro w' ⟨s0,s1⟩;go_simp;with_reducible rfl⟩) (h:=?_)
 refine one_ (i:=3) (N:=some 10) (bz_ 7 15) rfl rfl (by kernel_rfl) (by decide) (fun K hK=>?_)
 refine Kd.R_make_step (Kd.int .i64) _ 3 (by rfl) (N:=10) rfl 35 _ _ rfl N (by rfl) (by rfl) Try.underlying35 (.int .i64 0) 8 info3 rfl (by decide) (by omega) 0 (ok:=fun _=>True) (okp:=fun _=>True) rfl (fun _ hk=>hk) trivial (by have:=H0.out.1;omega) (by have:=H0.out;omega) (Below.refl _ _) (Nat.le_refl _) ?_
 intro vy0 wm ho hb _ _
 rw [HNT.out] at ho
 obtain ⟨Ay,cy,e_⟩:=Kd.R_slice ho
 rw [List.length_replicate] at e_
 subst e_
 have HRY:=qy.mk ho
 have HBM:=qy.mk hb
 clear ho
 refine hK.out _ _ ⟨pw_cell_below hb hHeld.1,pw_cell_below hb hHeld.2⟩ (fun hHeld=>?_)
 clear hK K
 refine norm_ (a':=?_) ?_ ?_
 rotate_left
 ·show Act.put _ (some 10) _ = _
  simp only [Act.put,List.setIfInBounds_toArray,List.set_cons_zero,List.set_cons_succ,i64_w,i32_w]
  rfl
 refine pa_ 4 11 (bz_ 7 31) ?_
 refine last_ (i:=5) (N:=some 12) (bz_ 7 63) rfl rfl (by kernel_rfl) (by decide) (fun K hK=>?_)
 refine value_ (w1:=?_) (v:=?_) (by rfl) rfl ?_ ?_
 rotate_left 2
 ·go_simp
  constructor
  ·rfl
  rfl
 refine hK.out _ _ ?_
 clear hK K
 refine norm_ (a':=?_) ?_ ?_
 rotate_left
 ·show Act.put _ (some 12) _ = _
  simp only [Act.put,List.setIfInBounds_toArray,List.set_cons_zero,List.set_cons_succ,i64_w,i32_w]
  rfl
 refine pa_ 6 3 (bz_ 7 127) ?_
 refine done_ (by kernel_rfl) ?_
 have BXS : qy ((wm.alloc (.cells #[.int .i64 N,.slice Ae es.length ce,.slice Ay n cy,.slice none 0 0,.slice none 0 0,.int .i64 0,.bool false] 39)).heap[wm.heap.size]? = some (.cells #[.int .i64 N,.slice Ae es.length ce,.slice Ay n cy,.slice none 0 0,.slice none 0 0,.int .i64 0,.bool false] 39 (0,0))):=⟨blk_new wm _⟩
 have HBS : qy (Below wm.heap.size wm (wm.alloc (.cells #[.int .i64 N,.slice Ae es.length ce,.slice Ay n cy,.slice none 0 0,.slice none 0 0,.int .i64 0,.bool false] 39))):=⟨qo (Below.refl _ _) _⟩
 generalize wm.alloc (.cells #[.int .i64 N,.slice Ae es.length ce,.slice Ay n cy,.slice none 0 0,.slice none 0 0,.int .i64 0,.bool false] 39) = W5 at *
 have HB5:=qy.mk (qx HB1.out (qx (qh (Below.refl _ _)) (qx HBM.out HBS.out)))
 have HGS : qy (w.heap.size ≤ wm.heap.size):=⟨(qx HB1.out (qx (qh (Below.refl _ _)) HBM.out)).size⟩
 have HS0 : qy (RnF w W5 wm.heap.size N Ae ce es (fun _=>1) (.slice Ay n cy) (.slice none 0 0) (.slice none 0 0) ⟨List.replicate n 0,[],[],0,false⟩) :=
  ⟨⟨BXS.out,HGS.out,HB5.out,HC.out,HEC.out,Kd.R_lower (Kd.R_mono (Kd.R_below HRY.out HBS.out) (fun _ _=>rfl)) (qx HB1.out (qh (Below.refl _ _))).size,Kd.R_nil _ _ _ _ _,Kd.R_nil _ _ _ _ _,fun _ h=>h.elim⟩⟩
 have BX5:=qy.mk (qw BX1.out (qx (qh (Below.refl _ _)) (qx HBM.out HBS.out)))
 clear hHeld hb0 hb1 HRY HBM HBS BXS HGS hb HB1 BX1
 generalize wm.heap.size = g at HS0 ⊢
 obtain ⟨mm,hmm⟩ : ∃ mm,mostI es = mm:=⟨_,rfl⟩
 have HMM:=qy.mk hmm
 have HT:=qy.mk hmm
 clear hmm
 have HSCC:=qy.mk (fun (X : S51) (W' : World)=>spec_Scalar.calls X.f0 X.f1 X.f2 X.f3 X.f4 (scI X) W' rfl)
 go_wp2_with fail
 go_loopg [4,5] (es.length + 1) (fun kq v4 v5 w'=>∃ m i : Int,v4 = .int .i64 m ∧ v5 = .int .i64 i ∧ qy (0 ≤ i ∧ i + kq = es.length + 1 ∧ i ≤ es.length) ∧ qy (mostF es kq i m = mm) ∧ qy (Below W5.heap.size W5 w'))
 case atStart=>exact ⟨0,0,rfl,rfl,⟨by omega,by omega,by omega⟩,HT,⟨Below.refl _ _⟩⟩
 clear HT
 obtain ⟨m,i,rfl,rfl,HI,HT,HB⟩:=hrel
 have BXr:=qy.mk (qw BX5.out HB.out)
 have hb0 : wr.cell? ⟨w.heap.size,0,none⟩ = some (.int .i64 N):=(qq BXr.out 0).trans rfl
 have hb1 : wr.cell? ⟨w.heap.size,1,none⟩ = some (.slice Ae es.length ce):=(qq BXr.out 1).trans rfl
 cases gk with
 | zero =>
  exfalso
  have h1:=HI.out
  omega
 | succ k1 =>
  have h:=HT.out
  clear HT
  rw [mostF] at h
  by_cases c : i < (es.length : Int)
  ·rw [if_pos c] at h
   have hi0:=HI.out.1
   have HIL:=qy.mk c
   have cl0 : decide (i < (es.length : Int)) = true:=decide_eq_true c
   obtain ⟨adE,e_,he0,he1,he2,he3,he4⟩:=at_T51 (Kd.C_below HC.out (qx HB5.out HB.out)) i hi0 c
   subst e_
   have pi:=eq_true hi0
   have qi:=eq_true c
   have hi1 : wrap64 (i + 1) = i + 1:=w64 (by omega) (by have:=HM.out;omega)
   obtain ⟨X,hX⟩ : ∃ X,rd_T51 es i = X:=⟨_,rfl⟩
   rw [hX] at h he0 he1 he2 he3 he4
   have HXE:=qy.mk hX
   clear c hX
   by_cases cm : scI X > m
   ·have cb : decide (scI X > m) = true:=decide_eq_true cm
    rw [show max m (scI X) = scI X by omega] at h
    have HT:=qy.mk h
    clear h cm
    go_upto_region 7 with (first|(go_at_call 19;refine (HSCC.out X _).mono ?_;rintro e w3 ⟨rfl,hb⟩;have HB3:=qy.mk (qx HB.out hb);clear hb))
    clear hb0 hb1 he0 he1 he2 he3 he4
    have BX3:=qy.mk (qw BX5.out HB3.out)
    have hb1 : w3.cell? ⟨w.heap.size,1,none⟩ = some (.slice (some adE) es.length ce):=(qq BX3.out 1).trans rfl
    obtain ⟨_,e_,he0,he1,he2,he3,he4⟩:=at_T51 (Kd.C_below HC.out (qx HB5.out HB3.out)) i hi0 HIL.out
    obtain rfl:=Option.some.inj e_
    rw [HXE.out] at he0 he1 he2 he3 he4
    go_wp2_with (first|(go_at_call 19;refine (HSCC.out X _).mono ?_;rintro e w4 ⟨rfl,hb⟩;have HB4:=qy.mk (qx HB3.out hb);clear hb))
    go_roundg k1
    case measure=>omega
    case rel=>exact ⟨_,i + 1,rfl,by first|rfl|rw [hi1],⟨by omega,by have:=HI.out;omega,by have:=HIL.out;omega⟩,HT,HB4⟩
   have cb : decide (scI X > m) = false:=decide_eq_false cm
   rw [show max m (scI X) = m by omega] at h
   have HT:=qy.mk h
   clear h cm
   go_wp2_with (first|(go_at_call 19;refine (HSCC.out X _).mono ?_;rintro e w3 ⟨rfl,hb⟩;have HB3:=qy.mk (qx HB.out hb);clear hb))
   go_roundg k1
   case measure=>omega
   case rel=>exact ⟨m,i + 1,rfl,by first|rfl|rw [hi1],⟨by omega,by have:=HI.out;omega,by have:=HIL.out;omega⟩,HT,HB3⟩
  rw [if_neg c] at h
  subst h
  have cl0 : decide (i < (es.length : Int)) = false:=decide_eq_false c
  have HS5:=qy.mk (HS0.out.to HB.out)
  clear c HI HS0 HSCC HM
  go_wp2_with fail
  go_loopg [6] (n + 1) (fun kq v6 w'=>∃ (i : Nat) (col : Nat → Nat) (vn : Value),v6 = .int .i64 (i : Int) ∧ qy (i + kq = n + 1 ∧ i ≤ n) ∧ qy (RnF w w' g N Ae ce es col (.slice Ay n cy) vn (.slice none 0 0) ⟨List.replicate i m ++ List.replicate (n - i) 0,(List.range i).map fun (v : Nat)=>newNS (v : Int),[],0,false⟩) ∧ qy (w'.heap[w.heap.size]? = some (.cells #[.int .i64 N,.slice Ae es.length ce] 29 (0,0))))
  case atStart=>exact ⟨0,_,_,rfl,⟨by omega,by omega⟩,HS5,BXr⟩
  clear HS5 hb0 hb1 BXr HB
  obtain ⟨j,col,vn,rfl,HI,HS,BXr⟩:=hrel
  have hb0 : wr.cell? ⟨w.heap.size,0,none⟩ = some (.int .i64 N):=(qq BXr.out 0).trans rfl
  cases gk with
  | zero =>
   exfalso
   have h1:=HI.out
   omega
  | succ k1 =>
   by_cases c : (j : Int) < N
   ·have cl1 : decide ((j : Int) < N) = true:=decide_eq_true c
    have HIL:=qy.mk c
    obtain ⟨d,hd⟩ : ∃ d,n - j = d + 1:=⟨n - j - 1,by have:=HNE.out;omega⟩
    have HD1:=qy.mk hd
    have hyl : (List.replicate j m ++ List.replicate (n - j) (0 : Int)).length = n:=by rw [List.length_append,List.length_replicate,List.length_replicate];have:=HI.out;omega
    obtain ⟨by_,_,e_,-⟩:=row_at HS.out.ry (by show 0 < (List.replicate j m ++ List.replicate (n - j) (0 : Int)).length;rw [hyl];have:=HNE.out;omega)
    injection e_ with e_ e2_ e3_
    clear e2_ e3_
    subst e_
    obtain ⟨An,cn,e_⟩:=Kd.R_slice HS.out.rn
    change vn = .slice An ((List.range j).map fun (v : Nat)=>newNS (v : Int)).length cn at e_
    rw [List.length_map,List.length_range] at e_
    subst e_
    have hc:=HS.out.cells
    have p1 : (0 ≤ (j : Int)) = True:=eq_true (by omega)
    have q1 : ((j : Int) < ((n : Nat) : Int)) = True:=eq_true (by have:=HNE.out;omega)
    have q1' : (j < n) = True:=eq_true (by have:=HNE.out;omega)
    have hw1 : wrap64 ((j : Int) + 1) = ((j + 1 : Nat) : Int):=by rw [w64 (by omega) (by have:=HN.out;omega)];omega
    obtain ⟨gx1,gf1⟩:=int_at HS.out.ry (j : Int) (by omega) (by show (j : Int) < ((List.replicate j m ++ List.replicate (n - j) (0 : Int)).length : Nat);rw [hyl];have:=HNE.out;omega)
    rw [Int.toNat_natCast] at gx1 gf1
    have HS1:=qy.mk (HS.out.sy (j : Int) m)
    obtain ⟨dsy,hdy⟩:=row_blk HS.out.ry
    have HDY:=qy.mk hdy
    clear c hd hyl hdy
    go_upto_region 12 with fail
    clear gx1 gf1 hc HS hb0
    rw [Int.toNat_natCast,HD1.out,rep_set] at HS1
    have BX6:=qy.mk (far_blk (b:=by_) (o:=j) (x:=.int .i64 m) BXr.out HDY.out (by decide))
    generalize World.setCell _ _ _ = w6 at HS1 BX6 ⊢
    have HS4:=qy.mk (HS1.out.ahead 2)
    have hc:=HS1.out.cells
    have HBW : qy (w.heap.size < w6.heap.size):=⟨blk_lt BX6.out⟩
    go_wp2_with (first|((with_reducible refine gate_builtin (b:=.append) (xs:=#[.tmp 51,.tmp 54]) rfl ?_);at_builtin;refine Kd.R_append k55 (w0:=w) (W:=w6) w.heap.size rfl (.tmp 51) (.tmp 54) 36 55 (.agg #[.slice none 0 0,.slice none 0 0,.int .i64 0,.int .i64 0,.int .i64 0,.bool false]) 80 rfl Try.underlying36 info55 rfl (by decide) (by omega) _ ((List.range j).map fun (v : Nat)=>newNS (v : Int)) (newNS (j : Int)) [.slice none 0 0,.slice none 0 0,.int .i64 (j : Int),.int .i64 0,.int .i64 (-1),.bool false] (fun k=>(if w6.heap.size ≤ k then 2 else col k) = 2) (fun _=>False) rfl rfl (k55_mkM _ _ _ (newNS (j : Int)) (Kd.R_nil _ _ _ _ _) (Kd.R_nil _ _ _ _ _)) (fun _ hk=>hk.elim) (fun k hk=>by rw [if_pos hk]) HS4.out.rn HS4.out.hb HS4.out.hb.size (by rw [List.length_map,List.length_range];have:=HIL.out;have:=HN.out;omega) ?_;intro v9 w9 ho hb hg hat;obtain ⟨A9,c9,e_⟩:=Kd.R_slice ho;rw [List.length_append,List.length_map,List.length_range,List.length_singleton] at e_;subst e_;obtain ⟨hs5,hx5,hf5⟩:=Rn.app_n HS4.out ho hb hg;have HS5:=qy.mk hs5;have BX7:=qy.mk (blk_grown BX6.out hg (Kd.R_ne HS4.out.rn BX6.out (by decide)));have BX8 : qy ((w9.setCell ⟨g,3,none⟩ (.slice A9 (j + 1) c9)).heap[w.heap.size]? = some (.cells #[.int .i64 N,.slice Ae es.length ce] 29 (0,0))):=⟨far_blk BX7.out (blk_grown HS4.out.blk hg (Kd.R_ne HS4.out.rn HS4.out.blk (by decide))) (by decide)⟩;clear hs5 ho hb hg hat))
    go_roundg k1
    case measure=>omega
    have hyy : List.replicate (j + 1) m ++ List.replicate (n - (j + 1)) (0 : Int) = List.replicate (j + 1) m ++ List.replicate d 0:=by rw [show n - (j + 1) = d by have:=HD1.out;omega]
    have hnn : (List.range (j + 1)).map (fun (v : Nat)=>newNS (v : Int)) = (List.range j).map (fun (v : Nat)=>newNS (v : Int)) ++ [newNS (j : Int)]:=by rw [List.range_succ,List.map_append];rfl
    refine ⟨j + 1,(fun k=>if w6.heap.size ≤ k then 2 else col k),.slice A9 (j + 1) c9,by first|rw [hw1]|(simp;done)|rfl,⟨by have:=HI.out;omega,by have:=HIL.out;have:=HNE.out;omega⟩,⟨?_⟩,BX8⟩
    rw [hyy,hnn]
    exact HS5.out
   have cl1 : decide ((j : Int) < N) = false:=decide_eq_false c
   go_wp2_with fail
   have hj : j = n:=by have:=HI.out;have:=HN.out;have:=HNE.out;omega
   subst hj
   have HS5 : qy (IsRn w wr g N Ae ce es (newS N es)):=⟨by
    have h:=HS.out.is
    rw [Nat.sub_self,List.replicate_zero,List.append_nil] at h
    rw [newS,HMM.out,HNT.out]
    exact h⟩
   clear c HI hb0 BXr HS cl1
   go_loopg [] kr (fun kq w'=>∃ s : RI,qy (RunSR N es kq s s') ∧ qy (IsRn w w' g N Ae ce es s))
   case atStart=>exact ⟨_,HR,HS5⟩
   clear HR HS5
   obtain ⟨s,HR,HIS⟩:=hrel
   have h:=HR.out
   clear HR
   obtain ⟨col1,vy1,vn1,vm1,hS⟩:=HIS.out
   have HS:=qy.mk hS
   have hc5:=HS.out.cells.2.2.2.2.2.1
   have hc6:=HS.out.cells.2.2.2.2.2.2
   clear hS
   cases h with
   | stop h =>
    by_cases c1 : s'.rn < 20000
    ·have cb1 : decide (s'.rn < 20000) = true:=decide_eq_true c1
     cases hd : s'.dn with
     | false=>exact absurd ⟨c1,hd⟩ h
     | true =>
      rw [hd] at hc6
      clear h c1 hd
      go_wp2_with fail
      go_ret
      exact ⟨g,rfl,HIS.out⟩
    have cb1 : decide (s'.rn < 20000) = false:=decide_eq_false c1
    clear h c1
    go_wp2_with fail
    go_ret
    exact ⟨g,rfl,HIS.out⟩
   | @more kk _ s1 _ h1 h0 h2 hRnd rest =>
    have HRn:=qy.mk hRnd
    have HR:=qy.mk rest
    have cb1 : decide (s.rn < 20000) = true:=decide_eq_true h1
    rw [h2] at hc6
    have hw1 : wrap64 (s.rn + 1) = s.rn + 1:=w64 (by omega) (by omega)
    have hf5:=HS.out.frz.2.2.2.1
    have HS6:=qy.mk (HS.out.fr (s.rn + 1)).is
    clear h1 h0 h2 hRnd rest
    go_upto_region 15 with fail
    clear hc5 hc6 hf5 HS HIS hw1
    generalize World.setCell _ _ _ = w8 at HS6 ⊢
    go_wp2_with (first|(go_at_call 20;refine (l10Round_calls HS6.out HRn.out).mono ?_;rintro e_ w9 ⟨rfl,hs⟩;have HS7:=qy.mk hs;clear hs))
    go_roundg kk
    case measure=>omega
    case rel=>exact ⟨_,HR,HS7⟩
set_option maxHeartbeats 8000000 in
set_option maxRecDepth 100000 in
theorem spec_Rounds_no (w : World) (N : Int) (Ae : Option Addr) (ce : Nat) (es : List (S51)) (hC : Kd.C k51 w Ae es.length es) (hec : es.length ≤ ce) (k : Nat) (h : spec_GraphOk.f k N es = some false) :
  Calls Try.prog 5 #[.agg #[.int .i64 N,.slice Ae es.length ce]] w fun e w'=>e = .returned (.int .i64 (-1)) ∧ Below w.heap.size w w':=by
 have hu29:=Try.underlying29
 have HC:=qy.mk hC
 have HEC:=qy.mk hec
 have HG:=qy.mk h
 clear hC hec h
 go_enter Try.func5,Try.ntmps5
 go_upto_region 1 with fail
 have BX1 : qy ((w.alloc (.cells #[.int .i64 N,.slice Ae es.length ce] 29)).heap[w.heap.size]? = some (.cells #[.int .i64 N,.slice Ae es.length ce] 29 (0,0))):=⟨blk_new w _⟩
 have HB1 : qy (Below w.heap.size w (w.alloc (.cells #[.int .i64 N,.slice Ae es.length ce] 29))):=⟨qo (Below.refl _ _) _⟩
 generalize w.alloc (.cells #[.int .i64 N,.slice Ae es.length ce] 29) = W1 at *
 generalize hgb : w.heap.size = gb at BX1 ⊢
 have hb0 : W1.cell? ⟨gb,0,none⟩ = some (.int .i64 N):=(qq BX1.out 0).trans rfl
 have hb1 : W1.cell? ⟨gb,1,none⟩ = some (.slice Ae es.length ce):=(qq BX1.out 1).trans rfl
 go_wp2_with (first|(go_at_call 10;refine (spec_GraphOk.calls k N Ae ce es false W1 (Kd.C_below HC.out HB1.out) HEC.out HG.out).mono ?_;rintro e w2 ⟨rfl,hb⟩;have HB2:=qy.mk (qx HB1.out hb);clear hb))
 go_ret
 subst hgb
 exact ⟨rfl,HB2.out⟩
set_option maxHeartbeats 8000000 in
set_option maxRecDepth 100000 in
theorem spec_Rounds_yes (w : World) (N : Int) (Ae : Option Addr) (ce : Nat) (es : List (S51)) (hC : Kd.C k51 w Ae es.length es) (hec : es.length ≤ ce) (k : Nat) (h : spec_GraphOk.f k N es = some true) (hN : 0 ≤ N ∧ N ≤ 1000) (kr : Nat) (s' : RI) (hr : RunSR N es kr (newS N es) s') :
  Calls Try.prog 5 #[.agg #[.int .i64 N,.slice Ae es.length ce]] w fun e w'=>e = .returned (.int .i64 s'.rn) ∧ Below w.heap.size w w':=by
 have hu29:=Try.underlying29
 have hu39:=Try.underlying39
 have HC:=qy.mk hC
 have HEC:=qy.mk hec
 have HG:=qy.mk h
 have HN:=qy.mk hN
 have HR:=qy.mk hr
 clear hC hec h hN hr
 go_enter Try.func5,Try.ntmps5
 go_upto_region 1 with fail
 have BX1 : qy ((w.alloc (.cells #[.int .i64 N,.slice Ae es.length ce] 29)).heap[w.heap.size]? = some (.cells #[.int .i64 N,.slice Ae es.length ce] 29 (0,0))):=⟨blk_new w _⟩
 have HB1 : qy (Below w.heap.size w (w.alloc (.cells #[.int .i64 N,.slice Ae es.length ce] 29))):=⟨qo (Below.refl _ _) _⟩
 generalize w.alloc (.cells #[.int .i64 N,.slice Ae es.length ce] 29) = W1 at *
 generalize hgb : w.heap.size = gb at BX1 ⊢
 have hb0 : W1.cell? ⟨gb,0,none⟩ = some (.int .i64 N):=(qq BX1.out 0).trans rfl
 have hb1 : W1.cell? ⟨gb,1,none⟩ = some (.slice Ae es.length ce):=(qq BX1.out 1).trans rfl
 go_upto_region 3 with (first|(go_at_call 10;refine (spec_GraphOk.calls k N Ae ce es true W1 (Kd.C_below HC.out HB1.out) HEC.out HG.out).mono ?_;rintro e w2 ⟨rfl,hb⟩;have BX2:=qy.mk (qw BX1.out (Below.mono hb (by have:=blk_lt BX1.out;omega)));have HB2:=qy.mk (qx HB1.out hb);clear hb))
 clear hb0 hb1
 subst hgb
 have hb0 : w2.cell? ⟨w.heap.size,0,none⟩ = some (.int .i64 N):=(qq BX2.out 0).trans rfl
 have hb1 : w2.cell? ⟨w.heap.size,1,none⟩ = some (.slice Ae es.length ce):=(qq BX2.out 1).trans rfl
 go_wp2_with (first|(go_at_call 11;refine (l10Solve_calls w2 N Ae ce es (Kd.C_below HC.out HB2.out) HEC.out HN.out kr s' HR.out).mono ?_;rintro e w4 ⟨g,rfl,col,vy,vn,vm,hs⟩;have HS4:=qy.mk hs;have hc7:=HS4.out.cells.2.2.2.2.2.1;clear hs))
 go_ret
 exact ⟨rfl,qx HB2.out HS4.out.hb⟩
end Go.Proofs.Ytnffimpoekjkpaa.QFnExactRounds
