import Derived.Test.YtnffimpoekjkpaaGreatZFnExactSolvex63
import Derived.Test.YtnffimpoekjkpaaGreatZFnExactSolvex32
set_option linter.all false
namespace Go.Proofs.YtnffimpoekjkpaaGreat.QFnExactSolve
open Go.RowKit Go.Proofs.YtnffimpoekjkpaaGreatW.PrintWords Go.Proofs.YtnffimpoekjkpaaGreatW.PrintLast Go.Proofs.YtnffimpoekjkpaaGreatW.PrintMore
set_option maxHeartbeats 8000000
set_option maxRecDepth 100000
attribute [local go_sem] Od' Pd' Xd' Yd' Jd' Kd' Qd' Rd'
def Pf' (v : Int) : S77:=⟨[],[],v,0,-1,false⟩
def newS (N : Int) (es : List (S73)) : RI:=⟨List.replicate N.toNat (kg' es),(List.range N.toNat).map fun (v : Nat)=>Pf' (v : Int),[],0,false⟩
inductive Rh' (N : Int) (es : List S73) : Nat → RI → RI → Prop
 | stop {s : RI} (h : ¬(s.rn < 20000 ∧ s.dn = false)) : Rh' N es 1 s s
 | more {k : Nat} {s s1 s' : RI} (h1 : s.rn < 20000) (h0 : 0 ≤ s.rn) (h2 : s.dn = false) (h : Im' N es { s with rn:=s.rn + 1 } s1) (rest : Rh' N es k s1 s') : Rh' N es (k + 1) s s'
theorem rep_set (a b : Int) (i k : Nat) : (List.replicate i a ++ List.replicate (k + 1) b).set i a = List.replicate (i + 1) a ++ List.replicate k b:=by
 rw [List.set_append_right _ _ ia',List.length_replicate,Nat.sub_self,List.replicate_succ,List.set_cons_zero,List.replicate_succ',List.append_assoc]
 rfl
theorem tl' (w : World) (N : Int) (Ae : Option Addr) (ce : Nat) (es : List (S73)) (hC : Kd.C k73 w Ae es.length es) (hec : es.length ≤ ce) (hN : 0 ≤ N ∧ N ≤ 1000) (kr : Nat) (s' : RI) (hr : Rh' N es kr (newS N es) s') :
  Calls Tryz.prog 18 #[.agg #[.int .i64 N,.slice Ae es.length ce]] w fun e w'=>∃ g,e = .returned (.pointer (some ⟨g,0,none⟩)) ∧ Gh' w w' g N Ae ce es s':=by
 have hu51:=Tryz.underlying51
 have hu77:=Tryz.underlying77
 have hu73:=Tryz.underlying73
 have hu35:=Tryz.underlying35
 have hu27:=Tryz.underlying27
 have hu48:=Tryz.underlying48
 have HC:=qz.mk hC
 have HEC:=qz.mk hec
 have HN:=qz.mk hN
 have HM:=qz.mk (Kd.C_max hC)
 have HR:=qz.mk hr
 have H0:=qz.mk hN
 obtain ⟨n,hn⟩:=Int.eq_ofNat_of_zero_le hN.1
 have HNT : qz (N.toNat = n):=⟨by rw [hn];rfl⟩
 have HNE:=qz.mk hn
 clear hC hec hN hr hn
 go_enter Tryz.func18,Tryz.ntmps18
 go_upto_region 1 with fail
 have BX1 : qz ((w.alloc (.cells #[.int .i64 N,.slice Ae es.length ce] 35)).heap[w.heap.size]? = some (.cells #[.int .i64 N,.slice Ae es.length ce] 35 (0,0))):=⟨yd' w _⟩
 have HB1 : qz (Below w.heap.size w (w.alloc (.cells #[.int .i64 N,.slice Ae es.length ce] 35))):=⟨qo (Below.refl _ _) _⟩
 generalize w.alloc (.cells #[.int .i64 N,.slice Ae es.length ce] 35) = W1 at *
 have hb0 : W1.cell? ⟨w.heap.size,0,none⟩ = some (.int .i64 N):=(qq BX1.o 0).trans rfl
 have hb1 : W1.cell? ⟨w.heap.size,1,none⟩ = some (.slice Ae es.length ce):=(qq BX1.o 1).trans rfl
 refine Md' (n:=7) (S:=fun w'=>w'.cell? ⟨w.heap.size,0,none⟩ = some (.int .i64 N) ∧ w'.cell? ⟨w.heap.size,1,none⟩ = some (.slice Ae es.length ce)) (ds:=[5]) (Array.replicate 7 false) da' rfl rfl ⟨hb0,hb1⟩ (fun hHeld=>?_)
 refine pa_ 1 8 (bz_ 7 2) ?_
 refine ta_ 0 7 (bz_ 7 3) hHeld (hy:=Or.inl ⟨ca',ja'⟩) (h:=?_)
 refine ta_ 2 9 (bz_ 7 7) hHeld (hy:=Or.inl ⟨ca',ja'⟩) (h:=?_)
 refine Td' (i:=3) (N:=some 10) (bz_ 7 15) rfl rfl da' ba' (fun K hK=>?_)
 refine Kd.R_make_step (Kd.int .i64) _ 3 ca' (N:=10) rfl 27 _ _ rfl N ca' ca' Tryz.underlying27 (.int .i64 0) 8 Ud' rfl ba' aa' 0 (ok:=fun _=>True) (okp:=fun _=>True) rfl (fun _ hk=>hk) trivial Na' pa' (Below.refl _ _) (Nat.le_refl _) ?_
 intro vy0 wm ho hb _ _
 rw [HNT.o] at ho
 obtain ⟨Ay,cy,e_⟩:=Kd.R_slice ho
 rw [List.length_replicate] at e_
 subst e_
 have HRY:=qz.mk ho
 have HBM:=qz.mk hb
 clear ho
 refine hK.out _ _ ⟨vd' hb hHeld.1,vd' hb hHeld.2⟩ (fun hHeld=>?_)
 clear hK K
 refine zd' (a':=?_) ?_ ?_
 rotate_left
 ·show Act.put _ (some 10) _ = _
  simp only [Act.put,List.setIfInBounds_toArray,List.set_cons_zero,List.set_cons_succ,Bd',Cd']
  rfl
 refine pa_ 4 11 (bz_ 7 31) ?_
 refine de' (i:=5) (N:=some 12) (bz_ 7 63) rfl rfl da' ba' (fun K hK=>?_)
 refine jf' (w1:=?_) (v:=?_) ca' rfl ?_ ?_
 rotate_left 2
 ·go_simp
  constructor
  ·rfl
  rfl
 refine hK.out _ _ ?_
 clear hK K
 refine zd' (a':=?_) ?_ ?_
 rotate_left
 ·show Act.put _ (some 12) _ = _
  simp only [Act.put,List.setIfInBounds_toArray,List.set_cons_zero,List.set_cons_succ,Bd',Cd']
  rfl
 refine pa_ 6 3 (bz_ 7 127) ?_
 refine Wd' da' ?_
 have BXS : qz ((wm.alloc (.cells #[.int .i64 N,.slice Ae es.length ce,.slice Ay n cy,.slice none 0 0,.slice none 0 0,.int .i64 0,.bool false] 51)).heap[wm.heap.size]? = some (.cells #[.int .i64 N,.slice Ae es.length ce,.slice Ay n cy,.slice none 0 0,.slice none 0 0,.int .i64 0,.bool false] 51 (0,0))):=⟨yd' wm _⟩
 have HBS : qz (Below wm.heap.size wm (wm.alloc (.cells #[.int .i64 N,.slice Ae es.length ce,.slice Ay n cy,.slice none 0 0,.slice none 0 0,.int .i64 0,.bool false] 51))):=⟨qo (Below.refl _ _) _⟩
 generalize wm.alloc (.cells #[.int .i64 N,.slice Ae es.length ce,.slice Ay n cy,.slice none 0 0,.slice none 0 0,.int .i64 0,.bool false] 51) = W5 at *
 have HB5:=qz.mk (qy HB1.o (qy (qh (Below.refl _ _)) (qy HBM.o HBS.o)))
 have HGS : qz (w.heap.size ≤ wm.heap.size):=⟨(qy HB1.o (qy (qh (Below.refl _ _)) HBM.o)).size⟩
 have HS0 : qz (RnF w W5 wm.heap.size N Ae ce es (fun _=>1) (.slice Ay n cy) (.slice none 0 0) (.slice none 0 0) ⟨List.replicate n 0,[],[],0,false⟩) :=
  ⟨⟨BXS.o,HGS.o,HB5.o,HC.o,HEC.o,Kd.R_lower (Kd.R_mono (Kd.R_below HRY.o HBS.o) (fun _ _=>rfl)) (qy HB1.o (qh (Below.refl _ _))).size,Kd.R_nil _ _ _ _ _,Kd.R_nil _ _ _ _ _,fun _ h=>h.elim⟩⟩
 have BX5:=qz.mk (qx BX1.o (qy (qh (Below.refl _ _)) (qy HBM.o HBS.o)))
 clear hHeld hb0 hb1 HRY HBM HBS BXS HGS hb HB1 BX1
 generalize wm.heap.size = g at HS0 ⊢
 obtain ⟨mm,hmm⟩ : ∃ mm,kg' es = mm:=⟨_,rfl⟩
 have HMM:=qz.mk hmm
 have HT:=qz.mk hmm
 clear hmm
 have HSCC:=qz.mk (fun (X : S73) (W' : World)=>spec_Scalar.calls X.f0 X.f1 X.f2 X.f3 X.f4 (scI X) W' rfl)
 go_wp2_with fail
 go_loopg [4,5] (es.length + 1) (fun kq v4 v5 w'=>∃ m i : Int,v4 = .int .i64 m ∧ v5 = .int .i64 i ∧ qz (0 ≤ i ∧ i + kq = es.length + 1 ∧ i ≤ es.length) ∧ qz (Xg' es kq i m = mm) ∧ qz (Below W5.heap.size W5 w'))
 case atStart=>exact ⟨0,0,rfl,rfl,⟨aa',aa',aa'⟩,HT,⟨Below.refl _ _⟩⟩
 clear HT
 obtain ⟨m,i,rfl,rfl,HI,HT,HB⟩:=hrel
 have BXr:=qz.mk (qx BX5.o HB.o)
 have hb0 : wr.cell? ⟨w.heap.size,0,none⟩ = some (.int .i64 N):=(qq BXr.o 0).trans rfl
 have hb1 : wr.cell? ⟨w.heap.size,1,none⟩ = some (.slice Ae es.length ce):=(qq BXr.o 1).trans rfl
 cases gk with
 | zero =>
  exfalso
  have h1:=HI.o
  omega
 | succ k1 =>
  have h:=HT.o
  clear HT
  rw [Xg'] at h
  by_cases c : i < (es.length : Int)
  ·rw [if_pos c] at h
   have hi0:=HI.o.1
   have HIL:=qz.mk c
   have cl0 : decide (i < (es.length : Int)) = true:=decide_eq_true c
   obtain ⟨adE,e_,he0,he1,he2,he3,he4⟩:=of' (Kd.C_below HC.o (qy HB5.o HB.o)) i hi0 c
   subst e_
   have pi:=eq_true hi0
   have qi:=eq_true c
   have hi1 : wrap64 (i + 1) = i + 1:=w64 aa' (by have:=HM.o;omega)
   obtain ⟨X,hX⟩ : ∃ X,ud' es i = X:=⟨_,rfl⟩
   rw [hX] at h he0 he1 he2 he3 he4
   have HXE:=qz.mk hX
   clear c hX
   by_cases cm : scI X > m
   ·have cb : decide (scI X > m) = true:=decide_eq_true cm
    rw [show max m (scI X) = scI X by omega] at h
    have HT:=qz.mk h
    clear h cm
    go_upto_region 7 with (first|(go_at_call 39;refine (HSCC.o X _).mono ?_;rintro e w3 ⟨rfl,hb⟩;have HB3:=qz.mk (qy HB.o hb);clear hb))
    clear hb0 hb1 he0 he1 he2 he3 he4
    have BX3:=qz.mk (qx BX5.o HB3.o)
    have hb1 : w3.cell? ⟨w.heap.size,1,none⟩ = some (.slice (some adE) es.length ce):=(qq BX3.o 1).trans rfl
    obtain ⟨_,e_,he0,he1,he2,he3,he4⟩:=of' (Kd.C_below HC.o (qy HB5.o HB3.o)) i hi0 HIL.o
    obtain rfl:=Option.some.inj e_
    rw [HXE.o] at he0 he1 he2 he3 he4
    go_wp2_with (first|(go_at_call 39;refine (HSCC.o X _).mono ?_;rintro e w4 ⟨rfl,hb⟩;have HB4:=qz.mk (qy HB3.o hb);clear hb))
    go_roundg k1
    case measure=>omega
    case rel=>exact ⟨_,i + 1,rfl,la',⟨aa',fa',ga'⟩,HT,HB4⟩
   have cb : decide (scI X > m) = false:=decide_eq_false cm
   rw [show max m (scI X) = m by omega] at h
   have HT:=qz.mk h
   clear h cm
   go_wp2_with (first|(go_at_call 39;refine (HSCC.o X _).mono ?_;rintro e w3 ⟨rfl,hb⟩;have HB3:=qz.mk (qy HB.o hb);clear hb))
   go_roundg k1
   case measure=>omega
   case rel=>exact ⟨m,i + 1,rfl,la',⟨aa',fa',ga'⟩,HT,HB3⟩
  rw [if_neg c] at h
  subst h
  have cl0 : decide (i < (es.length : Int)) = false:=decide_eq_false c
  have HS5:=qz.mk (HS0.o.to HB.o)
  clear c HI HS0 HSCC HM
  go_wp2_with fail
  go_loopg [6] (n + 1) (fun kq v6 w'=>∃ (i : Nat) (col : Nat → Nat) (vn : Value),v6 = .int .i64 (i : Int) ∧ qz (i + kq = n + 1 ∧ i ≤ n) ∧ qz (RnF w w' g N Ae ce es col (.slice Ay n cy) vn (.slice none 0 0) ⟨List.replicate i m ++ List.replicate (n - i) 0,(List.range i).map fun (v : Nat)=>Pf' (v : Int),[],0,false⟩) ∧ qz (w'.heap[w.heap.size]? = some (.cells #[.int .i64 N,.slice Ae es.length ce] 35 (0,0))))
  case atStart=>exact ⟨0,_,_,rfl,⟨aa',aa'⟩,HS5,BXr⟩
  clear HS5 hb0 hb1 BXr HB
  obtain ⟨j,col,vn,rfl,HI,HS,BXr⟩:=hrel
  have hb0 : wr.cell? ⟨w.heap.size,0,none⟩ = some (.int .i64 N):=(qq BXr.o 0).trans rfl
  cases gk with
  | zero =>
   exfalso
   have h1:=HI.o
   omega
  | succ k1 =>
   by_cases c : (j : Int) < N
   ·have cl1 : decide ((j : Int) < N) = true:=decide_eq_true c
    have HIL:=qz.mk c
    obtain ⟨d,hd⟩ : ∃ d,n - j = d + 1:=⟨n - j - 1,by have:=HNE.o;omega⟩
    have HD1:=qz.mk hd
    have hyl : (List.replicate j m ++ List.replicate (n - j) (0 : Int)).length = n:=by rw [List.length_append,List.length_replicate,List.length_replicate];have:=HI.o;omega
    obtain ⟨by_,_,e_,-⟩:=fe' HS.o.ry (by show 0 < (List.replicate j m ++ List.replicate (n - j) (0 : Int)).length;rw [hyl];have:=HNE.o;omega)
    injection e_ with e_ e2_ e3_
    clear e2_ e3_
    subst e_
    obtain ⟨An,cn,e_⟩:=Kd.R_slice HS.o.rn
    change vn = .slice An ((List.range j).map fun (v : Nat)=>Pf' (v : Int)).length cn at e_
    rw [List.length_map,List.length_range] at e_
    subst e_
    have hc:=HS.o.cells
    have p1 : (0 ≤ (j : Int)) = True:=eq_true aa'
    have q1 : ((j : Int) < ((n : Nat) : Int)) = True:=eq_true (by have:=HNE.o;omega)
    have q1' : (j < n) = True:=eq_true (by have:=HNE.o;omega)
    have hw1 : wrap64 ((j : Int) + 1) = ((j + 1 : Nat) : Int):=by rw [w64 aa' sa'];omega
    obtain ⟨gx1,gf1⟩:=Gd' HS.o.ry (j : Int) aa' (by show (j : Int) < ((List.replicate j m ++ List.replicate (n - j) (0 : Int)).length : Nat);rw [hyl];have:=HNE.o;omega)
    rw [Int.toNat_natCast] at gx1 gf1
    have HS1:=qz.mk (HS.o.sy (j : Int) m)
    obtain ⟨dsy,hdy⟩:=row_blk HS.o.ry
    have HDY:=qz.mk hdy
    clear c hd hyl hdy
    go_upto_region 12 with fail
    clear gx1 gf1 hc HS hb0
    rw [Int.toNat_natCast,HD1.o,rep_set] at HS1
    have BX6:=qz.mk (Oe' (b:=by_) (o:=j) (x:=.int .i64 m) BXr.o HDY.o ba')
    generalize World.setCell _ _ _ = w6 at HS1 BX6 ⊢
    have HS4:=qz.mk (HS1.o.ahead 2)
    have hc:=HS1.o.cells
    have HBW : qz (w.heap.size < w6.heap.size):=⟨ke' BX6.o⟩
    go_wp2_with (first|((with_reducible refine Ld' (b:=.append) (xs:=#[.tmp 51,.tmp 54]) rfl ?_);at_builtin;refine Kd.R_append k77 (w0:=w) (W:=w6) w.heap.size rfl (.tmp 51) (.tmp 54) 48 77 (.agg #[.slice none 0 0,.slice none 0 0,.int .i64 0,.int .i64 0,.int .i64 0,.bool false]) 80 rfl Tryz.underlying48 mp' rfl ba' aa' _ ((List.range j).map fun (v : Nat)=>Pf' (v : Int)) (Pf' (j : Int)) [.slice none 0 0,.slice none 0 0,.int .i64 (j : Int),.int .i64 0,.int .i64 (-1),.bool false] (fun k=>(if w6.heap.size ≤ k then 2 else col k) = 2) (fun _=>False) rfl rfl (ol' _ _ _ (Pf' (j : Int)) (Kd.R_nil _ _ _ _ _) (Kd.R_nil _ _ _ _ _)) (fun _ hk=>hk.elim) (fun k hk=>by rw [if_pos hk]) HS4.o.rn HS4.o.hb HS4.o.hb.size (by rw [List.length_map,List.length_range];have:=HIL.o;have:=HN.o;omega) ?_;intro v9 w9 ho hb hg hat;obtain ⟨A9,c9,e_⟩:=Kd.R_slice ho;rw [List.length_append,List.length_map,List.length_range,List.length_singleton] at e_;subst e_;obtain ⟨hs5,hx5,hf5⟩:=Rn.app_n HS4.o ho hb hg;have HS5:=qz.mk hs5;have BX7:=qz.mk (le' BX6.o hg (Kd.R_ne HS4.o.rn BX6.o ba'));have BX8 : qz ((w9.setCell ⟨g,3,none⟩ (.slice A9 (j + 1) c9)).heap[w.heap.size]? = some (.cells #[.int .i64 N,.slice Ae es.length ce] 35 (0,0))):=⟨Oe' BX7.o (le' HS4.o.blk hg (Kd.R_ne HS4.o.rn HS4.o.blk ba')) ba'⟩;clear hs5 ho hb hg hat))
    go_roundg k1
    case measure=>omega
    have hyy : List.replicate (j + 1) m ++ List.replicate (n - (j + 1)) (0 : Int) = List.replicate (j + 1) m ++ List.replicate d 0:=by rw [show n - (j + 1) = d by have:=HD1.o;omega]
    have hnn : (List.range (j + 1)).map (fun (v : Nat)=>Pf' (v : Int)) = (List.range j).map (fun (v : Nat)=>Pf' (v : Int)) ++ [Pf' (j : Int)]:=by rw [List.range_succ,List.map_append];rfl
    refine ⟨j + 1,(fun k=>if w6.heap.size ≤ k then 2 else col k),.slice A9 (j + 1) c9,by first|rw [hw1]|(simp;done)|rfl,⟨fa',by have:=HIL.o;have:=HNE.o;omega⟩,⟨?_⟩,BX8⟩
    rw [hyy,hnn]
    exact HS5.o
   have cl1 : decide ((j : Int) < N) = false:=decide_eq_false c
   go_wp2_with fail
   have hj : j = n:=by have:=HI.o;have:=HN.o;have:=HNE.o;omega
   subst hj
   have HS5 : qz (Gh' w wr g N Ae ce es (newS N es)):=⟨by
    have h:=HS.o.is
    rw [Nat.sub_self,List.replicate_zero,List.append_nil] at h
    rw [newS,HMM.o,HNT.o]
    exact h⟩
   clear c HI hb0 BXr HS cl1
   go_loopg [] kr (fun kq w'=>∃ s : RI,qz (Rh' N es kq s s') ∧ qz (Gh' w w' g N Ae ce es s))
   case atStart=>exact ⟨_,HR,HS5⟩
   clear HR HS5
   obtain ⟨s,HR,HIS⟩:=hrel
   have h:=HR.o
   clear HR
   obtain ⟨col1,vy1,vn1,vm1,hS⟩:=HIS.o
   have HS:=qz.mk hS
   have hc5:=HS.o.cells.2.2.2.2.2.1
   have hc6:=HS.o.cells.2.2.2.2.2.2
   clear hS
   cases h with
   | stop h =>
    by_cases c1 : s'.rn < 20000
    ·have cb1 : decide (s'.rn < 20000) = true:=decide_eq_true c1
     cases hd : s'.dn with
     | false=>exact absurd ⟨c1,hd⟩ h
     | true =>
      rw [hd] at hc6
      clear h c1 hd
      go_wp2_with fail
      go_ret
      exact ⟨g,rfl,HIS.o⟩
    have cb1 : decide (s'.rn < 20000) = false:=decide_eq_false c1
    clear h c1
    go_wp2_with fail
    go_ret
    exact ⟨g,rfl,HIS.o⟩
   | @more kk _ s1 _ h1 h0 h2 hRnd rest =>
    have HRn:=qz.mk hRnd
    have HR:=qz.mk rest
    have cb1 : decide (s.rn < 20000) = true:=decide_eq_true h1
    rw [h2] at hc6
    have hw1 : wrap64 (s.rn + 1) = s.rn + 1:=w64 aa' aa'
    have hf5:=HS.o.frz.2.2.2.1
    have HS6:=qz.mk (HS.o.fr (s.rn + 1)).is
    clear h1 h0 h2 hRnd rest
    go_upto_region 15 with fail
    clear hc5 hc6 hf5 HS HIS hw1
    generalize World.setCell _ _ _ = w8 at HS6 ⊢
    go_wp2_with (first|(go_at_call 40;refine (sl' HS6.o HRn.o).mono ?_;rintro e_ w9 ⟨rfl,hs⟩;have HS7:=qz.mk hs;clear hs))
    go_roundg kk
    case measure=>omega
    case rel=>exact ⟨_,HR,HS7⟩
end Go.Proofs.YtnffimpoekjkpaaGreat.QFnExactSolve
