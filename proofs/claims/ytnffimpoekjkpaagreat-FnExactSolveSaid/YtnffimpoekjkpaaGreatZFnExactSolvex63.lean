import Derived.Test.YtnffimpoekjkpaaGreatZFnExactSolvex60
import Derived.Test.YtnffimpoekjkpaaGreatZFnExactSolvex62
import Derived.Test.YtnffimpoekjkpaaGreatZFnExactSolvex57
set_option linter.all false
namespace Go.Proofs.YtnffimpoekjkpaaGreat.QFnExactSolve
open Go.RowKit Go.Proofs.YtnffimpoekjkpaaGreatW.PrintWords Go.Proofs.YtnffimpoekjkpaaGreatW.PrintLast Go.Proofs.YtnffimpoekjkpaaGreatW.PrintMore
set_option maxHeartbeats 8000000
set_option maxRecDepth 100000
attribute [local go_sem] Od' Pd' Xd' Yd' Jd' Kd' Qd' Rd'
structure GdS (N : Int) (es : List S73) (s : RI) : Prop where
 w : WFn (cvs s.nd)
 o : EOk es s.nd.length
 y : EOk es s.y.length
 n : N = s.y.length
 nn : N ≤ s.nd.length
 sz : s.nd.length ≤ 1000000
 m : ∀ x ∈ s.mt,inR x.f0 s.nd.length ∧ inR x.f1 s.nd.length
 sm : s.mt.length ≤ 1000
structure AdjS (N : Int) (es : List S73) (s : RI) (lb : List Int) (s' : RI) : Prop where
 hp : 0 ≤ (hf' N es s lb).1 → 0 < s.nd.length
 hU : 0 ≤ (hf' N es s lb).1 → Hh' N es s lb ≠ -1 → Ei' (ji' N es s lb) (Hh' N es s lb)
 e : s' = vf' N es s lb
structure ShrS (s : RI) (t : TI) (X : S73) (ws us : List Int) (i kk : Int) (ring : List Int) (lk : List S56) (k : Nat) (s' : RI) : Prop where
 hk : k ≤ 1000
 h1 : wayS (cvs s.nd) t.ah t.rt k (topI (cvs s.nd) X.f0) = some ws
 h2 : wayS (cvs s.nd) t.ah t.rt k (topI (cvs s.nd) X.f1) = some us
 hla : ws.length ≤ 1000
 hlb : us.length ≤ 1000
 hws : ∀ n ∈ ws,inR n t.ah.length ∧ inR n s.nd.length
 hus : ∀ n ∈ us,inR n t.ah.length ∧ inR n s.nd.length
 hi : ih' ws us (ws.length + 1) 0 = some i
 hkk : spec_l08Place.f (us.length + 1) us (rd ws i) = some kk
 hk0 : 0 ≤ kk ∧ kk < us.length
 hr : upS t.ah us kk (us.length + 1) 0 (dnS t.ah ws (ws.length + 1) (i - 1) [rd ws i] []).1 ((dnS t.ah ws (ws.length + 1) (i - 1) [rd ws i] []).2 ++ [⟨X.f0,X.f1⟩]) = (ring,lk)
 hring : ∀ m ∈ ring,inR m s.nd.length
 e : s' = Yn' s ring lk (rd ws i)
structure AugS (N : Int) (s : RI) (t : TI) (X : S73) (ws us : List Int) (k ko : Nat) (s' : RI) : Prop where
 hk : k ≤ 1000
 h1 : wayS (cvs s.nd) t.ah t.rt k (topI (cvs s.nd) X.f0) = some ws
 h2 : wayS (cvs s.nd) t.ah t.rt k (topI (cvs s.nd) X.f1) = some us
 hla : ws.length ≤ 1000
 hlb : us.length ≤ 1000
 hws : ∀ n ∈ ws,inR n t.lb.length ∧ inR n t.ah.length
 hus : ∀ n ∈ us,inR n t.lb.length ∧ inR n t.ah.length
 ho : ch' N s.nd.length ko { s with mt:=ahF t.lb t.ah us (ahF t.lb t.ah ws (wlF (cvs s.nd) us (wlF (cvs s.nd) ws s.mt) ++ [⟨X.f0,X.f1⟩])) } s'
def Im' (N : Int) (es : List S73) (s s' : RI) : Prop :=
 GdS N es s ∧ ∃ (k : Nat) (T : TI) (r : Int),bh' N s.y (cvs s.nd) s.mt es k (eg' s.nd s.mt) = some (T,r) ∧
  ((r < 0 ∧ AdjS N es s T.lb s') ∨
   (inR r es.length ∧
    ((rd T.rt (topI (cvs s.nd) (ud' es r).f0) = rd T.rt (topI (cvs s.nd) (ud' es r).f1) ∧ ∃ ws us i kk ring lk kw,ShrS s T (ud' es r) ws us i kk ring lk kw s') ∨
    (rd T.rt (topI (cvs s.nd) (ud' es r).f0) ≠ rd T.rt (topI (cvs s.nd) (ud' es r).f1) ∧ ∃ ws us kw ko,AugS N s T (ud' es r) ws us kw ko s'))))
theorem sl' {w0 W : World} {g : Nat} {N : Int} {Ae : Option Addr} {ce : Nat} {es : List (S73)} {s s' : RI} (hI : Gh' w0 W g N Ae ce es s) (h : Im' N es s s') :
  Calls Tryz.prog 40 #[.pointer (some ⟨g,0,none⟩)] W fun e w'=>e = .returned (.tuple #[]) ∧ Gh' w0 w' g N Ae ce es s':=by
 obtain ⟨col,vy,vn,vm,hS⟩:=hI
 have hu51:=Tryz.underlying51
 have hu77:=Tryz.underlying77
 have hu56:=Tryz.underlying56
 have hu73:=Tryz.underlying73
 have hu35:=Tryz.underlying35
 have HS:=qz.mk hS
 clear hS
 have hu27:=Tryz.underlying27
 have hu102:=Tryz.underlying102
 obtain ⟨G,k,T,r,hl,h⟩:=h
 have HG:=qz.mk G
 have HN0 : qz (0 ≤ N):=⟨by have:=G.n;omega⟩
 have HLC:=qz.mk (rl' HS.o G.w G.m (by have:=G.sm;omega) G.sz G.o G.y HN0.o k T r hl)
 clear G hl
 go_enter Tryz.func40,Tryz.ntmps40
 go_upto_region 1 with (first|(go_at_call 57;refine HLC.o.mono ?_;rintro e_ w2 ⟨gt,col2,vl,va,vr,rfl,hT,hcol,hb,hlen⟩;have HT:=qz.mk hT;have HCL:=qz.mk hcol;have HB:=qz.mk hb;have HLN:=qz.mk hlen;clear hT hcol hb hlen))
 have HS2:=qz.mk ((HS.o.recol HCL.o).to HB.o)
 clear HLC HS HCL HB
 rcases h with ⟨hr,hA⟩|⟨hr,h⟩
 ·have HA:=qz.mk hA
  have cb : decide (r < 0) = true:=decide_eq_true hr
  clear hA hr
  have HAC:=qz.mk (Qk' HS2.o HT.o HG.o.w HG.o.sz HG.o.o HG.o.y HG.o.n HG.o.nn HLN.o.1 HA.o.hp HA.o.hU)
  rw [← HA.o.e] at HAC
  go_wp2_with (first|(go_at_call 58;refine HAC.o.mono ?_;rintro e_ w3 ⟨rfl,hs⟩;have HS3:=qz.mk hs;clear hs))
  first|go_end0|((try simp only [Exit.inBlock,Exit.then]);refine bodyPost_ret (results_none rfl _ _ _) rfl ?_)
  exact ⟨rfl,HS3.o⟩
 have cb : decide (r < 0) = false:=decide_eq_false (by have:=hr.1;omega)
 have HR:=qz.mk hr
 have hc:=HS2.o.cells
 have HX:=qz.mk (HG.o.o r hr)
 obtain ⟨adE,e_,he0,he1,he2,he3,he4⟩:=of' (Kd.C_below HS2.o.he HS2.o.hb) r hr.1 hr.2
 subst e_
 have pr:=eq_true hr.1
 have qr:=eq_true hr.2
 obtain ⟨X,hX⟩ : ∃ X,ud' es r = X:=⟨_,rfl⟩
 rw [hX] at h he0 he1 he2 he3 he4 HX
 obtain ⟨A,hA⟩ : ∃ A,topI (cvs s.nd) X.f0 = A:=⟨_,rfl⟩
 obtain ⟨B,hB⟩ : ∃ B,topI (cvs s.nd) X.f1 = B:=⟨_,rfl⟩
 have HIA:=qz.mk (Nd' HG.o.w (by rw [Hd'];exact HX.o.1))
 have HIB:=qz.mk (Nd' HG.o.w (by rw [Hd'];exact HX.o.2))
 rw [hA,Hd'] at HIA
 rw [hB,Hd'] at HIB
 rw [hA,hB] at h
 have HTA:=qz.mk (fun (W' : World) (hh : Rn w0 W' (fun _=>False) w0 g N (some adE) ce es col2 vy vn vm s)=>Sg' hh X.f0 HG.o.w HX.o.1)
 have HTB:=qz.mk (fun (W' : World) (hh : Rn w0 W' (fun _=>False) w0 g N (some adE) ce es col2 vy vn vm s)=>Sg' hh X.f1 HG.o.w HX.o.2)
 simp only [hA] at HTA
 simp only [hB] at HTB
 clear hr hX hA hB
 go_upto_region 4 with fail
 have BXE : qz ((w2.alloc (.cells #[.int .i64 X.f0,.int .i64 X.f1,.int .i64 X.f2,.int .i64 X.f3,.int .i64 X.f4] 73)).heap[w2.heap.size]? = some (.cells #[.int .i64 X.f0,.int .i64 X.f1,.int .i64 X.f2,.int .i64 X.f3,.int .i64 X.f4] 73 (0,0))):=⟨yd' w2 _⟩
 have HBE : qz (Below w2.heap.size w2 (w2.alloc (.cells #[.int .i64 X.f0,.int .i64 X.f1,.int .i64 X.f2,.int .i64 X.f3,.int .i64 X.f4] 73))):=⟨qo (Below.refl _ _) _⟩
 generalize w2.alloc (.cells #[.int .i64 X.f0,.int .i64 X.f1,.int .i64 X.f2,.int .i64 X.f3,.int .i64 X.f4] 73) = W3 at *
 have HS3:=qz.mk (HS2.o.to HBE.o)
 have HT3:=qz.mk (HT.o.to HBE.o)
 generalize w2.heap.size = ge at BXE ⊢
 clear hc he0 he1 he2 he3 he4 HBE HS2 HT
 have hct:=HT3.o.cells
 obtain ⟨Ar,cr,e_⟩:=Kd.R_slice HT3.o.rr
 subst e_
 obtain ⟨ar,e_,hrA⟩:=Kd.at_int (Kd.R_reads' HT3.o.rr).2.2 A HIA.o.1 (by rw [HLN.o.2.2];exact HIA.o.2)
 subst e_
 obtain ⟨_,e_,hrB⟩:=Kd.at_int (Kd.R_reads' HT3.o.rr).2.2 B HIB.o.1 (by rw [HLN.o.2.2];exact HIB.o.2)
 obtain rfl:=Option.some.inj e_
 have pA:=eq_true HIA.o.1
 have qA : (A < (T.rt.length : Int)) = True:=eq_true (by rw [HLN.o.2.2];exact HIA.o.2)
 have pB:=eq_true HIB.o.1
 have qB : (B < (T.rt.length : Int)) = True:=eq_true (by rw [HLN.o.2.2];exact HIB.o.2)
 refine Md' (n:=21) (S:=fun w'=>w'.cell? ⟨gt,2,none⟩ = some (.slice (some ar) T.rt.length cr) ∧ w'.cell? (ar.add A.toNat) = some (.int .i64 (rd T.rt A)) ∧ w'.cell? (ar.add B.toNat) = some (.int .i64 (rd T.rt B)) ∧ w'.cell? ⟨ge,0,none⟩ = some (.int .i64 X.f0) ∧ w'.cell? ⟨ge,1,none⟩ = some (.int .i64 X.f1)) (ds:=[]) (Array.replicate 21 false) da' rfl rfl ⟨hct.2.2,hrA,hrB,(qq BXE.o 0).trans rfl,(qq BXE.o 1).trans rfl⟩ (fun hHeld=>?_)
 refine pa_ 0 23 (bz_ 21 1) ?_
 refine pa_ 1 24 (bz_ 21 3) ?_
 refine pa_ 2 25 (bz_ 21 7) ?_
 refine pa_ 4 27 (bz_ 21 23) ?_
 refine pa_ 5 28 (bz_ 21 55) ?_
 refine pa_ 10 33 (bz_ 21 1079) ?_
 refine pa_ 11 34 (bz_ 21 3127) ?_
 refine pa_ 12 35 (bz_ 21 7223) ?_
 refine pa_ 14 37 (bz_ 21 23607) ?_
 refine pa_ 15 38 (bz_ 21 56375) ?_
 refine ta_ 3 26 (bz_ 21 56383) hHeld (hy:=Or.inl ⟨ca',za'⟩) (h:=?_)
 refine ta_ 6 29 (bz_ 21 56447) hHeld (hy:=Or.inl ⟨ca',za'⟩) (h:=?_)
 refine ta_ 13 36 (bz_ 21 64639) hHeld (hy:=Or.inl ⟨ca',za'⟩) (h:=?_)
 refine ta_ 16 39 (bz_ 21 130175) hHeld (hy:=Or.inl ⟨ca',za'⟩) (h:=?_)
 refine Td' (i:=7) (N:=some 30) (bz_ 21 130303) rfl rfl da' ba' (fun K hK=>?_)
 refine goes_ Tryz.func59 da' rfl #[.pointer (some ⟨g,0,none⟩),.int .i64 X.f0] ca' rfl rfl xa' ?_
 refine (HTA.o _ (HS3.o.to (qh (Below.refl _ _)))).mono ?_
 rintro e_ wc1 ⟨rfl,hb⟩
 have HBa:=qz.mk (qy (qh (Below.refl _ W3)) hb)
 refine ⟨_,rfl,?_⟩
 refine hK.out _ _ ⟨vd' hb hHeld.1,vd' hb hHeld.2.1,vd' hb hHeld.2.2.1,vd' hb hHeld.2.2.2.1,vd' hb hHeld.2.2.2.2⟩ (fun hHeld=>?_)
 clear hK K
 refine zd' (a':=?_) ?_ ?_
 rotate_left
 ·show Act.put _ (some 30) _ = _
  simp only [Act.put,List.setIfInBounds_toArray,List.set_cons_zero,List.set_cons_succ,Bd',Cd']
  rfl
 refine pa_ 8 31 (bz_ 21 130559) ?_
 refine ta_ 9 32 (bz_ 21 131071) hHeld (hy:=Or.inl ⟨ca',za'⟩) (h:=?_)
 refine Td' (i:=17) (N:=some 40) (bz_ 21 262143) rfl rfl da' ba' (fun K hK=>?_)
 refine goes_ Tryz.func59 da' rfl #[.pointer (some ⟨g,0,none⟩),.int .i64 X.f1] ca' rfl rfl xa' ?_
 refine (HTB.o _ (HS3.o.to HBa.o)).mono ?_
 rintro e_ wc2 ⟨rfl,hb⟩
 have HB4:=qz.mk (qy HBa.o hb)
 refine ⟨_,rfl,?_⟩
 refine hK.out _ _ ⟨vd' hb hHeld.1,vd' hb hHeld.2.1,vd' hb hHeld.2.2.1,vd' hb hHeld.2.2.2.1,vd' hb hHeld.2.2.2.2⟩ (fun hHeld=>?_)
 clear hK K
 refine zd' (a':=?_) ?_ ?_
 rotate_left
 ·show Act.put _ (some 40) _ = _
  simp only [Act.put,List.setIfInBounds_toArray,List.set_cons_zero,List.set_cons_succ,Bd',Cd']
  rfl
 refine pa_ 18 41 (bz_ 21 524287) ?_
 refine ta_ 19 42 (bz_ 21 1048575) hHeld (hy:=Or.inl ⟨ca',za'⟩) (h:=?_)
 refine pa_ 20 43 (bz_ 21 2097151) ?_
 refine Wd' da' ?_
 have BX4:=qz.mk (qx BXE.o HB4.o)
 have HS4:=qz.mk (HS3.o.to HB4.o)
 have HT4:=qz.mk (HT3.o.to HB4.o)
 clear hHeld BXE HS3 HT3 HB4 hct hrA hrB HTA HTB HBa
 have hb0 : wc2.cell? ⟨ge,0,none⟩ = some (.int .i64 X.f0):=(qq BX4.o 0).trans rfl
 have hb1 : wc2.cell? ⟨ge,1,none⟩ = some (.int .i64 X.f1):=(qq BX4.o 1).trans rfl
 have hb2 : wc2.cell? ⟨ge,2,none⟩ = some (.int .i64 X.f2):=(qq BX4.o 2).trans rfl
 have hb3 : wc2.cell? ⟨ge,3,none⟩ = some (.int .i64 X.f3):=(qq BX4.o 3).trans rfl
 have hb4 : wc2.cell? ⟨ge,4,none⟩ = some (.int .i64 X.f4):=(qq BX4.o 4).trans rfl
 rcases h with ⟨hrt,ws,us,i,kk,ring,lk,kw,hs⟩|⟨hrt,ws,us,kw,ko,hs⟩
 ·have cb2 : (rd T.rt A == rd T.rt B) = true:=by simpa using hrt
  have HH:=qz.mk (Pk' HS4.o HT4.o HG.o.w HG.o.m HG.o.sm HG.o.sz X HX.o.1 HX.o.2 kw hs.hk ws us hs.h1 hs.h2 hs.hla hs.hlb hs.hws hs.hus i kk hs.hi hs.hkk hs.hk0 ring lk hs.hr hs.hring)
  rw [← hs.e] at HH
  clear hrt hs
  go_wp2_with (first|(go_at_call 60;refine HH.o.mono ?_;rintro e_ w3 ⟨rfl,hs⟩;have HS5:=qz.mk hs;clear hs))
  first|go_end0|((try simp only [Exit.inBlock,Exit.then]);refine bodyPost_ret (results_none rfl _ _ _) rfl ?_)
  exact ⟨rfl,HS5.o⟩
 have cb2 : (rd T.rt A == rd T.rt B) = false:=by simpa using hrt
 have HH:=qz.mk (mk' HS4.o HT4.o HG.o.w HG.o.m HG.o.sm HG.o.sz HN0.o X HX.o.1 HX.o.2 kw ko hs.hk ws us hs.h1 hs.h2 hs.hla hs.hlb hs.hws hs.hus s' hs.ho)
 clear hrt hs
 go_wp2_with (first|(go_at_call 61;refine HH.o.mono ?_;rintro e_ w3 ⟨rfl,hs⟩;have HS5:=qz.mk hs;clear hs))
 first|go_end0|((try simp only [Exit.inBlock,Exit.then]);refine bodyPost_ret (results_none rfl _ _ _) rfl ?_)
 exact ⟨rfl,HS5.o⟩
end Go.Proofs.YtnffimpoekjkpaaGreat.QFnExactSolve
