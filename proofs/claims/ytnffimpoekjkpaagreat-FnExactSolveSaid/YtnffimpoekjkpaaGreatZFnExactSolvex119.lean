import Derived.Test.YtnffimpoekjkpaaGreatZFnExactSolvex118
set_option linter.all false
namespace Go.Proofs.YtnffimpoekjkpaaGreat.QFnExactSolve
open Go.RowKit Go.Proofs.YtnffimpoekjkpaaGreatW.PrintWords Go.Proofs.YtnffimpoekjkpaaGreatW.PrintLast Go.Proofs.YtnffimpoekjkpaaGreatW.PrintMore
set_option maxHeartbeats 8000000
set_option maxRecDepth 100000
attribute [local go_sem] Od' Pd' Xd' Yd' Jd' Kd' Qd' Rd'
theorem laws_FnExactSolve.calls (k : Nat) (a0_0 : Int) (A0_1 : Option Addr) (c0_1 : Nat) (l0_1 : List S84) (w : World) (hr0_1 : Kd.C k84 w A0_1 l0_1.length l0_1) (hc0_1 : l0_1.length ≤ c0_1) (h : LawS k a0_0 l0_1) :
  Calls Tryz.prog 3 #[.agg #[.int .i64 a0_0,.slice A0_1 l0_1.length c0_1]] w fun e w'=>e = .returned (.bool true) ∧ Below w.heap.size w w':=by
 have hu24:=Tryz.underlying24
 have hu35:=Tryz.underlying35
 have hu30:=Tryz.underlying30
 have HC:=qz.mk hr0_1
 have HCC:=qz.mk hc0_1
 obtain ⟨r,hz,h⟩:=h
 have HZ:=qz.mk hz
 clear hr0_1 hc0_1 hz
 go_enter Tryz.func3,Tryz.ntmps3
 go_upto_region 1 with fail
 have BX1 : qz ((w.alloc (.cells #[.int .i64 a0_0,.slice A0_1 l0_1.length c0_1] 24)).heap[w.heap.size]? = some (.cells #[.int .i64 a0_0,.slice A0_1 l0_1.length c0_1] 24 (0,0))):=⟨yd' w _⟩
 have HB1 : qz (Below w.heap.size w (w.alloc (.cells #[.int .i64 a0_0,.slice A0_1 l0_1.length c0_1] 24))):=⟨qo (Below.refl _ _) _⟩
 generalize w.alloc (.cells #[.int .i64 a0_0,.slice A0_1 l0_1.length c0_1] 24) = W1 at *
 have hb0 : W1.cell? ⟨w.heap.size,0,none⟩ = some (.int .i64 a0_0):=(qq BX1.o 0).trans rfl
 have hb1 : W1.cell? ⟨w.heap.size,1,none⟩ = some (.slice A0_1 l0_1.length c0_1):=(qq BX1.o 1).trans rfl
 go_upto_region 3 with (first|(go_at_call 4;refine (laws_szGraph.calls a0_0 A0_1 c0_1 l0_1 1048576 r W1 (Kd.C_below HC.o HB1.o) HCC.o HZ.o).mono ?_;rintro e_ w2 ⟨rfl,hb⟩;have HB2:=qz.mk (qy HB1.o hb);have BX2:=qz.mk (qx BX1.o hb);clear hb))
 clear hb0 hb1 HB1 BX1 HZ
 rcases h with hr|⟨hr,N,es,ht,hel,b,C,Y,G,hans,hcl,hyl,hgl,hml⟩
 ·have cb : decide (r < 0) = true:=decide_eq_true hr
  clear hr
  go_wp2_with fail
  go_ret
  exact ⟨rfl,HB2.o⟩
 have cb : decide (r < 0) = false:=decide_eq_false aa'
 obtain ⟨hs,hi⟩:=aq' hans
 have HSC:=qz.mk hs
 have HIC:=qz.mk hi
 have HTG:=qz.mk ht
 have HEL:=qz.mk hel
 have htot:=wo' hml
 have HLN:=qz.mk (And.intro hcl (And.intro hyl (And.intro hgl (And.intro htot hml))))
 have HLC : qz (C.length ≤ 1000000000):=⟨aa'⟩
 have HLP : qz (Y.length ≤ 1000000000 ∧ G.length ≤ 1000000000 ∧ ∀ x ∈ G,x.f0.length ≤ 1000000000):=⟨aa',aa',fun x hx=>by have:=hml x hx;omega⟩
 obtain ⟨m0,hm0⟩ : ∃ m,m = 1 + 5 * (es.length : Int):=⟨_,rfl⟩
 obtain ⟨m1,hm1⟩ : ∃ m,m = 1 + 2 * (C.length : Int):=⟨_,rfl⟩
 obtain ⟨m3,hm3⟩ : ∃ m,m = m1 + Y.length + vg' G:=⟨_,rfl⟩
 have HM0:=qz.mk hm0
 have HM1:=qz.mk hm1
 have HM3:=qz.mk hm3
 clear hr ht hel hans hcl hyl hgl hml htot hm0 hm1 hm3 hs hi
 have hb0 : w2.cell? ⟨w.heap.size,0,none⟩ = some (.int .i64 a0_0):=(qq BX2.o 0).trans rfl
 have hb1 : w2.cell? ⟨w.heap.size,1,none⟩ = some (.slice A0_1 l0_1.length c0_1):=(qq BX2.o 1).trans rfl
 go_upto_region 6 with (first|(go_at_call 6;refine (laws_toGraph.calls k a0_0 A0_1 c0_1 l0_1 N es w2 (Kd.C_below HC.o HB2.o) HCC.o HTG.o).mono ?_;rintro e_ w3 ⟨v3,rfl,ho,hb⟩;obtain ⟨A3,c3,e_⟩:=Kd.R_slice ho;subst e_;have HO3:=qz.mk ho;have HB3:=qz.mk hb;clear ho hb)|(go_at_call 5;refine (HSC.o w3 A3 c3 (Kd.R_reads' HO3.o).2.2 (Kd.R_reads' HO3.o).2.1).mono ?_;rintro e_ w4 ⟨vYs,vGs,vCs,rfl,hy,hg,hc,hb⟩;obtain ⟨AYs,cYs,e_⟩:=Kd.R_slice hy;subst e_;obtain ⟨AGs,cGs,e_⟩:=Kd.N_slice hg;subst e_;obtain ⟨ACs,cCs,e_⟩:=Kd.R_slice hc;subst e_;have HYS:=qz.mk hy;have HGS:=qz.mk hg;have HCS:=qz.mk hc;have HB4:=qz.mk hb;clear hy hg hc hb))
 clear hb0 hb1
 have BXW : qz ((w4.alloc (.cells #[.slice AYs Y.length cYs,.slice AGs G.length cGs] 30)).heap[w4.heap.size]? = some (.cells #[.slice AYs Y.length cYs,.slice AGs G.length cGs] 30 (0,0))):=⟨yd' w4 _⟩
 have HBW : qz (Below w4.heap.size w4 (w4.alloc (.cells #[.slice AYs Y.length cYs,.slice AGs G.length cGs] 30))):=⟨qo (Below.refl _ _) _⟩
 generalize w4.alloc (.cells #[.slice AYs Y.length cYs,.slice AGs G.length cGs] 30) = W5 at *
 have HB5 : qz (Below w.heap.size w W5):=⟨qy HB2.o (qy HB3.o (qy HB4.o HBW.o))⟩
 have BX5:=qz.mk (qx BX2.o (qy HB3.o (qy HB4.o HBW.o)))
 have HLE : qz (w.heap.size ≤ w3.heap.size ∧ w.heap.size < w4.heap.size + 1 ∧ w4.heap.size + 1 ≤ W5.heap.size):=⟨by have h1:=HB2.o.size;have h2:=HB3.o.size;have h3:=HB4.o.size;have h4:=ke' BXW.o;omega⟩
 have HSP : qz (SpS w W5 (w4.heap.size + 1) w4.heap.size (.slice ACs C.length cCs) (.slice AYs Y.length cYs) (.slice AGs G.length cGs) C Y G) :=
  ⟨⟨Kd.R_below (Kd.R_lower (Kd.R_mono (Kd.R_bound HCS.o) (fun q hq=>by have:=hq.2.2.1;omega)) HLE.o.1) HBW.o,Kd.R_below (Kd.R_lower (Kd.R_mono (Kd.R_bound HYS.o) (fun q hq=>by have:=hq.2.2.1;omega)) HLE.o.1) HBW.o,Kd.N_below (Kd.N_lower (Kd.N_mono (Kd.N_bound HGS.o) (fun q hq=>by have:=hq.2;omega)) HLE.o.1) HBW.o,BXW.o,aa'⟩⟩
 generalize w4.heap.size = gw at BXW HSP HLE ⊢
 have hb0 : W5.cell? ⟨w.heap.size,0,none⟩ = some (.int .i64 a0_0):=(qq BX5.o 0).trans rfl
 have hb1 : W5.cell? ⟨w.heap.size,1,none⟩ = some (.slice A0_1 l0_1.length c0_1):=(qq BX5.o 1).trans rfl
 clear HO3 HB3 HB4 HYS HGS HCS HBW BX2 HB2 BXW HSC
 go_upto_region 7 with (first|(go_at_call 6;refine (laws_toGraph.calls k a0_0 A0_1 c0_1 l0_1 N es W5 (Kd.C_below HC.o HB5.o) HCC.o HTG.o).mono ?_;rintro e_ w6 ⟨v3,rfl,ho,hb⟩;obtain ⟨A6,c6,e_⟩:=Kd.R_slice ho;subst e_;have HO6:=qz.mk ho;have HB6:=qz.mk hb;clear ho hb))
 clear hb0 hb1
 have BXX : qz ((w6.alloc (.cells #[.int .i64 N,.slice A6 es.length c6] 35)).heap[w6.heap.size]? = some (.cells #[.int .i64 N,.slice A6 es.length c6] 35 (0,0))):=⟨yd' w6 _⟩
 have HBX : qz (Below w6.heap.size w6 (w6.alloc (.cells #[.int .i64 N,.slice A6 es.length c6] 35))):=⟨qo (Below.refl _ _) _⟩
 generalize w6.alloc (.cells #[.int .i64 N,.slice A6 es.length c6] 35) = W7 at *
 have HO7 : qz (Kd.R k73 73 W7 w.heap.size (fun q=>gw + 1 ≤ q ∧ q < w6.heap.size) (.slice A6 es.length c6) es):=⟨Kd.R_below (Kd.R_lower (Kd.R_mono (Kd.R_bound HO6.o) (fun q hq=>⟨by have:=hq.2.1;have:=HLE.o;omega,hq.2.2.1⟩)) (by have:=HLE.o;omega)) HBX.o⟩
 have HXL : qz (gw + 1 ≤ w6.heap.size ∧ w6.heap.size < W7.heap.size):=⟨by have:=HB6.o.size;have:=HLE.o;omega,ke' BXX.o⟩
 have HB7 : qz (Below w.heap.size w W7):=⟨qy HB5.o (qy HB6.o HBX.o)⟩
 have BX7:=qz.mk (qx BX5.o (qy HB6.o HBX.o))
 have HSP7:=qz.mk (HSP.o.to (qy HB6.o HBX.o))
 generalize w6.heap.size = gx at BXX HO7 HXL ⊢
 have hx0 : W7.cell? ⟨gx,0,none⟩ = some (.int .i64 N):=(qq BXX.o 0).trans rfl
 have hx1 : W7.cell? ⟨gx,1,none⟩ = some (.slice A6 es.length c6):=(qq BXX.o 1).trans rfl
 clear HO6 HB6 HBX BX5 HB5 HSP
 go_upto_region 8 with (first|(go_at_call 7;refine (HIC.o W7 A6 c6 (Kd.R_reads' HO7.o).2.2 (Kd.R_reads' HO7.o).2.1).mono ?_;rintro e_ w8 ⟨bb,vYi,vGi,vCi,rfl,hbb,hy,hg,hc,hb⟩;obtain ⟨AYi,cYi,e_⟩:=Kd.R_slice hy;subst e_;obtain ⟨AGi,cGi,e_⟩:=Kd.S_slice hg;subst e_;obtain ⟨ACi,cCi,e_⟩:=Kd.R_slice hc;subst e_;have HBB:=qz.mk hbb;have HYI:=qz.mk hy;have HGI:=qz.mk hg;have HCI:=qz.mk hc;have HB8:=qz.mk hb;clear hbb hy hg hc hb))
 clear hx0 hx1
 have BXG : qz ((w8.alloc (.cells #[.slice AYi Y.length cYi,.slice AGi G.length cGi] 30)).heap[w8.heap.size]? = some (.cells #[.slice AYi Y.length cYi,.slice AGi G.length cGi] 30 (0,0))):=⟨yd' w8 _⟩
 have HBG : qz (Below w8.heap.size w8 (w8.alloc (.cells #[.slice AYi Y.length cYi,.slice AGi G.length cGi] 30))):=⟨qo (Below.refl _ _) _⟩
 generalize w8.alloc (.cells #[.slice AYi Y.length cYi,.slice AGi G.length cGi] 30) = W9 at *
 have HWL : qz (w.heap.size ≤ W7.heap.size ∧ W7.heap.size ≤ w8.heap.size):=⟨HB7.o.size,HB8.o.size⟩
 have HIM : qz (ImS w W9 W7.heap.size bb w8.heap.size (.slice ACi C.length cCi) (.slice AYi Y.length cYi) (.slice AGi G.length cGi) C Y G) :=
  ⟨⟨Kd.R_below (Kd.R_lower (Kd.R_mono (Kd.R_bound HCI.o) (fun q hq=>hq.2.1)) HWL.o.1) HBG.o,Kd.R_below (Kd.R_lower (Kd.R_mono (Kd.R_bound HYI.o) (fun q hq=>⟨hq.2.1,hq.1⟩)) HWL.o.1) HBG.o,Kd.S_below (Kd.S_lower (Kd.S_mono (Kd.S_bound HGI.o) (fun q hq=>⟨Nat.le_trans HBB.o hq.2.1,hq.2.1⟩)) (Nat.le_trans HWL.o.1 HBB.o)) HBG.o,BXG.o,HWL.o.2⟩⟩
 have HB89 : qz (Below W7.heap.size W7 W9):=⟨qy HB8.o HBG.o⟩
 have HL9 : qz (LB w W9 a0_0 A0_1 l0_1.length c0_1 (gw + 1) gw W7.heap.size bb w8.heap.size (.slice ACs C.length cCs) (.slice AYs Y.length cYs) (.slice AGs G.length cGs) (.slice ACi C.length cCi) (.slice AYi Y.length cYi) (.slice AGi G.length cGi) C Y G C Y G) :=
  ⟨⟨qx BX7.o HB89.o,qy HB7.o HB89.o,HSP7.o.to HB89.o,HIM.o,by have:=HLE.o;have:=HXL.o;omega⟩⟩
 have HX9:=qz.mk (Kd.R_below HO7.o HB89.o)
 have BX9:=qz.mk (qx BXX.o HB89.o)
 generalize W7.heap.size = lo at *
 generalize w8.heap.size = gg at *
 clear HB8 HYI HGI HCI HBG BXG HIM HSP7 BX7 HB7 HO7 BXX HB89
 have hc:=HL9.o.cells
 have cbe : (!true) = false:=rfl
 have cbb : (b != b) = false:=by simp
 go_upto_region 10 with (first|(go_at_call 8;refine (ph' ACi ACs cCi cCs C _ (Kd.R_reads' HL9.o.im.c).2.2 (Kd.R_reads' HL9.o.sp.c).2.2 HLC.o).mono ?_;rintro e_ w10 ⟨rfl,hb⟩;have L10:=qz.mk (HL9.o.to hb);have HBw10:=qz.mk hb;have hc:=L10.o.cells;clear hb)|(go_at_call 9;refine (mi' Y G AYi AYs AGi AGs cYi cYs cGi cGs _ (Kd.R_reads' L10.o.im.y).2.2 (Kd.R_reads' L10.o.sp.y).2.2 (Kd.S_reads' L10.o.im.g).2.2 (Kd.N_reads' L10.o.sp.g).2.2 HLP.o).mono ?_;rintro e_ w11 ⟨rfl,hb⟩;have L11:=qz.mk (L10.o.to hb);have HBw11:=qz.mk hb;clear hb))
 have HX11:=qz.mk (Kd.R_below HX9.o (qy HBw10.o HBw11.o))
 have BX11:=qz.mk (qx BX9.o (qy HBw10.o HBw11.o))
 clear hc HX9 BX9 HL9 HBw10 HBw11 L10
 refine Md' (n:=5) (S:=fun w'=>w'.cell? ⟨w.heap.size,0,none⟩ = some (.int .i64 a0_0) ∧ w'.cell? ⟨w.heap.size,1,none⟩ = some (.slice A0_1 l0_1.length c0_1) ∧ w'.cell? ⟨gx,0,none⟩ = some (.int .i64 N) ∧ w'.cell? ⟨gx,1,none⟩ = some (.slice A6 es.length c6)) (ds:=[]) (Array.replicate 5 false) da' rfl rfl ⟨L11.o.cells.1,L11.o.cells.2.1,(qq BX11.o 0).trans rfl,(qq BX11.o 1).trans rfl⟩ (fun hHeld=>?_)
 refine ta_ 0 52 (bz_ 5 1) hHeld (hy:=Or.inl ⟨ca',na'⟩) (h:=?_)
 refine ta_ 1 53 (bz_ 5 3) hHeld (hy:=Or.inl ⟨ca',na'⟩) (h:=?_)
 refine Td' (i:=2) (N:=some 54) (bz_ 5 7) rfl rfl da' ba' (fun K hK=>?_)
 refine goes_ Tryz.func6 da' rfl #[.agg #[.int .i64 a0_0,.slice A0_1 l0_1.length c0_1]] ca' rfl rfl xa' ?_
 refine (laws_toGraph.calls k a0_0 A0_1 c0_1 l0_1 N es w11.drew (Kd.C_below HC.o (qy L11.o.hb (qh (Below.refl _ _)))) HCC.o HTG.o).mono ?_
 rintro e_ w12 ⟨v12,rfl,ho,hb⟩
 obtain ⟨A12,c12,e_⟩:=Kd.R_slice ho
 subst e_
 have HO12:=qz.mk ho
 have HB12:=qz.mk (qy (qh (Below.refl w11.heap.size w11)) hb)
 have HX12:=qz.mk (Kd.R_below HX11.o HB12.o)
 clear ho
 refine ⟨_,rfl,?_⟩
 refine hK.out _ _ ⟨vd' hb hHeld.1,vd' hb hHeld.2.1,vd' hb hHeld.2.2.1,vd' hb hHeld.2.2.2⟩ (fun hHeld=>?_)
 clear hK K
 refine zd' (a':=?_) ?_ ?_
 rotate_left
 ·show Act.put _ (some 54) _ = _
  simp only [Act.put,List.setIfInBounds_toArray,List.set_cons_zero,List.set_cons_succ,Bd',Cd']
  rfl
 refine Td' (i:=3) (N:=some 55) (bz_ 5 15) rfl rfl da' ba' (fun K hK=>?_)
 refine goes_ Tryz.func10 da' rfl #[.agg #[.int .i64 N,.slice A6 es.length c6],.agg #[.int .i64 N,.slice A12 es.length c12]] ca' rfl rfl xa' ?_
 refine (wn' N es A6 A12 c6 c12 w12 (Kd.R_reads' HX12.o).2.2 (Kd.R_reads' HO12.o).2.2 (by have:=HEL.o;omega)).mono ?_
 rintro e_ w13 ⟨rfl,hb2⟩
 have HB13:=qz.mk (qy HB12.o hb2)
 refine ⟨_,rfl,?_⟩
 refine hK.out _ _ ⟨vd' hb2 hHeld.1,vd' hb2 hHeld.2.1,vd' hb2 hHeld.2.2.1,vd' hb2 hHeld.2.2.2⟩ (fun hHeld=>?_)
 clear hK K
 refine zd' (a':=?_) ?_ ?_
 rotate_left
 ·show Act.put _ (some 55) _ = _
  simp only [Act.put,List.setIfInBounds_toArray,List.set_cons_zero,List.set_cons_succ,Bd',Cd']
  rfl
 refine pa_ 4 56 (bz_ 5 31) ?_
 refine Wd' da' ?_
 have L13:=qz.mk (L11.o.to HB13.o)
 have HX13:=qz.mk (Kd.R_below HX11.o HB13.o)
 have BX13:=qz.mk (qx BX11.o HB13.o)
 have hx0 : w13.cell? ⟨gx,0,none⟩ = some (.int .i64 N):=(qq BX13.o 0).trans rfl
 have hx1 : w13.cell? ⟨gx,1,none⟩ = some (.slice A6 es.length c6):=(qq BX13.o 1).trans rfl
 clear hHeld L11 HX11 BX11 HB13 HB12 HO12 HX12
 have cb0 : decide (m0 < 0) = false:=decide_eq_false (by have:=HM0.o;omega)
 have hmg:=zn' (fun q=>gw + 1 ≤ q ∧ q < gx) N (.slice A6 es.length c6) es 1 w w13 L13.o.hb HX13.o aa' (by have:=HEL.o;omega)
 rw [← HM0.o] at hmg
 have HMGC:=qz.mk hmg
 clear hmg
 go_upto_region 14 with (first|(go_at_call 11;refine HMGC.o.mono ?_;rintro e_ w14 ⟨rfl,hb,hk⟩;have L14:=qz.mk (L13.o.kept_graph hk hb (fun q hq=>⟨hq.1,by have:=hq.2;have:=HXL.o;omega⟩));have hc:=L14.o.cells;clear hb hk))
 clear hx0 hx1 L13 HX13 BX13 HMGC
 go_upto_region 17 with (first|(go_at_call 8;refine (ph' ACi ACs cCi cCs C _ (Kd.R_reads' L14.o.im.c).2.2 (Kd.R_reads' L14.o.sp.c).2.2 HLC.o).mono ?_;rintro e_ w15 ⟨rfl,hb⟩;have L15:=qz.mk (L14.o.to hb);have HBw15:=qz.mk hb;have hc:=L15.o.cells;clear hb)|(go_at_call 9;refine (mi' Y G AYi AYs AGi AGs cYi cYs cGi cGs _ (Kd.R_reads' L15.o.im.y).2.2 (Kd.R_reads' L15.o.sp.y).2.2 (Kd.S_reads' L15.o.im.g).2.2 (Kd.N_reads' L15.o.sp.g).2.2 HLP.o).mono ?_;rintro e_ w16 ⟨rfl,hb⟩;have L16:=qz.mk (L15.o.to hb);have HBw16:=qz.mk hb;clear hb))
 clear hc L14 L15 HBw15 HBw16
 have hmc:=Cl' (fun q=>lo ≤ q ∧ PT w16 [58] q) (.slice ACi C.length cCi) C 1 w w16 L16.o.hb (Kd.R_mono (Kd.R_bound L16.o.im.c) (fun q hq=>⟨hq.1,hq.2.2.2⟩)) aa' (by have:=HLN.o.1;omega)
 rw [← HM1.o] at hmc
 have HMCC:=qz.mk hmc
 clear hmc
 go_upto_region 18 with (first|(go_at_call 12;refine HMCC.o.mono ?_;rintro e_ w17 ⟨rfl,hb,hk,C',hcl,hcm,hr⟩;have HCM:=qz.mk (And.intro hcl hcm);have L17:=qz.mk (L16.o.mark_c hk hb (fun q hq=>hq) (Kd.R_mono hr (fun _ h=>.inl h)));clear hr hb hk hcl hcm))
 have hc:=L17.o.cells
 have hmp:=An' (fun q=>(lo ≤ q ∧ q < bb) ∧ PT w17 [3] q) (fun q=>(lo ≤ q ∧ bb ≤ q) ∧ PT w17 [80,3] q) (.slice AYi Y.length cYi) (.slice AGi G.length cGi) Y G m1 w w17 L17.o.hb (Kd.R_mono (Kd.R_bound L17.o.im.y) (fun q hq=>⟨hq.1,hq.2.2.2⟩)) (Kd.S_mono (Kd.S_bound L17.o.im.g) (fun q hq=>⟨hq.1,hq.2.2.2⟩)) (fun q h1 h2=>by have:=h1.1.2;have:=h2.1.2;omega) (by have:=HLN.o;omega) (fun x hx=>by have:=HLN.o.2.2.2.2 x hx;omega) (by have:=HM1.o;omega) (by have:=HLN.o;have:=HM1.o;omega)
 rw [← HM3.o] at hmp
 have HMPP:=qz.mk hmp
 clear L16 HMCC hmp
 go_upto_region 19 with (first|(go_at_call 13;refine HMPP.o.mono ?_;rintro e_ w18 ⟨Y',G',rfl,hyl,hym,hgm,hy,hg,hb,hk⟩;have HYM:=qz.mk (And.intro hyl (And.intro hym hgm));have D18:=qz.mk (L17.o.mark_p hk hb (fun q hq=>by
  rcases hq with hq|hq
  ·obtain ⟨t,ht,h⟩:=hq.2
   exact ⟨hq.1.1,t,by rw [List.mem_singleton.1 ht];decide,h⟩
  obtain ⟨t,ht,h⟩:=hq.2
  refine ⟨hq.1.1,t,?_,h⟩
  simp only [List.mem_cons,List.not_mem_nil,or_false] at ht ⊢
  exact ht.symm) (Kd.R_mono hy (fun _ _=>trivial)) (Kd.S_mono hg (fun _ _=>trivial)));clear hy hg hb hk hyl hym hgm))
 have HGL : qz (G'.length = G.length):=⟨(Kd.S_reads' D18.o.g).1.symm⟩
 have HHF : qz (∀ W',(LD w W' a0_0 A0_1 l0_1.length c0_1 (gw + 1) gw gg (.slice ACs C.length cCs) (.slice AYs Y.length cYs) (.slice AGs G.length cGs) (.slice ACi C.length cCi) (.slice AYi Y.length cYi) (.slice AGi G.length cGi) C Y G C' Y' G') → Calls Tryz.prog 14 #[.slice ACi C.length cCi,.int .i64 1] W' fun e w'=>e = .returned (.int .i64 m1) ∧ Below W'.heap.size W' w'):=⟨fun W' D=>by
  have h:=Bl' ACi cCi C' 1 W' (Kd.R_reads' D.c).2.2 HCM.o.2 aa' (by have:=HLN.o;have:=HCM.o.1;omega)
  rw [HCM.o.1,← HM1.o] at h
  refine h.mono ?_
  rintro e w' ⟨rfl,rfl⟩
  exact ⟨rfl,Below.refl _ _⟩⟩
 have HPF : qz (∀ W',(LD w W' a0_0 A0_1 l0_1.length c0_1 (gw + 1) gw gg (.slice ACs C.length cCs) (.slice AYs Y.length cYs) (.slice AGs G.length cGs) (.slice ACi C.length cCi) (.slice AYi Y.length cYi) (.slice AGi G.length cGi) C Y G C' Y' G') → Calls Tryz.prog 15 #[.agg #[.slice AYi Y.length cYi,.slice AGi G.length cGi],.int .i64 m1] W' fun e w'=>e = .returned (.int .i64 m3) ∧ Below W'.heap.size W' w'):=⟨fun W' D=>by
  have h:=xn' AYi AGi cYi cGi Y' G' m1 m3 W' (Kd.R_reads' D.y).2.2 (Kd.S_reads' D.g).2.2 HYM.o.2.1 (by rw [HYM.o.1];exact HYM.o.2.2) (by have:=HM1.o;omega) (by have:=HM1.o;have:=HM3.o;have:=HLN.o;omega) (by have:=HGL.o;have:=HLN.o;omega)
  rw [HYM.o.1,HGL.o] at h
  exact h⟩
 have cb1 : decide (m1 < 0) = false:=decide_eq_false (by have:=HM1.o;omega)
 have cb3 : decide (m3 < 0) = false:=decide_eq_false (by have:=HM3.o;have:=HM1.o;omega)
 have cbm : (m3 != m3) = false:=by simp
 have hc:=D18.o.cells
 clear L17 HMPP
 go_upto_region 28 with (first|(go_at_call 14;refine (HHF.o _ D18.o).mono ?_;rintro e_ w19 ⟨rfl,hb⟩;have D19:=qz.mk (D18.o.to hb);have hc:=D19.o.cells;clear hb)|(go_at_call 15;refine (HPF.o _ D19.o).mono ?_;rintro e_ w20 ⟨rfl,hb⟩;have D20:=qz.mk (D19.o.to hb);have hc:=D20.o.cells;clear hb))
 have HB20:=qz.mk D20.o.hb
 go_upto_region 29 with (first|(go_at_call 6;refine (laws_toGraph.calls k a0_0 A0_1 c0_1 l0_1 N es w20 (Kd.C_below HC.o HB20.o) HCC.o HTG.o).mono ?_;rintro e_ w21 ⟨v3,rfl,ho,hb⟩;obtain ⟨A21,c21,e_⟩:=Kd.R_slice ho;subst e_;have HO21:=qz.mk ho;have HB21:=qz.mk hb;clear ho hb)|(go_at_call 7;refine (HIC.o w21 A21 c21 (Kd.R_reads' HO21.o).2.2 (Kd.R_reads' HO21.o).2.1).mono ?_;rintro e_ w22 ⟨bh,vYh,vGh,vCh,rfl,-,hy,hg,hcc,hb⟩;obtain ⟨AYh,cYh,e_⟩:=Kd.R_slice hy;subst e_;obtain ⟨AGh,cGh,e_⟩:=Kd.S_slice hg;subst e_;obtain ⟨ACh,cCh,e_⟩:=Kd.R_slice hcc;subst e_;have HYI:=qz.mk hy;have HGI:=qz.mk hg;have HCI:=qz.mk hcc;have HB22:=qz.mk hb;clear hy hg hcc hb))
 clear hc
 have BXH : qz ((w22.alloc (.cells #[.slice AYh Y.length cYh,.slice AGh G.length cGh] 30)).heap[w22.heap.size]? = some (.cells #[.slice AYh Y.length cYh,.slice AGh G.length cGh] 30 (0,0))):=⟨yd' w22 _⟩
 have HBH : qz (Below w22.heap.size w22 (w22.alloc (.cells #[.slice AYh Y.length cYh,.slice AGh G.length cGh] 30))):=⟨qo (Below.refl _ _) _⟩
 generalize w22.alloc (.cells #[.slice AYh Y.length cYh,.slice AGh G.length cGh] 30) = W23 at *
 have D24:=qz.mk (D20.o.to (qy HB21.o (qy HB22.o HBH.o)))
 have HCH:=qz.mk (Kd.R_below HCI.o HBH.o)
 have HYH:=qz.mk (Kd.R_below HYI.o HBH.o)
 have HGH:=qz.mk (Kd.S_below HGI.o HBH.o)
 clear D18 D19 D20 HB20 HO21 HB21 HB22 HCI HYI HGI
 go_upto_region 31 with (first|(go_at_call 8;refine (ph' ACh ACs cCh cCs C _ (Kd.R_reads' HCH.o).2.2 (Kd.R_reads' D24.o.sp.c).2.2 HLC.o).mono ?_;rintro e_ w25 ⟨rfl,hb⟩;have HBw25:=qz.mk hb;have D25:=qz.mk (D24.o.to hb);have hc:=D25.o.cells;have hh0 : w25.cell? ⟨w22.heap.size,0,none⟩ = some (.slice AYh Y.length cYh):=(qq (qx BXH.o hb) 0).trans rfl;have hh1 : w25.cell? ⟨w22.heap.size,1,none⟩ = some (.slice AGh G.length cGh):=(qq (qx BXH.o hb) 1).trans rfl;clear hb)|(go_at_call 9;refine (mi' Y G AYh AYs AGh AGs cYh cYs cGh cGs _ (Kd.R_reads' (Kd.R_below HYH.o HBw25.o)).2.2 (Kd.R_reads' D25.o.sp.y).2.2 (Kd.S_reads' (Kd.S_below HGH.o HBw25.o)).2.2 (Kd.N_reads' D25.o.sp.g).2.2 HLP.o).mono ?_;rintro e_ w26 ⟨rfl,hb⟩;have D26:=qz.mk (D25.o.to hb);have hc:=D26.o.cells;clear hb))
 clear hh0 hh1 D24 D25 HCH HYH HGH HBw25 BXH HBH
 go_wp2_with (first|(go_at_call 14;refine (HHF.o _ D26.o).mono ?_;rintro e_ w27 ⟨rfl,hb⟩;have D27:=qz.mk (D26.o.to hb);have hc:=D27.o.cells;clear hb)|(go_at_call 15;refine (HPF.o _ D27.o).mono ?_;rintro e_ w28 ⟨rfl,hb⟩;have D28:=qz.mk (D27.o.to hb);have hc:=D28.o.cells;clear hb))
 go_ret
 exact ⟨rfl,D28.o.hb⟩
end Go.Proofs.YtnffimpoekjkpaaGreat.QFnExactSolve
