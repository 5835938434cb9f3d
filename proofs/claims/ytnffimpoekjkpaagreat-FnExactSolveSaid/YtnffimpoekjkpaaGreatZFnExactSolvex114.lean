import Derived.Test.YtnffimpoekjkpaaGreatZFnExactSolvex113
import Derived.Test.YtnffimpoekjkpaaGreatZFnExactSolvex108
set_option linter.all false
namespace Go.Proofs.YtnffimpoekjkpaaGreat.QFnExactSolve
open Go.RowKit Go.Proofs.YtnffimpoekjkpaaGreatW.PrintWords Go.Proofs.YtnffimpoekjkpaaGreatW.PrintLast Go.Proofs.YtnffimpoekjkpaaGreatW.PrintMore
set_option maxHeartbeats 8000000
set_option maxRecDepth 100000
attribute [local go_sem] Od' Pd' Xd' Yd' Jd' Kd' Qd' Rd'
theorem If'.same {W w' : World} {vn : Value} (h : If' W w' vn) {q : Nat} (hq : q < W.heap.size) (hn : some q ≠ vn.ownBlock) : w'.heap[q]? = W.heap[q]?:=by
 rw [Array.getElem?_eq_getElem hq]
 exact h q _ (Array.getElem?_eq_getElem hq) hn
theorem putp {W : World} {g : Nat} {a b c d : Value} (h : W.heap[g]? = some (.cells #[a,b] 30 (0,0))) : ((W.setCell ⟨g,0,none⟩ c).setCell ⟨g,1,none⟩ d).heap[g]? = some (.cells #[c,d] 30 (0,0)):=by simpa using be' (be' h 0 c) 1 d
theorem km' (w : World) (N : Int) (Ae : Option Addr) (ce : Nat) (es : List (S73)) (hC : Kd.C k73 w Ae es.length es) (hec : es.length ≤ ce) (h : es.length ≤ 1048576 ∧ gkB N es = false) :
  Calls Tryz.prog 7 #[.agg #[.int .i64 N,.slice Ae es.length ce]] w fun e w'=>e = .returned (.tuple #[.slice none 0 0,.agg #[.slice none 0 0,.slice none 0 0],.bool false]) ∧ Below w.heap.size w w':=by
 have hu35:=Tryz.underlying35
 have hu30:=Tryz.underlying30
 have HC:=qz.mk hC
 have HEC:=qz.mk hec
 have HG:=qz.mk h
 clear hC hec h
 go_enter Tryz.func7,Tryz.ntmps7
 go_upto_region 1 with fail
 have e1 : (w.alloc (.cells #[.int .i64 N,.slice Ae es.length ce] 35)).heap.size = w.heap.size + 1:=by simp
 have BX1 : qz ((w.alloc (.cells #[.int .i64 N,.slice Ae es.length ce] 35)).heap[w.heap.size]? = some (.cells #[.int .i64 N,.slice Ae es.length ce] 35 (0,0))):=⟨yd' w _⟩
 have HB1 : qz (Below w.heap.size w (w.alloc (.cells #[.int .i64 N,.slice Ae es.length ce] 35))):=⟨qo (Below.refl _ _) _⟩
 generalize w.alloc (.cells #[.int .i64 N,.slice Ae es.length ce] 35) = W1 at *
 have BX2 : qz ((W1.alloc (.cells #[.slice none 0 0,.slice none 0 0] 30)).heap[W1.heap.size]? = some (.cells #[.slice none 0 0,.slice none 0 0] 30 (0,0))):=⟨yd' W1 _⟩
 have HB2 : qz (Below W1.heap.size W1 (W1.alloc (.cells #[.slice none 0 0,.slice none 0 0] 30))):=⟨qo (Below.refl _ _) _⟩
 generalize W1.alloc (.cells #[.slice none 0 0,.slice none 0 0] 30) = W2 at *
 rw [e1] at BX2
 clear e1
 have BX3:=qz.mk (qx BX1.o HB2.o)
 have HB3 : qz (Below w.heap.size w W2):=⟨qy HB1.o HB2.o⟩
 have HLE : qz (w.heap.size < W2.heap.size ∧ w.heap.size + 1 < W2.heap.size):=⟨ke' BX3.o,ke' BX2.o⟩
 generalize hgb : w.heap.size = gb at BX1 BX2 BX3 ⊢
 have hb0 : W2.cell? ⟨gb,0,none⟩ = some (.int .i64 N):=(qq BX3.o 0).trans rfl
 have hb1 : W2.cell? ⟨gb,1,none⟩ = some (.slice Ae es.length ce):=(qq BX3.o 1).trans rfl
 have HCC : qz (Kd.C k73 W2 Ae es.length es):=⟨Kd.C_below HC.o HB3.o⟩
 go_upto_region 2 with (first|(go_at_call 23;refine (Bi' W2 N Ae ce es HCC.o HG.o.1 false HG.o.2).mono ?_;rintro e w3 ⟨rfl,hb⟩;have BQ:=qz.mk (qx BX2.o hb);have HB4:=qz.mk (qy HB3.o hb);clear hb))
 have hq0 : w3.cell? ⟨gb + 1,0,none⟩ = some (.slice none 0 0):=(qq BQ.o 0).trans rfl
 have hq1 : w3.cell? ⟨gb + 1,1,none⟩ = some (.slice none 0 0):=(qq BQ.o 1).trans rfl
 have fq0:=qu BQ.o 0
 have fq1:=qu BQ.o 1
 go_wp2_with fail
 try simp only [Exit.inBlock,Exit.then]
 refine bodyPost_ret (Ug' (rs:=[.tmp 2,.cell 3 30,.tmp 4]) rfl ia' (.tmp (.cell (gb + 1) 30 #[.slice none 0 0,.slice none 0 0] (0,0) _ rfl (putp BQ.o) hu30 rfl da' (.tmp .nil)))) rfl ?_
 subst hgb
 exact ⟨rfl,qp (qp HB4.o aa') aa'⟩
theorem zl' (w : World) (N : Int) (Ae : Option Addr) (ce : Nat) (es : List (S73)) (hC : Kd.C k73 w Ae es.length es) (hec : es.length ≤ ce) (h : es.length ≤ 1048576 ∧ gkB N es = true) (hN : 0 ≤ N ∧ N ≤ 1000) (kr : Nat) (s' : SI) (hr : Oi' N es kr (newI N es) s')
  (hw : WFn s'.nd) (ho : EOk es s'.nd.length) (hNn : N ≤ s'.nd.length) (hsz : s'.nd.length ≤ 1000000) (hy : s'.y.length ≤ 1000000) (gs : List (List Int × Int)) (hg : Gf' s'.nd N (s'.nd.length + 1) N [] = gs) (h20 : gs.length < 20)
  (kc : Nat) (nd1 : List S89) (hR : nh' N es s'.nd.length kc s'.nd nd1) (hm : ∀ v,0 ≤ v → v < N → (td' nd1 v).f3 = -1 ∨ inR (td' nd1 v).f3 es.length) (hl1 : nd1.length = s'.nd.length) (ps : List (Int × Int)) (hp : li' es nd1 N (N.toNat + 1) 0 [] = ps) :
  Calls Tryz.prog 7 #[.agg #[.int .i64 N,.slice Ae es.length ce]] w fun e w'=>∃ b vY vG vC,e = .returned (.tuple #[vC,.agg #[vY,vG],.bool true]) ∧ w.heap.size ≤ b ∧ Kd.R (Kd.int .i64) 3 w' w.heap.size (fun k=>k < b) vY s'.y ∧ Kd.S k80 80 w' b (fun _=>True) vG (bf' (gs.map mkG)) ∧ Kd.R k58 58 w' w.heap.size (fun _=>True) vC (ps.map mkC) ∧ Below w.heap.size w w':=by
 have hu35:=Tryz.underlying35
 have hu30:=Tryz.underlying30
 have HC:=qz.mk hC
 have HEC:=qz.mk hec
 have HG:=qz.mk h
 have HN:=qz.mk hN
 have HRR:=qz.mk hr
 have HW:=qz.mk hw
 have HEO:=qz.mk ho
 have H0:=qz.mk (And.intro hNn (And.intro hsz hy))
 have HGR:=qz.mk (And.intro hg h20)
 have HCP:=qz.mk hR
 have HCM:=qz.mk (And.intro hm (And.intro hl1 hp))
 clear hC hec h hN hr hw ho hNn hsz hy hg h20 hR hm hl1 hp
 go_enter Tryz.func7,Tryz.ntmps7
 go_upto_region 1 with fail
 have e1 : (w.alloc (.cells #[.int .i64 N,.slice Ae es.length ce] 35)).heap.size = w.heap.size + 1:=by simp
 have BX1 : qz ((w.alloc (.cells #[.int .i64 N,.slice Ae es.length ce] 35)).heap[w.heap.size]? = some (.cells #[.int .i64 N,.slice Ae es.length ce] 35 (0,0))):=⟨yd' w _⟩
 have HB1 : qz (Below w.heap.size w (w.alloc (.cells #[.int .i64 N,.slice Ae es.length ce] 35))):=⟨qo (Below.refl _ _) _⟩
 generalize w.alloc (.cells #[.int .i64 N,.slice Ae es.length ce] 35) = W1 at *
 have BX2 : qz ((W1.alloc (.cells #[.slice none 0 0,.slice none 0 0] 30)).heap[W1.heap.size]? = some (.cells #[.slice none 0 0,.slice none 0 0] 30 (0,0))):=⟨yd' W1 _⟩
 have HB2 : qz (Below W1.heap.size W1 (W1.alloc (.cells #[.slice none 0 0,.slice none 0 0] 30))):=⟨qo (Below.refl _ _) _⟩
 generalize W1.alloc (.cells #[.slice none 0 0,.slice none 0 0] 30) = W2 at *
 rw [e1] at BX2
 clear e1
 have BX3:=qz.mk (qx BX1.o HB2.o)
 have HB3 : qz (Below w.heap.size w W2):=⟨qy HB1.o HB2.o⟩
 have HLE : qz (w.heap.size < W2.heap.size ∧ w.heap.size + 1 < W2.heap.size):=⟨ke' BX3.o,ke' BX2.o⟩
 generalize hgb : w.heap.size = gb at BX1 BX2 BX3 ⊢
 have hb0 : W2.cell? ⟨gb,0,none⟩ = some (.int .i64 N):=(qq BX3.o 0).trans rfl
 have hb1 : W2.cell? ⟨gb,1,none⟩ = some (.slice Ae es.length ce):=(qq BX3.o 1).trans rfl
 have HCC : qz (Kd.C k73 W2 Ae es.length es):=⟨Kd.C_below HC.o HB3.o⟩
 go_upto_region 3 with (first|(go_at_call 23;refine (Bi' W2 N Ae ce es HCC.o HG.o.1 true HG.o.2).mono ?_;rintro e w3 ⟨rfl,hb⟩;have BQ:=qz.mk (qx BX2.o hb);have BX4:=qz.mk (qx BX3.o hb);have HB4:=qz.mk (qy HB3.o hb);clear hb))
 clear hb0 hb1 HCC
 have hb0 : w3.cell? ⟨gb,0,none⟩ = some (.int .i64 N):=(qq BX4.o 0).trans rfl
 have hb1 : w3.cell? ⟨gb,1,none⟩ = some (.slice Ae es.length ce):=(qq BX4.o 1).trans rfl
 have HCC : qz (Kd.C k73 w3 Ae es.length es):=⟨Kd.C_below HC.o HB4.o⟩
 go_upto_region 6 with (first|(go_at_call 24;refine (Hk' w3 N Ae ce es HCC.o HEC.o HN.o).mono ?_;rintro e w4 ⟨g,col,vy,vn,vl,va,vb,rfl,hs⟩;have HS : qz (Mj' w3 w4 g N Ae ce es (newI N es)):=⟨⟨col,vy,vn,vl,va,vb,hs⟩⟩;clear hs)|(go_at_call 25;refine (gp' HS.o HRR.o).mono ?_;rintro e w5 ⟨rfl,col,vy,vn,vl,va,vb,hs⟩;have HS5:=qz.mk hs;clear hs)|(go_at_call 26;refine (On' HS5.o HW.o ⟨HN.o.1,H0.o.1,HN.o.2⟩ H0.o.2.1 H0.o.2.2 gs HGR.o.1 HGR.o.2).mono ?_;rintro e w6 ⟨b,vY,vG,rfl,hbb,hY,hG,hB⟩;obtain ⟨AY,cY,e_⟩:=Kd.R_slice hY;subst e_;obtain ⟨AG,cG,e_⟩:=Kd.S_slice hG;subst e_;have HBB:=qz.mk hbb;have HY6:=qz.mk hY;have HG6:=qz.mk hG;have HB6:=qz.mk hB;clear hbb hY hG hB))
 have BXP : qz ((w6.alloc (.cells #[.slice AY s'.y.length cY,.slice AG (bf' (gs.map mkG)).length cG] 30)).heap[w6.heap.size]? = some (.cells #[.slice AY s'.y.length cY,.slice AG (bf' (gs.map mkG)).length cG] 30 (0,0))):=⟨yd' w6 _⟩
 have HBP : qz (Below w6.heap.size w6 (w6.alloc (.cells #[.slice AY s'.y.length cY,.slice AG (bf' (gs.map mkG)).length cG] 30))):=⟨qo (Below.refl _ _) _⟩
 generalize w6.alloc (.cells #[.slice AY s'.y.length cY,.slice AG (bf' (gs.map mkG)).length cG] 30) = W7 at *
 have HBD : qz (Below w6.heap.size w6 W7.drew):=⟨qh HBP.o⟩
 have HSd:=qz.mk (HS5.o.to (qy HB6.o HBD.o))
 have BPd:=qz.mk (qx BXP.o (qh (Below.refl _ W7)))
 have BQ7:=qz.mk (qx BQ.o (qy HS5.o.hb (qy HB6.o HBD.o)))
 have HCC2:=qz.mk (jm' HSd.o HEO.o ⟨HN.o.1,H0.o.1,HN.o.2⟩ H0.o.2.1 kc nd1 HCP.o HCM.o.1 HCM.o.2.1 ps HCM.o.2.2)
 clear hb0 hb1 HCC HS BX1 BX2 BX3 BX4 HB1 HB2
 refine Md' (n:=6) (S:=fun w'=>w'.cell? ⟨w6.heap.size,0,none⟩ = some (.slice AY s'.y.length cY) ∧ w'.cell? ⟨w6.heap.size,1,none⟩ = some (.slice AG (bf' (gs.map mkG)).length cG)) (ds:=[4]) (Array.replicate 6 false) da' rfl rfl ⟨(qq BPd.o 0).trans rfl,(qq BPd.o 1).trans rfl⟩ (fun hHeld=>?_)
 refine pa_ 0 17 (bz_ 6 1) ?_
 refine ta_ 2 19 (bz_ 6 5) hHeld (hy:=Or.inl ⟨ca',ja'⟩) (h:=?_)
 refine Td' (i:=1) (N:=some 18) (bz_ 6 7) rfl rfl da' ba' (fun K hK=>?_)
 refine goes_ Tryz.func27 da' rfl #[.pointer (some ⟨g,0,none⟩)] ca' rfl rfl xa' ?_
 refine HCC2.o.mono ?_
 rintro e_ wc ⟨vC,rfl,hr,hkp,hbl,hsz2⟩
 obtain ⟨AC,cC,e_⟩:=Kd.R_slice hr
 subst e_
 rw [List.length_map] at hr
 have HRC:=qz.mk hr
 have HKC:=qz.mk hkp
 have HBC:=qz.mk hbl
 have BQc:=qz.mk (hkp _ _ BQ7.o (Kd.R_ne HSd.o.rn BQ7.o ba'))
 have BPc:=qz.mk (hkp _ _ BPd.o (Kd.R_ne HSd.o.rn BPd.o ba'))
 have hq0 : wc.cell? ⟨gb + 1,0,none⟩ = some (.slice none 0 0):=(qq BQc.o 0).trans rfl
 have hq1 : wc.cell? ⟨gb + 1,1,none⟩ = some (.slice none 0 0):=(qq BQc.o 1).trans rfl
 have fq0:=qu BQc.o 0
 have fq1:=qu BQc.o 1
 clear hr hkp hbl hsz2
 refine ⟨_,rfl,?_⟩
 refine hK.out _ _ ⟨(qq BPc.o 0).trans rfl,(qq BPc.o 1).trans rfl⟩ (fun hHeld=>?_)
 clear hK K
 refine zd' (a':=?_) ?_ ?_
 rotate_left
 ·show Act.put _ (some 18) _ = _
  simp only [Act.put,List.setIfInBounds_toArray,List.set_cons_zero,List.set_cons_succ,Bd',Cd']
  rfl
 refine pa_ 3 2 (bz_ 6 15) ?_
 refine de' (i:=4) (N:=none) (bz_ 6 31) rfl rfl da' ba' (fun K hK=>?_)
 refine Id' (w1:=?_) ca' rfl ?_ ?_
 rotate_left
 ·go_simp
  rfl
 refine hK.out _ _ ?_
 clear hK K
 refine pa_ 5 4 (bz_ 6 63) ?_
 refine Wd' da' ?_
 have BQ9:=qz.mk (putp (c:=.slice AY s'.y.length cY) (d:=.slice AG (bf' (gs.map mkG)).length cG) BQc.o)
 have hlt : ∀ q,vn.ownBlock = some q → q < w5.heap.size:=Kd.R_lt HS5.o.rn
 have hYc : Kd.R (Kd.int .i64) 3 wc w5.heap.size (fun k=>k < b) (.slice AY s'.y.length cY) s'.y:=by
  refine Kd.R_mono (Kd.R_step (Kd.R_bound (Kd.R_below HY6.o HBD.o)) (fun q hq hl=>HKC.o.same hl (fun e=>?_))) (fun _ h=>h.1)
  have:=hlt q e.symm
  have:=hq.2.1
  omega
 have hGc : Kd.S k80 80 wc b (fun _=>True) (.slice AG (bf' (gs.map mkG)).length cG) (bf' (gs.map mkG)):=by
  refine Kd.S_mono (Kd.S_step (Kd.S_bound (Kd.S_below HG6.o HBD.o)) (fun q hq hl=>HKC.o.same hl (fun e=>?_))) (fun _ _=>trivial)
  have:=hlt q e.symm
  have:=hq.2.1
  have:=HBB.o
  omega
 have t30_3 : ∀ q,q ∈ 3 :: (Kd.int .i64).E → q ≠ 30:=by intro q hq;obtain rfl : q = 3:=List.mem_singleton.1 hq;decide
 have t30_58 : ∀ q,q ∈ 58 :: k58.E → q ≠ 30:=by
  intro q hq
  have hq : q ∈ ([58] : List Nat):=hq
  obtain rfl : q = 58:=List.mem_singleton.1 hq
  decide
 have HR9:=qz.mk (be' BQc.o 0 (.slice AY s'.y.length cY))
 have HY9:=qz.mk (Kd.R_set (Kd.R_set hYc BQc.o t30_3 0 (.slice AY s'.y.length cY)) HR9.o t30_3 1 (.slice AG (bf' (gs.map mkG)).length cG))
 have HG9:=qz.mk (Kd.S_set (Kd.S_set hGc BQc.o Ij' 0 (.slice AY s'.y.length cY)) HR9.o Ij' 1 (.slice AG (bf' (gs.map mkG)).length cG))
 have HC9:=qz.mk (Kd.R_set (Kd.R_set HRC.o BQc.o t30_58 0 (.slice AY s'.y.length cY)) HR9.o t30_58 1 (.slice AG (bf' (gs.map mkG)).length cG))
 have HB9 : qz (Below w.heap.size w ((wc.setCell ⟨gb + 1,0,none⟩ (.slice AY s'.y.length cY)).setCell ⟨gb + 1,1,none⟩ (.slice AG (bf' (gs.map mkG)).length cG))):=⟨qp (qp (qy HB4.o HBC.o) aa') aa'⟩
 have HLF : qz (w.heap.size ≤ w5.heap.size ∧ w.heap.size ≤ W7.drew.heap.size):=⟨by
  have h1:=HB4.o.size
  have h2:=HS5.o.hb.size
  have h3:=HB6.o.size
  have h4:=HBD.o.size
  omega⟩
 clear hYc hGc hq0 hq1 fq0 fq1 HR9 hHeld
 generalize (wc.setCell ⟨gb + 1,0,none⟩ (.slice AY s'.y.length cY)).setCell ⟨gb + 1,1,none⟩ (.slice AG (bf' (gs.map mkG)).length cG) = w9 at *
 go_wp2_with fail
 try simp only [Exit.inBlock,Exit.then]
 refine bodyPost_ret (Ug' (rs:=[.tmp 2,.cell 3 30,.tmp 4]) rfl ia' (.tmp (.cell (gb + 1) 30 #[.slice AY s'.y.length cY,.slice AG (bf' (gs.map mkG)).length cG] (0,0) _ rfl BQ9.o hu30 rfl da' (.tmp .nil)))) rfl ?_
 exact ⟨b,_,_,_,rfl,by have:=HBB.o;have:=HLF.o;omega,Kd.R_lower HY9.o HLF.o.1,HG9.o,Kd.R_lower HC9.o HLF.o.2,HB9.o⟩
end Go.Proofs.YtnffimpoekjkpaaGreat.QFnExactSolve
