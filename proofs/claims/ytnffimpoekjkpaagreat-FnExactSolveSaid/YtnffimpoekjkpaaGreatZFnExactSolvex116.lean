import Derived.Test.YtnffimpoekjkpaaGreatZFnExactSolvex114
import Derived.Test.YtnffimpoekjkpaaGreatZFnExactSolvex115
set_option linter.all false
namespace Go.Proofs.YtnffimpoekjkpaaGreat.QFnExactSolve
open Go.RowKit Go.Proofs.YtnffimpoekjkpaaGreatW.PrintWords Go.Proofs.YtnffimpoekjkpaaGreatW.PrintLast Go.Proofs.YtnffimpoekjkpaaGreatW.PrintMore
set_option maxHeartbeats 8000000
set_option maxRecDepth 100000
attribute [local go_sem] Od' Pd' Xd' Yd' Jd' Kd' Qd' Rd'
theorem yk' {v : Int} : ∀ {l : List S56} {acc : List (Int × Int)},acc.length ≤ (cplV v l acc).length
 | [],acc=>Nat.le_refl _
 | x :: l,acc=>by
  rw [cplV]
  refine Nat.le_trans ?_ yk'
  split <;> split <;> simp <;> omega
theorem tn' {mts : List S56} {N : Int} : ∀ {k : Nat} {v : Int} {acc : List (Int × Int)},acc.length ≤ (aj' mts N k v acc).length
 | 0,v,acc=>Nat.le_refl _
 | k + 1,v,acc=>by
  rw [aj']
  split
  ·exact Nat.le_trans yk' tn'
  exact Nat.le_refl _
theorem So' (nd : List S77) (n : Int) : (xf' nd n).length = nd.length:=by simp [xf']
theorem cm' (u : Int) : ∀ (l : List Int) (nd : List S77),(Me' u l nd).length = nd.length
 | [],nd=>rfl
 | m :: l,nd=>by rw [Me',cm' u l];simp [Di']
theorem Zp' (s : RI) (n : Int) : (nf' s n).nd.length = s.nd.length:=by
 show (xf' _ n).length = _
 rw [So',cm']
theorem lm' (w : World) (N : Int) (Ae : Option Addr) (ce : Nat) (es : List (S73)) (hC : Kd.C k73 w Ae es.length es) (hec : es.length ≤ ce) (h : es.length ≤ 1048576 ∧ gkB N es = false) :
  Calls Tryz.prog 5 #[.agg #[.int .i64 N,.slice Ae es.length ce]] w fun e w'=>∃ vC,e = .returned (.tuple #[vC,.agg #[.slice none 0 0,.slice none 0 0],.bool false]) ∧ Kd.R k58 58 w' w.heap.size (fun _=>True) vC [] ∧ Below w.heap.size w w':=by
 have hu35:=Tryz.underlying35
 have hu30:=Tryz.underlying30
 have HC:=qz.mk hC
 have HEC:=qz.mk hec
 have HG:=qz.mk h
 clear hC hec h
 go_enter Tryz.func5,Tryz.ntmps5
 go_upto_region 1 with fail
 have e1 : (w.alloc (.cells #[.int .i64 N,.slice Ae es.length ce] 35)).heap.size = w.heap.size + 1:=by simp
 have BX1 : qz ((w.alloc (.cells #[.int .i64 N,.slice Ae es.length ce] 35)).heap[w.heap.size]? = some (.cells #[.int .i64 N,.slice Ae es.length ce] 35 (0,0))):=⟨yd' w _⟩
 have HB1 : qz (Below w.heap.size w (w.alloc (.cells #[.int .i64 N,.slice Ae es.length ce] 35))):=⟨qo (Below.refl _ _) _⟩
 generalize w.alloc (.cells #[.int .i64 N,.slice Ae es.length ce] 35) = W1 at *
 have BX2 : qz ((W1.alloc (.cells #[.slice none 0 0,.slice none 0 0] 30)).heap[W1.heap.size]? = some (.cells #[.slice none 0 0,.slice none 0 0] 30 (0,0))):=⟨yd' W1 _⟩
 have HB2 : qz (Below W1.heap.size W1 (W1.alloc (.cells #[.slice none 0 0,.slice none 0 0] 30))):=⟨qo (Below.refl _ _) _⟩
 generalize W1.alloc (.cells #[.slice none 0 0,.slice none 0 0] 30) = W2 at *
 rw [e1] at BX2
 clear e1
 have BX3:=qz.mk (qx BX1.o HB2.o)
 have HB3 : qz (Below w.heap.size w W2):=⟨qy HB1.o HB2.o⟩
 have HLE : qz (w.heap.size < W2.heap.size ∧ w.heap.size + 1 < W2.heap.size):=⟨ke' BX3.o,ke' BX2.o⟩
 generalize hgb : w.heap.size = gb at BX1 BX2 BX3 ⊢
 have hb0 : W2.cell? ⟨gb,0,none⟩ = some (.int .i64 N):=(qq BX3.o 0).trans rfl
 have hb1 : W2.cell? ⟨gb,1,none⟩ = some (.slice Ae es.length ce):=(qq BX3.o 1).trans rfl
 have HCC : qz (Kd.C k73 W2 Ae es.length es):=⟨Kd.C_below HC.o HB3.o⟩
 go_upto_region 2 with (first|(go_at_call 17;refine (Ci' W2 N Ae ce es HCC.o HG.o.1 false HG.o.2).mono ?_;rintro e w3 ⟨rfl,hb⟩;have BQ:=qz.mk (qx BX2.o hb);have HB4:=qz.mk (qy HB3.o hb);clear hb))
 have hq0 : (w3.alloc (.cells #[] 58)).cell? ⟨gb + 1,0,none⟩ = some (.slice none 0 0):=(qq (qx BQ.o (qo (Below.refl _ _) _)) 0).trans rfl
 have hq1 : (w3.alloc (.cells #[] 58)).cell? ⟨gb + 1,1,none⟩ = some (.slice none 0 0):=(qq (qx BQ.o (qo (Below.refl _ _) _)) 1).trans rfl
 have fq0:=qu (qx BQ.o (qo (Below.refl w3.heap.size w3) (.cells #[] 58))) 0
 have fq1:=qu (qx BQ.o (qo (Below.refl w3.heap.size w3) (.cells #[] 58))) 1
 go_wp2_with fail
 try simp only [Exit.inBlock,Exit.then]
 refine bodyPost_ret (Ug' (rs:=[.tmp 2,.cell 3 30,.tmp 4]) rfl ia' (.tmp (.cell (gb + 1) 30 #[.slice none 0 0,.slice none 0 0] (0,0) _ rfl (putp (qx BQ.o (qo (Below.refl _ _) _))) hu30 rfl da' (.tmp .nil)))) rfl ?_
 have BQ5:=qx BQ.o (qo (Below.refl w3.heap.size w3) (.cells #[] 58))
 have t30_58 : ∀ q,q ∈ 58 :: k58.E → q ≠ 30:=by
  intro q hq
  have hq : q ∈ ([58] : List Nat):=hq
  obtain rfl : q = 58:=List.mem_singleton.1 hq
  decide
 have hR0 : Kd.R k58 58 (w3.alloc (.cells #[] 58)) w.heap.size (fun _=>True) (.slice (some ⟨w3.heap.size,0,none⟩) 0 0) []:=Oh' k58 HB4.o.size (yd' w3 _) trivial
 subst hgb
 exact ⟨_,rfl,Kd.R_set (Kd.R_set hR0 BQ5 t30_58 0 _) (be' BQ5 0 _) t30_58 1 _,qp (qp (qo HB4.o _) aa') aa'⟩
theorem Al' (w : World) (N : Int) (Ae : Option Addr) (ce : Nat) (es : List (S73)) (hC : Kd.C k73 w Ae es.length es) (hec : es.length ≤ ce) (h : es.length ≤ 1048576 ∧ gkB N es = true) (hN : 0 ≤ N ∧ N ≤ 1000) (kr : Nat) (s' : RI) (hr : Rh' N es kr (newS N es) s')
  (hw : WFn (cvs s'.nd)) (hNn : N ≤ s'.nd.length) (hsz : s'.nd.length ≤ 1000000) (hy : s'.y.length ≤ 1000000) (gs : List (List Int × Int)) (hg : oh' s'.nd N (s'.nd.length + 1) N [] = gs)
  (s2 : RI) (hP : Tg' N s'.nd.length s'.nd.length s' s2) (hmt : s2.mt.length ≤ 1000000) (ps : List (Int × Int)) (hp : aj' s2.mt N (N.toNat + 1) 0 [] = ps) (hpl : ps.length ≤ 1000000) :
  Calls Tryz.prog 5 #[.agg #[.int .i64 N,.slice Ae es.length ce]] w fun e w'=>∃ vY vG vC,e = .returned (.tuple #[vC,.agg #[vY,vG],.bool true]) ∧ Kd.R (Kd.int .i64) 3 w' w.heap.size (fun _=>True) vY s'.y ∧ Kd.N k80 80 w' w.heap.size (fun _=>True) vG (gs.map mkG) ∧ Kd.R k58 58 w' w.heap.size (fun _=>True) vC (ps.map mkC) ∧ Below w.heap.size w w':=by
 have hu35:=Tryz.underlying35
 have hu30:=Tryz.underlying30
 have hu51:=Tryz.underlying51
 have hu56:=Tryz.underlying56
 have HC:=qz.mk hC
 have HEC:=qz.mk hec
 have HG:=qz.mk h
 have HN:=qz.mk hN
 have HRR:=qz.mk hr
 have HW:=qz.mk hw
 have H0:=qz.mk (And.intro hNn (And.intro hsz hy))
 have HGR:=qz.mk hg
 have HPP:=qz.mk hP
 have HMT:=qz.mk (And.intro hmt hpl)
 have HPS:=qz.mk hp
 clear hC hec h hN hr hw hNn hsz hy hg hP hmt hp hpl
 go_enter Tryz.func5,Tryz.ntmps5
 go_upto_region 1 with fail
 have e1 : (w.alloc (.cells #[.int .i64 N,.slice Ae es.length ce] 35)).heap.size = w.heap.size + 1:=by simp
 have BX1 : qz ((w.alloc (.cells #[.int .i64 N,.slice Ae es.length ce] 35)).heap[w.heap.size]? = some (.cells #[.int .i64 N,.slice Ae es.length ce] 35 (0,0))):=⟨yd' w _⟩
 have HB1 : qz (Below w.heap.size w (w.alloc (.cells #[.int .i64 N,.slice Ae es.length ce] 35))):=⟨qo (Below.refl _ _) _⟩
 generalize w.alloc (.cells #[.int .i64 N,.slice Ae es.length ce] 35) = W1 at *
 have BX2 : qz ((W1.alloc (.cells #[.slice none 0 0,.slice none 0 0] 30)).heap[W1.heap.size]? = some (.cells #[.slice none 0 0,.slice none 0 0] 30 (0,0))):=⟨yd' W1 _⟩
 have HB2 : qz (Below W1.heap.size W1 (W1.alloc (.cells #[.slice none 0 0,.slice none 0 0] 30))):=⟨qo (Below.refl _ _) _⟩
 generalize W1.alloc (.cells #[.slice none 0 0,.slice none 0 0] 30) = W2 at *
 rw [e1] at BX2
 clear e1
 have BX3:=qz.mk (qx BX1.o HB2.o)
 have HB3 : qz (Below w.heap.size w W2):=⟨qy HB1.o HB2.o⟩
 have HLE : qz (w.heap.size < W2.heap.size ∧ w.heap.size + 1 < W2.heap.size):=⟨ke' BX3.o,ke' BX2.o⟩
 generalize hgb : w.heap.size = gb at BX1 BX2 BX3 ⊢
 have hb0 : W2.cell? ⟨gb,0,none⟩ = some (.int .i64 N):=(qq BX3.o 0).trans rfl
 have hb1 : W2.cell? ⟨gb,1,none⟩ = some (.slice Ae es.length ce):=(qq BX3.o 1).trans rfl
 have HCC : qz (Kd.C k73 W2 Ae es.length es):=⟨Kd.C_below HC.o HB3.o⟩
 go_upto_region 3 with (first|(go_at_call 17;refine (Ci' W2 N Ae ce es HCC.o HG.o.1 true HG.o.2).mono ?_;rintro e w3 ⟨rfl,hb⟩;have BQ:=qz.mk (qx BX2.o hb);have BX4:=qz.mk (qx BX3.o hb);have HB4:=qz.mk (qy HB3.o hb);clear hb))
 clear hb0 hb1 HCC
 have hb0 : w3.cell? ⟨gb,0,none⟩ = some (.int .i64 N):=(qq BX4.o 0).trans rfl
 have hb1 : w3.cell? ⟨gb,1,none⟩ = some (.slice Ae es.length ce):=(qq BX4.o 1).trans rfl
 have HCC : qz (Kd.C k73 w3 Ae es.length es):=⟨Kd.C_below HC.o HB4.o⟩
 go_upto_region 4 with (first|(go_at_call 18;refine (tl' w3 N Ae ce es HCC.o HEC.o HN.o kr s' HRR.o).mono ?_;rintro e w4 ⟨g,rfl,col,vy,vn,vm,hs⟩;have HS:=qz.mk hs;clear hs))
 obtain ⟨Ay,cy,e_⟩:=Kd.R_slice HS.o.ry
 subst e_
 have HS4:=qz.mk (HS.o.ahead 4)
 have HBe : qz (Below w4.heap.size w4 (w4.alloc (.cells #[] 3))):=⟨qo (Below.refl _ _) _⟩
 have HNe : qz (Kd.R (Kd.int .i64) 3 (w4.alloc (.cells #[] 3)) w4.heap.size (fun _=>True) (.slice (some ⟨w4.heap.size,0,none⟩) 0 0) []):=⟨Oh' (Kd.int .i64) (Nat.le_refl _) (yd' w4 _) trivial⟩
 have HRY : qz (Kd.C (Kd.int .i64) (w4.alloc (.cells #[] 3)) Ay s'.y.length s'.y):=⟨Kd.C_below (Kd.R_reads' HS.o.ry).2.2 HBe.o⟩
 have hc:=(HS4.o.to HBe.o).cells
 clear hb0 hb1 HCC BX1 BX2 BX3 HB1 HB2 HB3
 go_upto_region 5 with (first|((with_reducible refine Ld' (b:=.append) (xs:=#[.tmp 20,.tmp 24]) rfl ?_);at_builtin;refine Kd.R_append_rows (Kd.int .i64) (w0:=w4) (W:=w4.alloc (.cells #[] 3)) w4.heap.size rfl (.tmp 20) (.tmp 24) 27 3 (.int .i64 0) 8 rfl Tryz.underlying27 Ud' rfl ba' aa' (.slice (some ⟨w4.heap.size,0,none⟩) 0 0) ([] : List Int) s'.y Ay s'.y.length cy (fun _=>True) (fun _=>False) rfl rfl HNe.o HRY.o (fun _ _ h=>h) (fun _ h=>h.elim) (fun _ _=>trivial) HBe.o HBe.o.size (by have:=H0.o.2.2;simp only [List.length_nil];omega) ?_;intro v5 w5 ho hb hg hat;rw [List.nil_append] at ho;obtain ⟨AY,cY,e_⟩:=Kd.R_slice ho;subst e_;have HY5:=qz.mk ho;have HB5:=qz.mk hb;clear ho hb hg hat)|(go_at_call 19;refine (sn' (HS4.o.to HB5.o) HW.o ⟨HN.o.1,H0.o.1,HN.o.2⟩ H0.o.2.1 gs HGR.o).mono ?_;rintro e w6 ⟨vG,rfl,hG,hB⟩;obtain ⟨AG,cG,e_⟩:=Kd.N_slice hG;rw [List.length_map] at e_;subst e_;have HG6:=qz.mk hG;have HB6:=qz.mk hB;clear hG hB))
 have e7 : (w6.alloc (.cells #[.slice AY s'.y.length cY,.slice AG gs.length cG] 30)).heap.size = w6.heap.size + 1:=by simp
 have BXP : qz ((w6.alloc (.cells #[.slice AY s'.y.length cY,.slice AG gs.length cG] 30)).heap[w6.heap.size]? = some (.cells #[.slice AY s'.y.length cY,.slice AG gs.length cG] 30 (0,0))):=⟨yd' w6 _⟩
 have HBP : qz (Below w6.heap.size w6 (w6.alloc (.cells #[.slice AY s'.y.length cY,.slice AG gs.length cG] 30))):=⟨qo (Below.refl _ _) _⟩
 generalize w6.alloc (.cells #[.slice AY s'.y.length cY,.slice AG gs.length cG] 30) = W7 at *
 have HE7:=qz.mk e7
 clear e7
 have HB7 : qz (Below w4.heap.size w4 W7):=⟨qy HB5.o (qy HB6.o HBP.o)⟩
 have HS7:=qz.mk ((HS4.o.to HB7.o).keep (Z':=fun q=>w4.heap.size ≤ q ∧ q < W7.heap.size) (fun q hq=>⟨by show 4 ≤ (if w4.heap.size ≤ q then 4 else col q);rw [if_pos hq.1];exact Nat.le_refl _,fun e=>by have:=ke' HS.o.blk;have:=hq.1;omega,hq.2⟩))
 have HPL : qz (w4.heap.size ≤ w6.heap.size):=⟨by have:=HB5.o.size;have:=HB6.o.size;omega⟩
 have hc:=HS7.o.cells
 generalize (fun k=>if w4.heap.size ≤ k then 4 else col k) = col7 at HS7
 clear HRY HNe HBe HS4 hc
 obtain ⟨An,cn,e_⟩:=Kd.R_slice HS7.o.rn
 subst e_
 obtain ⟨n0,hn0⟩ : ∃ n,s'.nd.length = n:=⟨_,rfl⟩
 rw [hn0] at HPP HS7
 have HNL:=qz.mk hn0
 have HNZ : qz (n0 ≤ 1000000 ∧ N ≤ n0):=⟨pa'⟩
 clear hn0
 go_wp2_with fail
 go_loopg [7] (n0 + 1) (fun kq v7 w'=>∃ (k : Nat) (s1 : RI) (col1 : Nat → Nat) (vm1 : Value),v7 = .int .i64 (k : Int) ∧ qz (k + kq = n0 + 1 ∧ k ≤ n0) ∧ qz (s1.nd.length = n0) ∧ qz (Tg' N n0 (kq - 1) s1 s2) ∧ qz (Rn w3 w' (fun q=>w4.heap.size ≤ q ∧ q < W7.heap.size) W7 g N Ae ce es col1 (.slice Ay s'.y.length cy) (.slice An n0 cn) vm1 s1))
 case atStart=>exact ⟨0,s',col7,vm,rfl,⟨aa',aa'⟩,HNL,HPP,HS7⟩
 clear HS7 HPP
 obtain ⟨k,s1,col1,vm1,rfl,HK,HL1,HP1,HS1⟩:=hrel
 have hc:=HS1.o.cells
 cases gk with
 | zero =>
  exfalso
  have h1:=HK.o
  omega
 | succ k1 =>
  have h:=HP1.o
  clear HP1
  rw [Nat.add_sub_cancel] at h
  by_cases c : k < n0
  ·cases h with
   | done hl =>
    exfalso
    have h1:=HK.o
    omega
   | @more j _ sb _ hl hp rest =>
    have HRS:=qz.mk rest
    have HPA:=qz.mk hp
    have cl0 : decide ((k : Int) < (n0 : Int)) = true:=decide_eq_true aa'
    have cl1:=eq_true c
    clear hl hp rest c
    go_wp2_with fail
    go_loopg [8] (n0 + 1) (fun ki v8 w'=>∃ (i : Int) (sa : RI) (col2 : Nat → Nat) (vm2 : Value),v8 = .int .i64 i ∧ qz (0 ≤ i ∧ (n0 : Int) < i + ki ∧ i ≤ n0) ∧ qz (sa.nd.length = n0) ∧ qz (yi' N i sa sb) ∧ qz (Rn w3 w' (fun q=>w4.heap.size ≤ q ∧ q < W7.heap.size) W7 g N Ae ce es col2 (.slice Ay s'.y.length cy) (.slice An n0 cn) vm2 sa))
    case atStart=>exact ⟨N,s1,col1,vm1,rfl,⟨HN.o.1,sa',HNZ.o.2⟩,HL1,HPA,HS1⟩
    clear HPA HS1 hc
    obtain ⟨i,sa,col2,vm2,rfl,HI,HL2,HPA,HS2⟩:=hrel
    have hc:=HS2.o.cells
    have h:=HPA.o
    clear HPA
    cases gk with
    | zero =>
     exfalso
     have h1:=HI.o
     omega
    | succ k2 =>
     cases h with
     | done h hw =>
      have cl2 : decide (i < (n0 : Int)) = false:=decide_eq_false Gb'
      clear h hw
      go_wp2_with fail
      go_roundg (j + 1)
      case measure=>omega
      case rel=>exact ⟨k + 1,sb,col2,vm2,by rw [w64 aa' (by have:=HK.o;have:=HNZ.o;omega)];rfl,⟨Fb',Fb'⟩,HL2,HRS,HS2⟩
     | skip h hw ht rest =>
      have cl2 : decide (i < (n0 : Int)) = true:=decide_eq_true Gb'
      have HIL : qz (i < (n0 : Int)):=⟨Gb'⟩
      have HIT:=qz.mk (ne' HS2.o i false ⟨HI.o.1,h⟩ ht)
      have HPA:=qz.mk rest
      clear h hw ht rest
      go_wp2_with (first|(go_at_call 20;(with_reducible refine HIT.o.mono ?_);rintro e_ w8 ⟨rfl,h2⟩;replace h2:=h2.symm;subst h2))
      go_roundg k2
      case measure=>omega
      case rel=>exact ⟨i + 1,sa,col2,vm2,od',⟨fa',fa',ga'⟩,HL2,HPA,HS2⟩
     | opn h hw ht hU rest =>
      have cl2 : decide (i < (n0 : Int)) = true:=decide_eq_true Gb'
      have HIL : qz (i < (n0 : Int)):=⟨Gb'⟩
      have HIT:=qz.mk (ne' HS2.o i true ⟨HI.o.1,h⟩ ht)
      have HOC:=qz.mk (Fh' HS2.o hw hU.m hU.sz i hU.ni hU.b hU.mem hU.pos hU.lk hU.szf)
      have HPA:=qz.mk rest
      clear h hw ht rest hU
      go_wp2_with (first|(go_at_call 20;(with_reducible refine HIT.o.mono ?_);rintro e_ w8 ⟨rfl,h2⟩;replace h2:=h2.symm;subst h2)|(go_at_call 21;refine HOC.o.mono ?_;rintro e_ w9 ⟨rfl,col3,vm3,hs,hcol⟩;have HS3:=qz.mk hs;clear hs hcol))
      go_roundg k2
      case measure=>omega
      case rel=>exact ⟨i + 1,nf' sa i,col3,vm3,od',⟨fa',fa',ga'⟩,⟨by rw [Zp'];exact HL2.o⟩,HPA,HS3⟩
  have hs1 : s1 = s2:=by
   cases h with
   | done hl=>rfl
   | more hl hp rest =>
    exfalso
    have h1:=HK.o
    omega
  subst hs1
  have cl0 : decide ((k : Int) < (n0 : Int)) = false:=decide_eq_false aa'
  have cl1:=eq_false c
  clear h c
  have HFZ:=qz.mk (fun q (h : w4.heap.size ≤ q ∧ q < W7.heap.size)=>(HS1.o.hz q h).2.2.2)
  have HW3:=qz.mk HS1.o.hb
  obtain ⟨Am,cm,e_⟩:=Kd.R_slice HS1.o.rm
  subst e_
  have HGE : qz (w4.heap.size ≤ wr.heap.size ∧ W7.heap.size ≤ wr.heap.size):=⟨by
   have h1:=ke' BXP.o
   have h2:=(HS1.o.hz w6.heap.size ⟨HPL.o,h1⟩).2.2.1
   have h3:=HE7.o
   have h4:=HPL.o
   omega⟩
  go_upto_region 14 with fail
  have HBE : qz (Below wr.heap.size wr (wr.alloc (.cells #[] 58))):=⟨qo (Below.refl _ _) _⟩
  have HOE : qz (Kd.R k58 58 (wr.alloc (.cells #[] 58)) wr.heap.size (fun _=>True) (.slice (some ⟨wr.heap.size,0,none⟩) 0 0) []):=⟨Oh' k58 (Nat.le_refl _) (yd' wr _) trivial⟩
  generalize hW3 : wr = W13 at *
  generalize W13.alloc (.cells #[] 58) = W14 at *
  clear hW3 hc
  obtain ⟨b13,hb13⟩ : ∃ b,W13.heap.size = b:=⟨_,rfl⟩
  rw [hb13] at HBE HOE ⊢
  have HB13:=qz.mk hb13
  clear hb13
  go_wp2_with fail
  go_loopg [9,10] (N.toNat + 1) (fun kq v9 v10 w'=>∃ (v : Nat) (acc : List (Int × Int)),v10 = .int .i64 (v : Int) ∧ qz (v + kq = N.toNat + 1 ∧ v ≤ N.toNat) ∧ qz (aj' s1.mt N kq v acc = ps) ∧ qz (Kd.R k58 58 w' b13 (fun _=>True) v9 (acc.map mkC)) ∧ qz (Below b13 W13 w'))
  case atStart=>exact ⟨0,[],rfl,⟨aa',aa'⟩,HPS,HOE,HBE⟩
  clear HPS HOE HBE
  obtain ⟨v,acc,rfl,HV,HPS,HO,HB⟩:=hrel
  have hb13:=HB13.o
  have HBr : qz (Below W13.heap.size W13 wr):=⟨hb13 ▸ HB.o⟩
  have BX5:=qz.mk (qx BX4.o (qy HW3.o HBr.o))
  have hb0 : wr.cell? ⟨gb,0,none⟩ = some (.int .i64 N):=(qq BX5.o 0).trans rfl
  have h:=HPS.o
  clear HPS hb13
  cases gk with
  | zero =>
   exfalso
   have h1:=HV.o
   omega
  | succ k1 =>
   rw [aj'] at h
   by_cases c : (v : Int) < N
   ·rw [if_pos c] at h
    have HPS:=qz.mk h
    have HVL:=qz.mk c
    have cl0 : decide ((v : Int) < N) = true:=decide_eq_true c
    clear h c
    go_wp2_with fail
    go_loopg [9,11] (s1.mt.length + 1) (fun ki v9 v11 w'=>∃ (i : Nat) (acc2 : List (Int × Int)),v11 = .int .i64 (i : Int) ∧ qz (i + ki = s1.mt.length + 1 ∧ i ≤ s1.mt.length) ∧ qz (cplV (v : Int) (s1.mt.drop i) acc2 = cplV (v : Int) s1.mt acc) ∧ qz (Kd.R k58 58 w' b13 (fun _=>True) v9 (acc2.map mkC)) ∧ qz (Below b13 W13 w'))
    case atStart=>exact ⟨0,acc,rfl,⟨aa',aa'⟩,⟨rfl⟩,HO,HB⟩
    clear HO HB hb0 BX5 HBr
    obtain ⟨i,acc2,rfl,HI,HC2,HO,HB⟩:=hrel
    have HA2 : qz (acc2.length ≤ 1000000):=⟨by
     have h1:=yk' (v:=(v : Int)) (l:=s1.mt.drop i) (acc:=acc2)
     rw [HC2.o] at h1
     have h2:=tn' (mts:=s1.mt) (N:=N) (k:=k1) (v:=(v : Int) + 1) (acc:=cplV (v : Int) s1.mt acc)
     rw [HPS.o] at h2
     have:=HMT.o.2
     omega⟩
    have hb13:=HB13.o
    have HBr : qz (Below W13.heap.size W13 wr):=⟨hb13 ▸ HB.o⟩
    have HS8:=qz.mk (HS1.o.to HBr.o)
    have hc:=HS8.o.cells
    clear hb13
    obtain ⟨A9,c9,e_⟩:=Kd.R_slice HO.o
    rw [List.length_map] at e_
    subst e_
    cases gk with
    | zero =>
     exfalso
     have h1:=HI.o
     omega
    | succ k2 =>
     by_cases c : i < s1.mt.length
     ·have cl1 : decide ((i : Int) < (s1.mt.length : Int)) = true:=decide_eq_true aa'
      have cl2:=eq_true c
      have HIL:=qz.mk c
      obtain ⟨adm,e_,hm0,hm1⟩:=Cf' (Kd.R_reads' HS8.o.rm).2.2 (i : Int) aa' aa'
      subst e_
      have p : ((0 : Int) ≤ (i : Int)) = True:=eq_true aa'
      have q : ((i : Int) < (s1.mt.length : Int)) = True:=eq_true aa'
      have hdr : s1.mt.drop i = xd' s1.mt (i : Int) :: s1.mt.drop (i + 1):=by
       rw [List.drop_eq_getElem_cons c]
       congr 1
       simp [xd',c]
      obtain ⟨X,hX⟩ : ∃ X,xd' s1.mt (i : Int) = X:=⟨_,rfl⟩
      rw [hX] at hm0 hm1
      simp only [Int.toNat_natCast] at hm0 hm1
      clear c
      go_upto_region 21 with fail
      have BXX : qz ((wr.alloc (.cells #[.int .i64 X.f0,.int .i64 X.f1] 56)).heap[wr.heap.size]? = some (.cells #[.int .i64 X.f0,.int .i64 X.f1] 56 (0,0))):=⟨yd' wr _⟩
      have HBX : qz (Below wr.heap.size wr (wr.alloc (.cells #[.int .i64 X.f0,.int .i64 X.f1] 56))):=⟨qo (Below.refl _ _) _⟩
      generalize wr.alloc (.cells #[.int .i64 X.f0,.int .i64 X.f1] 56) = W9 at *
      have HO9:=qz.mk (Kd.R_below HO.o HBX.o)
      have HB9 : qz (Below b13 W13 W9):=⟨HB13.o ▸ qy HBr.o HBX.o⟩
      have HSZ9 : qz (b13 ≤ W9.heap.size):=⟨by have:=HBr.o.size;have:=HBX.o.size;have:=HB13.o;omega⟩
      have HDR : qz (s1.mt.drop i = X :: s1.mt.drop (i + 1)):=⟨by rw [hdr,hX]⟩
      generalize wr.heap.size = gx at BXX ⊢
      have hx0 : W9.cell? ⟨gx,0,none⟩ = some (.int .i64 X.f0):=(qq BXX.o 0).trans rfl
      have hx1 : W9.cell? ⟨gx,1,none⟩ = some (.int .i64 X.f1):=(qq BXX.o 1).trans rfl
      clear hdr hX hm0 hm1 hc HBX HS8 HBr HO HB
      by_cases c0 : X.f0 = (v : Int)
      ·have b0 : (X.f0 == (v : Int)) = true:=by simpa using c0
       by_cases c1 : (v : Int) < X.f1
       ·have b1 : decide ((v : Int) < X.f1) = true:=decide_eq_true c1
        have b1' : decide (X.f1 > (v : Int)) = true:=b1
        have d0 : (X.f1 == (v : Int)) = false:=by simp;omega
        have HCN : qz ((X.f0 = (v : Int) ∧ (v : Int) < X.f1) ∧ ¬(X.f1 = (v : Int) ∧ (v : Int) < X.f0)):=⟨⟨c0,c1⟩,fun h=>by omega⟩
        clear c0 c1
        have HCV : qz (cplV (v : Int) (s1.mt.drop (i + 1)) (acc2 ++ [((v : Int),X.f1)]) = cplV (v : Int) s1.mt acc):=⟨by have h:=HC2.o;rw [HDR.o,cplV,if_neg HCN.o.2,if_pos HCN.o.1] at h;exact h⟩
        go_wp2_with (first|((with_reducible refine Ld' (b:=.append) (xs:=#[.tmp 91,.tmp 96]) rfl ?_);at_builtin;refine Kd.R_append k58 (w0:=W13) (W:=W9) b13 rfl (.tmp 91) (.tmp 96) 26 58 (.agg #[(.int .i64 0),(.int .i64 0)]) 16 rfl Tryz.underlying26 mn' rfl ba' aa' (.slice A9 acc2.length c9) (acc2.map mkC) (⟨(v : Int),X.f1⟩ : S58) [.int .i64 (v : Int),.int .i64 X.f1] (fun _=>True) (fun _=>False) rfl rfl (Lj' _ _ _ (⟨(v : Int),X.f1⟩ : S58)) (fun _ hk=>hk.elim) (fun _ _=>trivial) HO9.o HB9.o HSZ9.o (by rw [List.length_map];have:=HA2.o;omega) ?_;intro v7 w7 ho hb hg hat;obtain ⟨A7,c7,e_⟩:=Kd.R_slice ho;rw [List.length_append,List.length_map,List.length_singleton] at e_;subst e_;have HO7:=qz.mk ho;have HB7b:=qz.mk hb;have hy0 : w7.cell? ⟨gx,0,none⟩ = some (.int .i64 X.f0):=(qq (le' BXX.o hg (Kd.R_ne HO9.o BXX.o ba')) 0).trans rfl;have hy1 : w7.cell? ⟨gx,1,none⟩ = some (.int .i64 X.f1):=(qq (le' BXX.o hg (Kd.R_ne HO9.o BXX.o ba')) 1).trans rfl;clear ho hb hg hat))
        go_roundg k2
        case measure=>omega
        case rel=>exact ⟨i + 1,acc2 ++ [((v : Int),X.f1)],pb',⟨fa',ga'⟩,HCV,⟨by rw [List.map_append];exact HO7.o⟩,HB7b⟩
       have b1 : decide ((v : Int) < X.f1) = false:=decide_eq_false c1
       have b1' : decide (X.f1 > (v : Int)) = false:=b1
       have HCN : qz (¬(X.f0 = (v : Int) ∧ (v : Int) < X.f1) ∧ ¬(X.f1 = (v : Int) ∧ (v : Int) < X.f0)):=⟨fun h=>c1 h.2,fun h=>by omega⟩
       have e1 : decide ((v : Int) < X.f0) = false:=decide_eq_false aa'
       have e1' : decide (X.f0 > (v : Int)) = false:=e1
       by_cases d : X.f1 = (v : Int)
       ·have d0 : (X.f1 == (v : Int)) = true:=by simpa using d
        clear c0 c1 d
        have HCV : qz (cplV (v : Int) (s1.mt.drop (i + 1)) (acc2) = cplV (v : Int) s1.mt acc):=⟨kc'⟩
        go_wp2_with fail
        go_roundg k2
        case measure=>omega
        case rel=>exact ⟨i + 1,acc2,pb',⟨fa',ga'⟩,HCV,HO9,HB9⟩
       have d0 : (X.f1 == (v : Int)) = false:=by simpa using d
       clear c0 c1 d
       have HCV : qz (cplV (v : Int) (s1.mt.drop (i + 1)) (acc2) = cplV (v : Int) s1.mt acc):=⟨kc'⟩
       go_wp2_with fail
       go_roundg k2
       case measure=>omega
       case rel=>exact ⟨i + 1,acc2,pb',⟨fa',ga'⟩,HCV,HO9,HB9⟩
      have b0 : (X.f0 == (v : Int)) = false:=by simpa using c0
      by_cases d : X.f1 = (v : Int)
      ·have d0 : (X.f1 == (v : Int)) = true:=by simpa using d
       by_cases d1 : (v : Int) < X.f0
       ·have e1 : decide ((v : Int) < X.f0) = true:=decide_eq_true d1
        have e1' : decide (X.f0 > (v : Int)) = true:=e1
        have HCN : qz (¬(X.f0 = (v : Int) ∧ (v : Int) < X.f1) ∧ (X.f1 = (v : Int) ∧ (v : Int) < X.f0)):=⟨fun h=>c0 h.1,d,d1⟩
        clear c0 d d1
        have HCV : qz (cplV (v : Int) (s1.mt.drop (i + 1)) (acc2 ++ [((v : Int),X.f0)]) = cplV (v : Int) s1.mt acc):=⟨by have h:=HC2.o;rw [HDR.o,cplV,if_pos HCN.o.2,if_neg HCN.o.1] at h;exact h⟩
        go_wp2_with (first|((with_reducible refine Ld' (b:=.append) (xs:=#[.tmp 108,.tmp 113]) rfl ?_);at_builtin;refine Kd.R_append k58 (w0:=W13) (W:=W9) b13 rfl (.tmp 108) (.tmp 113) 26 58 (.agg #[(.int .i64 0),(.int .i64 0)]) 16 rfl Tryz.underlying26 mn' rfl ba' aa' (.slice A9 acc2.length c9) (acc2.map mkC) (⟨(v : Int),X.f0⟩ : S58) [.int .i64 (v : Int),.int .i64 X.f0] (fun _=>True) (fun _=>False) rfl rfl (Lj' _ _ _ (⟨(v : Int),X.f0⟩ : S58)) (fun _ hk=>hk.elim) (fun _ _=>trivial) HO9.o HB9.o HSZ9.o (by rw [List.length_map];have:=HA2.o;omega) ?_;intro v7 w7 ho hb hg hat;obtain ⟨A7,c7,e_⟩:=Kd.R_slice ho;rw [List.length_append,List.length_map,List.length_singleton] at e_;subst e_;have HO7:=qz.mk ho;have HB7b:=qz.mk hb;have hy0 : w7.cell? ⟨gx,0,none⟩ = some (.int .i64 X.f0):=(qq (le' BXX.o hg (Kd.R_ne HO9.o BXX.o ba')) 0).trans rfl;have hy1 : w7.cell? ⟨gx,1,none⟩ = some (.int .i64 X.f1):=(qq (le' BXX.o hg (Kd.R_ne HO9.o BXX.o ba')) 1).trans rfl;clear ho hb hg hat))
        go_roundg k2
        case measure=>omega
        case rel=>exact ⟨i + 1,acc2 ++ [((v : Int),X.f0)],pb',⟨fa',ga'⟩,HCV,⟨by rw [List.map_append];exact HO7.o⟩,HB7b⟩
       have e1 : decide ((v : Int) < X.f0) = false:=decide_eq_false d1
       have e1' : decide (X.f0 > (v : Int)) = false:=e1
       have HCN : qz (¬(X.f0 = (v : Int) ∧ (v : Int) < X.f1) ∧ ¬(X.f1 = (v : Int) ∧ (v : Int) < X.f0)):=⟨fun h=>c0 h.1,fun h=>d1 h.2⟩
       clear c0 d d1
       have HCV : qz (cplV (v : Int) (s1.mt.drop (i + 1)) (acc2) = cplV (v : Int) s1.mt acc):=⟨kc'⟩
       go_wp2_with fail
       go_roundg k2
       case measure=>omega
       case rel=>exact ⟨i + 1,acc2,pb',⟨fa',ga'⟩,HCV,HO9,HB9⟩
      have d0 : (X.f1 == (v : Int)) = false:=by simpa using d
      have HCN : qz (¬(X.f0 = (v : Int) ∧ (v : Int) < X.f1) ∧ ¬(X.f1 = (v : Int) ∧ (v : Int) < X.f0)):=⟨fun h=>c0 h.1,fun h=>d h.1⟩
      clear c0 d
      have HCV : qz (cplV (v : Int) (s1.mt.drop (i + 1)) (acc2) = cplV (v : Int) s1.mt acc):=⟨kc'⟩
      go_wp2_with fail
      go_roundg k2
      case measure=>omega
      case rel=>exact ⟨i + 1,acc2,pb',⟨fa',ga'⟩,HCV,HO9,HB9⟩
     have cl1 : decide ((i : Int) < (s1.mt.length : Int)) = false:=decide_eq_false aa'
     have cl2:=eq_false c
     have HCD : qz (acc2 = cplV (v : Int) s1.mt acc):=⟨by have h:=HC2.o;rw [List.drop_eq_nil_of_le aa',cplV] at h;exact h⟩
     clear c
     go_wp2_with fail
     go_roundg k1
     case measure=>omega
     case rel=>exact ⟨v + 1,acc2,by rw [w64 aa' (by have:=HVL.o;have:=HN.o;omega)];rfl,⟨by have:=HV.o;omega,Db'⟩,⟨by rw [HCD.o];exact HPS.o⟩,HO,HB⟩
   rw [if_neg c] at h
   subst h
   have cl0 : decide ((v : Int) < N) = false:=decide_eq_false c
   clear c
   obtain ⟨A9,c9,e_⟩:=Kd.R_slice HO.o
   rw [List.length_map] at e_
   subst e_
   go_upto_region 25 with fail
   have BPd : qz (wr.heap[w6.heap.size]? = some (.cells #[.slice AY s'.y.length cY,.slice AG gs.length cG] 30 (0,0))):=⟨qx ((HFZ.o w6.heap.size ⟨HPL.o,ke' BXP.o⟩).trans BXP.o) HBr.o⟩
   have BQd : qz (wr.heap[gb + 1]? = some (.cells #[.slice none 0 0,.slice none 0 0] 30 (0,0))):=⟨qx BQ.o (qy HW3.o HBr.o)⟩
   have hq0 : wr.cell? ⟨gb + 1,0,none⟩ = some (.slice none 0 0):=(qq BQd.o 0).trans rfl
   have hq1 : wr.cell? ⟨gb + 1,1,none⟩ = some (.slice none 0 0):=(qq BQd.o 1).trans rfl
   have fq0:=qu BQd.o 0
   have fq1:=qu BQd.o 1
   clear hb0
   refine Md' (n:=5) (S:=fun w'=>w'.cell? ⟨w6.heap.size,0,none⟩ = some (.slice AY s'.y.length cY) ∧ w'.cell? ⟨w6.heap.size,1,none⟩ = some (.slice AG gs.length cG)) (ds:=[3]) (Array.replicate 5 false) da' rfl rfl ⟨(qq BPd.o 0).trans rfl,(qq BPd.o 1).trans rfl⟩ (fun hHeld=>?_)
   refine pa_ 0 115 (bz_ 5 1) ?_
   refine pa_ 2 2 (bz_ 5 5) ?_
   refine ta_ 1 116 (bz_ 5 7) hHeld (hy:=Or.inl ⟨ca',ja'⟩) (h:=?_)
   refine de' (i:=3) (N:=none) (bz_ 5 15) rfl rfl da' ba' (fun K hK=>?_)
   refine Id' (w1:=?_) ca' rfl ?_ ?_
   rotate_left
   ·go_simp
    rfl
   refine hK.out _ _ ?_
   clear hK K
   refine pa_ 4 4 (bz_ 5 31) ?_
   refine Wd' da' ?_
   have t30_3 : ∀ q,q ∈ 3 :: (Kd.int .i64).E → q ≠ 30:=by intro q hq;obtain rfl : q = 3:=List.mem_singleton.1 hq;decide
   have t30_58 : ∀ q,q ∈ 58 :: k58.E → q ≠ 30:=by
    intro q hq
    have hq : q ∈ ([58] : List Nat):=hq
    obtain rfl : q = 58:=List.mem_singleton.1 hq
    decide
   have BQ9:=qz.mk (putp (c:=.slice AY s'.y.length cY) (d:=.slice AG gs.length cG) BQd.o)
   have HR9:=qz.mk (be' BQd.o 0 (.slice AY s'.y.length cY))
   have hY7 : Kd.R (Kd.int .i64) 3 W7 w4.heap.size (fun _=>True) (.slice AY s'.y.length cY) s'.y:=Kd.R_below HY5.o (qy HB6.o HBP.o)
   have hYr : Kd.R (Kd.int .i64) 3 wr w4.heap.size (fun _=>True) (.slice AY s'.y.length cY) s'.y :=
    Kd.R_below (Kd.R_mono (Kd.R_step (Kd.R_bound hY7) (fun q hq hl=>HFZ.o q ⟨hq.2.1,hl⟩)) (fun _ _=>trivial)) HBr.o
   have HLE5 : qz (w4.heap.size ≤ w5.heap.size ∧ w.heap.size ≤ w4.heap.size ∧ gb + 1 < w4.heap.size ∧ w.heap.size ≤ b13):=⟨by
    have h1:=HB5.o.size
    have h2:=HB4.o.size
    have h3:=HS.o.hb.size
    have h4:=ke' BQ.o
    have h5:=HW3.o.size
    have h6:=HB13.o
    omega⟩
   have hG7 : Kd.N k80 80 W7 w5.heap.size (fun q=>w5.heap.size ≤ q) (.slice AG gs.length cG) (gs.map mkG):=Kd.N_below HG6.o HBP.o
   have hGr : Kd.N k80 80 wr w5.heap.size (fun q=>w5.heap.size ≤ q) (.slice AG gs.length cG) (gs.map mkG) :=
    Kd.N_below (Kd.N_step hG7 (fun q hq hl=>HFZ.o q ⟨by have:=HLE5.o.1;omega,hl⟩)) HBr.o
   have HY9:=qz.mk (Kd.R_set (Kd.R_set hYr BQd.o t30_3 0 (.slice AY s'.y.length cY)) HR9.o t30_3 1 (.slice AG gs.length cG))
   have HG9:=qz.mk (Kd.N_far (p:=⟨gb + 1,1,none⟩) (Kd.N_far (p:=⟨gb + 1,0,none⟩) hGr (fun q hq e=>by have h1:=HLE5.o;have h2 : q = gb + 1:=e;omega) (.slice AY s'.y.length cY)) (fun q hq e=>by have h1:=HLE5.o;have h2 : q = gb + 1:=e;omega) (.slice AG gs.length cG))
   have HC9:=qz.mk (Kd.R_set (Kd.R_set HO.o BQd.o t30_58 0 (.slice AY s'.y.length cY)) HR9.o t30_58 1 (.slice AG gs.length cG))
   have HB9 : qz (Below w.heap.size w ((wr.setCell ⟨gb + 1,0,none⟩ (.slice AY s'.y.length cY)).setCell ⟨gb + 1,1,none⟩ (.slice AG gs.length cG))):=⟨qp (qp (qy HB4.o (qy HW3.o HBr.o)) aa') aa'⟩
   clear hYr hGr hY7 hG7 hq0 hq1 fq0 fq1 HR9 hHeld
   generalize (wr.setCell ⟨gb + 1,0,none⟩ (.slice AY s'.y.length cY)).setCell ⟨gb + 1,1,none⟩ (.slice AG gs.length cG) = w9 at *
   have BQ10 : qz (w9.drew.heap[gb + 1]? = some (.cells #[.slice AY s'.y.length cY,.slice AG gs.length cG] 30 (0,0))):=⟨BQ9.o⟩
   go_wp2_with fail
   try simp only [Exit.inBlock,Exit.then]
   refine bodyPost_ret (Ug' (rs:=[.tmp 2,.cell 3 30,.tmp 4]) rfl ia' (.tmp (.cell (gb + 1) 30 #[.slice AY s'.y.length cY,.slice AG gs.length cG] (0,0) _ rfl BQ10.o hu30 rfl da' (.tmp .nil)))) rfl ?_
   have HLE:=HLE5.o
   exact ⟨_,_,_,rfl,Kd.R_lower (Kd.R_drew HY9.o) HLE.2.1,Kd.N_mono (Kd.N_lower (Kd.N_drew HG9.o) aa') (fun _ _=>trivial),Kd.R_lower (Kd.R_drew HC9.o) HLE.2.2.2,qh HB9.o⟩
end Go.Proofs.YtnffimpoekjkpaaGreat.QFnExactSolve
