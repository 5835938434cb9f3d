import Derived.Test.YtnffimpoekjkpaaGreatZFnExactSolvex97g
import Derived.Test.YtnffimpoekjkpaaGreatZFnExactSolvex113
set_option linter.all false
namespace Go.Proofs.YtnffimpoekjkpaaGreat.QFnExactSolve
open Go.RowKit Go.Proofs.YtnffimpoekjkpaaGreatW.PrintWords Go.Proofs.YtnffimpoekjkpaaGreatW.PrintLast Go.Proofs.YtnffimpoekjkpaaGreatW.PrintMore
set_option maxHeartbeats 8000000
set_option maxRecDepth 100000
attribute [local go_sem] Od' Pd' Xd' Yd' Jd' Kd' Qd' Rd'
theorem sn' {w0 W : World} {Z : Nat → Prop} {wz : World} {g : Nat} {N : Int} {Ae : Option Addr} {ce : Nat} {es : List (S73)} {col : Nat → Nat} {vy vn vm : Value} {s : RI} (hS : Rn w0 W Z wz g N Ae ce es col vy vn vm s) (hw : WFn (cvs s.nd)) (hN : 0 ≤ N ∧ N ≤ s.nd.length ∧ N ≤ 1000) (hsz : s.nd.length ≤ 1000000) (gs : List (List Int × Int)) (hg : oh' s.nd N (s.nd.length + 1) N [] = gs) :
  Calls Tryz.prog 19 #[.pointer (some ⟨g,0,none⟩)] W fun e w'=>∃ vG,e = .returned vG ∧ Kd.N k80 80 w' W.heap.size (fun q=>W.heap.size ≤ q) vG (gs.map mkG) ∧ Below W.heap.size W w':=by
 have hu80:=Tryz.underlying80
 have hu51:=Tryz.underlying51
 have hu77:=Tryz.underlying77
 have hu56:=Tryz.underlying56
 have hu73:=Tryz.underlying73
 have hu35:=Tryz.underlying35
 have HS:=qz.mk hS
 clear hS
 have HW:=qz.mk hw
 have HN:=qz.mk hN
 have H0:=qz.mk hsz
 have HG:=qz.mk hg
 obtain ⟨An,cn,e_⟩:=Kd.R_slice HS.o.rn
 subst e_
 have hc:=HS.o.cells
 clear hw hN hsz hg
 go_enter Tryz.func19,Tryz.ntmps19
 go_upto_region 2 with fail
 have BX1 : qz ((W.alloc (.cells #[] 80)).heap[W.heap.size]? = some (.cells #[] 80 (0,0))):=⟨yd' W _⟩
 have HB1 : qz (Below W.heap.size W (W.alloc (.cells #[] 80))):=⟨qo (Below.refl _ _) _⟩
 have HO1 : qz (Kd.N k80 80 (W.alloc (.cells #[] 80)) W.heap.size (fun q=>W.heap.size ≤ q) (.slice (some ⟨W.heap.size,0,none⟩) 0 0) []):=⟨Kd.R_N (Oh' k80 (Nat.le_refl _) BX1.o (Nat.le_refl _))⟩
 have HS1:=qz.mk (HS.o.to HB1.o)
 generalize W.alloc (.cells #[] 80) = W1 at *
 have hc:=HS1.o.cells
 clear HS1 BX1
 go_wp2_with fail
 go_loopg [3,4] (s.nd.length + 1) (fun kq v3 v4 w'=>∃ (i : Int) (acc : List (List Int × Int)),v4 = .int .i64 i ∧ qz (0 ≤ i ∧ (acc.length : Int) ≤ i ∧ ∀ p ∈ acc,p.1.length ≤ N.toNat) ∧ qz (oh' s.nd N kq i acc = gs ∧ (s.nd.length : Int) < i + kq) ∧ qz (Kd.N k80 80 w' W.heap.size (fun q=>W.heap.size ≤ q) v3 (acc.map mkG)) ∧ qz (Below W.heap.size W w'))
 case atStart=>exact ⟨N,[],rfl,⟨HN.o.1,HN.o.1,ia'⟩,⟨HG.o,sa'⟩,HO1,HB1⟩
 clear HG hc HO1 HB1
 obtain ⟨i,acc,rfl,HI,HG,HO,HB⟩:=hrel
 have HS1:=qz.mk (HS.o.to HB.o)
 have hc:=HS1.o.cells
 obtain ⟨h,hki⟩:=HG.o
 clear HG
 obtain ⟨AG,cG,e_⟩:=Kd.N_slice HO.o
 rw [List.length_map] at e_
 subst e_
 by_cases c : i < (s.nd.length : Int)
 ·cases gk with
  | zero =>
   exfalso
   omega
  | succ k1 =>
   rw [oh',if_pos c] at h
   have hi0:=HI.o.1
   have HIL:=qz.mk c
   have HKI:=qz.mk hki
   have cl0 : decide (i < (s.nd.length : Int)) = true:=decide_eq_true c
   have hi1 : wrap64 (i + 1) = i + 1:=w64 aa' pa'
   have p:=hi0
   have q:=c
   obtain ⟨ad,A0,c0,A1,c1,eA,hx0,hx1,hx2,hx3,hx4,hx5,-⟩:=wh' (Kd.R_reads' HS1.o.rn).2.2 i p q
   subst eA
   replace p:=eq_true p
   replace q:=eq_true q
   obtain ⟨X,hX⟩ : ∃ X,wd' s.nd i = X:=⟨_,rfl⟩
   rw [hX] at hx0 hx1 hx2 hx3 hx4 hx5 h
   clear hx0 hx1 hx2 hx4 c hki
   cases c6 : X.f5 with
   | true =>
    rw [if_pos (.inl c6)] at h
    rw [c6] at hx5
    have HG:=qz.mk h
    clear h c6 hX
    go_wp2_with fail
    go_roundg k1
    case measure=>omega
    case rel=>exact ⟨i + 1,acc,la',⟨aa',hc',HI.o.2.2⟩,⟨HG.o,Fa'⟩,HO,HB⟩
   | false =>
    rw [c6] at hx5
    by_cases c5 : X.f3 ≤ 0
    ·rw [if_pos (.inr c5)] at h
     have cl5 : decide (X.f3 ≤ 0) = true:=decide_eq_true c5
     have HG:=qz.mk h
     clear h c6 hX c5
     go_wp2_with fail
     go_roundg k1
     case measure=>omega
     case rel=>exact ⟨i + 1,acc,la',⟨aa',hc',HI.o.2.2⟩,⟨HG.o,Fa'⟩,HO,HB⟩
    rw [if_neg gd'] at h
    have cl5 : decide (X.f3 ≤ 0) = false:=decide_eq_false c5
    obtain ⟨mem,hmem⟩ : ∃ m,ig' (cvs s.nd) i N (N.toNat + 1) 0 [] = m:=⟨_,rfl⟩
    rw [hmem] at h
    have HMM:=qz.mk hmem
    have HG:=qz.mk h
    clear h c6 c5
    go_upto_region 7 with fail
    have BXX : qz ((wr.alloc (.cells #[.slice none 0 0,.int .i64 X.f3] 80)).heap[wr.heap.size]? = some (.cells #[.slice none 0 0,.int .i64 X.f3] 80 (0,0))):=⟨yd' wr _⟩
    have HBX : qz (Below wr.heap.size wr (wr.alloc (.cells #[.slice none 0 0,.int .i64 X.f3] 80))):=⟨qo (Below.refl _ _) _⟩
    generalize wr.alloc (.cells #[.slice none 0 0,.int .i64 X.f3] 80) = W3 at *
    have HOG : qz (Kd.N k80 80 wr W.heap.size (fun q=>W.heap.size ≤ q) (.slice AG acc.length cG) (acc.map mkG)):=HO
    generalize hgx : wr.heap.size = gx at BXX ⊢
    have HGX : qz (wr.heap.size = gx):=⟨hgx⟩
    have HB3 : qz (Below gx wr W3):=⟨hgx ▸ HBX.o⟩
    clear hgx HBX HO hx3 hx5 hX hc HS1
    generalize wr = W5 at *
    go_wp2_with fail
    go_loopg [6] (N.toNat + 1) (fun kq v6 w'=>∃ (v : Nat) (l : List Int) (vM : Value),v6 = .int .i64 (v : Int) ∧ qz (v + kq = N.toNat + 1 ∧ v ≤ N.toNat ∧ l.length ≤ v) ∧ qz (ig' (cvs s.nd) i N kq v l = mem) ∧ qz (w'.heap[gx]? = some (.cells #[vM,.int .i64 X.f3] 80 (0,0))) ∧ qz (Kd.R (Kd.int .i64) 3 w' gx (fun _=>True) vM l) ∧ qz (Below gx W5 w'))
    case atStart=>exact ⟨0,[],.slice none 0 0,rfl,⟨aa',aa',ia'⟩,HMM,BXX,⟨Kd.R_nil _ _ _ _ _⟩,HB3⟩
    clear HMM BXX HB3
    obtain ⟨v,l,vM,rfl,HJ,HMM,BX,HM,HB4⟩:=hrel
    have HB5 : qz (Below W5.heap.size W5 wr):=⟨HGX.o.symm ▸ HB4.o⟩
    have HB6 : qz (Below W.heap.size W wr):=⟨qy HB.o HB5.o⟩
    have HS4:=qz.mk (HS.o.to HB6.o)
    have hc:=HS4.o.cells
    have h:=HMM.o
    clear HMM
    cases gk with
    | zero =>
     exfalso
     have h1:=HJ.o
     omega
    | succ k2 =>
     rw [ig'] at h
     by_cases c : (v : Int) < N
     ·rw [if_pos c] at h
      have HVL:=qz.mk c
      have cl1 : decide ((v : Int) < N) = true:=decide_eq_true c
      have hv1 : wrap64 ((v : Int) + 1) = ((v + 1 : Nat) : Int):=by rw [w64 aa' sa'];omega
      have HQ:=qz.mk (tj' HS4.o i (v : Int) HW.o aa' (.inr ⟨aa',sa'⟩))
      clear c
      cases b : Ad' (cvs s.nd) i v with
      | true =>
       rw [b,if_pos rfl] at h
       rw [b] at HQ
       have HMM:=qz.mk h
       clear h b
       obtain ⟨AM,cM,e_⟩:=Kd.R_slice HM.o
       subst e_
       have hb0 : wr.cell? ⟨gx,0,none⟩ = some (.slice AM l.length cM):=(qq BX.o 0).trans rfl
       go_wp2_with (first|(go_at_call 41;(with_reducible refine HQ.o.mono ?_);rintro e w3 ⟨rfl,h2⟩;replace h2:=h2.symm;subst h2)|((with_reducible refine Ld' (b:=.append) (xs:=#[.tmp 66,.tmp 68]) rfl ?_);at_builtin;refine Kd.R_append (Kd.int .i64) (w0:=W5) gx rfl (.tmp 66) (.tmp 68) 27 3 (.int .i64 0) 8 rfl Tryz.underlying27 Ud' rfl ba' aa' (.slice AM l.length cM) l (v : Int) [.int .i64 (v : Int)] (fun _=>True) (fun _=>False) rfl rfl rfl (fun _ hk=>hk.elim) (fun _ _=>trivial) HM.o HB4.o (by have:=HB5.o.size;have:=HGX.o;omega) Ec' ?_;intro v7 w7 ho hb hg hat;obtain ⟨A7,c7,e_⟩:=Kd.R_slice ho;rw [List.length_append,List.length_singleton] at e_;subst e_;have BX7:=qz.mk (le' BX.o hg (Kd.R_ne HM.o BX.o ba'));have HM7:=qz.mk ho;have HB7:=qz.mk hb;have hb7 : w7.cell? ⟨gx,0,none⟩ = some (.slice AM l.length cM):=(qq BX7.o 0).trans rfl;have hf7 : w7.frozen? ⟨gx,0,none⟩ = false:=qu BX7.o 0;clear ho hb hg hat))
       go_roundg k2
       case measure=>omega
       case rel=>exact ⟨v + 1,l ++ [(v : Int)],_,ic',⟨Ja',Db',id'⟩,HMM,⟨jd'⟩,⟨Kd.R_set HM7.o BX7.o (by intro q hq;obtain rfl : q = 3:=List.mem_singleton.1 hq;decide) _ _⟩,⟨ej' HB7.o (Nat.le_refl _)⟩⟩
      | false =>
       rw [b,if_neg ba'] at h
       rw [b] at HQ
       have HMM:=qz.mk h
       clear h b
       go_wp2_with (first|(go_at_call 41;(with_reducible refine HQ.o.mono ?_);rintro e w3 ⟨rfl,h2⟩;replace h2:=h2.symm;subst h2))
       go_roundg k2
       case measure=>omega
       case rel=>exact ⟨v + 1,l,vM,ic',⟨Ja',Db',Ja'⟩,HMM,BX,HM,HB4⟩
     rw [if_neg c] at h
     have cl1 : decide ((v : Int) < N) = false:=decide_eq_false c
     subst h
     clear c
     obtain ⟨AM,cM,e_⟩:=Kd.R_slice HM.o
     subst e_
     have HO6:=qz.mk (Kd.N_below HOG.o HB5.o)
     go_upto_region 13 with fail
     generalize wr = W6 at *
     obtain ⟨pF,hpF⟩ : ∃ q,Jh' l acc (acc.length + 1) acc.length = q:=⟨_,rfl⟩
     have HPF:=qz.mk hpF
     have hgp : oh' s.nd N k1 (i + 1) (acc.take pF.toNat ++ [(l,X.f3)] ++ acc.drop pF.toNat) = gs:=by
      have:=HG.o
      rw [insF,hpF] at this
      exact this
     have HGP:=qz.mk hgp
     have HAL : qz (acc.length ≤ 1000000):=⟨by have:=HI.o.2.1;have:=HIL.o;have:=H0.o;omega⟩
     clear HG hgp hpF hc
     go_loopg [7] (acc.length + 1) (fun kq v7 w'=>∃ k : Nat,v7 = .int .i64 (k : Int) ∧ qz (k ≤ acc.length ∧ k < kq) ∧ qz (Jh' l acc kq k = pF) ∧ re' W6 w')
     case atStart=>exact ⟨acc.length,rfl,⟨aa',aa'⟩,HPF,re'.refl _⟩
     clear HPF
     obtain ⟨k,rfl,HK,HPF,⟨m,rfl⟩⟩:=hrel
     cases gk with
     | zero =>
      exfalso
      have h1:=HK.o
      omega
     | succ k3 =>
      have h:=HPF.o
      clear HPF
      rw [Jh'] at h
      have HPF:=qz.mk h
      clear h
      have hb0 : W6.cell? ⟨gx,0,none⟩ = some (.slice AM l.length cM):=(qq BX.o 0).trans rfl
      have hb1 : W6.cell? ⟨gx,1,none⟩ = some (.int .i64 X.f3):=(qq BX.o 1).trans rfl
      go_upto_region 13 with fail
      go_cut [85] (fun v85 wc=>∃ b : Bool,v85 = .bool b ∧ qz ((if b = true then Jh' l acc k3 ((k : Int) - 1) else (k : Int)) = pF ∧ (b = true → 0 < k)) ∧ re' W6 wc)
      case first =>
       by_cases c : 0 < k
       ·have cl0 : decide ((0 : Int) < (k : Int)) = true:=decide_eq_true aa'
        have cl1 : decide ((k : Int) > 0) = true:=cl0
        have cl2 : decide (0 < k) = true:=decide_eq_true c
        have cl3 : (0 < k) = True:=eq_true c
        have hJ : wrap64 ((k : Int) - 1) = (k : Int) - 1:=w64 aa' (by have:=HK.o;have:=HAL.o;omega)
        have p0 : 0 ≤ wrap64 ((k : Int) - 1):=by omega
        have q0 : wrap64 ((k : Int) - 1) < (acc.length : Int):=by have:=HK.o;omega
        obtain ⟨adk,Ak,ck,e_,hk0,hk1,hk2,hk3⟩:=Fk' (Kd.N_reads' HO6.o).2.2 (wrap64 ((k : Int) - 1)) p0 (by rw [List.length_map];exact q0)
        subst e_
        have eX : Lf' (acc.map mkG) (wrap64 ((k : Int) - 1)) = mkG (acc.getD ((k : Int) - 1).toNat ([],0)):=by
         rw [hJ,Lf',List.getD_eq_getElem?_getD,List.getElem?_map,List.getD_eq_getElem?_getD,List.getElem?_eq_getElem Fb']
         rfl
        rw [eX] at hk0 hk2 hk3
        obtain ⟨Y,hY⟩ : ∃ Y,acc.getD ((k : Int) - 1).toNat ([],0) = Y:=⟨_,rfl⟩
        have hYl : Y.1.length ≤ N.toNat:=by
         rw [← hY,List.getD_eq_getElem?_getD,List.getElem?_eq_getElem Fb']
         exact HI.o.2.2 _ (List.getElem_mem _)
        have h:=HPF.o
        rw [hY] at hk0 hk2 hk3 h
        change W6.cell? (adk.add ((wrap64 ((k : Int) - 1)).toNat * 2)) = some (.slice Ak Y.1.length ck) at hk0
        obtain ⟨ka,hka⟩:=on' l Y.1 Ec' sa'
        obtain ⟨bA,hbA⟩ : ∃ b,Ve' l Y.1 = b:=⟨_,rfl⟩
        rw [hbA] at hka h
        have HAC : qz (∀ W',Below W6.heap.size W6 W' → Calls Tryz.prog 42 #[.slice AM l.length cM,.slice Ak Y.1.length ck] W' fun e w'=>e = .returned (.bool bA) ∧ re' W' w'):=⟨fun W' hb=>spec_l10Ahead.calls ka AM cM l Ak ck Y.1 _ W' (Kd.C_below (Kd.R_reads' HM.o).2.2 hb) (Kd.R_reads' HM.o).2.1 (Kd.C_below hk3 hb) hk2 hka⟩
        have HPF2:=qz.mk h
        have HK0:=qz.mk c
        clear hk1 hk3 hk2 hka h hbA hY hYl eX HPF hJ c
        replace p0:=eq_true p0
        replace q0:=eq_true q0
        go_wp2
        repeat (go_quiet (first|(go_at_call 42;refine (HAC.o _ Eb').mono ?_;rintro e w' ⟨rfl,⟨nd,rfl⟩⟩;(try first|exact ⟨rfl,_,World.drewN_drewN _ _ _⟩|exact ⟨rfl,_,Eq.trans (World.drewN_drewN _ _ _) (congrArg (World.drewN _) (Nat.add_assoc _ _ _))⟩)));try go_wp2)
        go_meet
        case rel=>exact ⟨bA,rfl,⟨by have h:=HPF2.o;have h0:=HK0.o;cases bA <;> simpa [h0] using h,fun _=>HK0.o⟩,ma'⟩
       have cl0 : decide ((0 : Int) < (k : Int)) = false:=decide_eq_false aa'
       have cl1 : decide ((k : Int) > 0) = false:=cl0
       have HK0:=qz.mk c
       go_wp2
       repeat (go_quiet (fail);try go_wp2)
       go_meet
       case rel=>exact ⟨false,rfl,⟨by have h:=HPF.o;have h0:=HK0.o;rw [if_neg (fun h=>h0 aa')] at h;simpa using h,fun h=>by cases h⟩,ma'⟩
      clear HPF hb0 hb1
      obtain ⟨b,rfl,HCT,⟨mc,rfl⟩⟩:=hcut
      cases b with
      | true =>
       have HK0 : qz (0 < k):=⟨HCT.o.2 rfl⟩
       have HPF : qz (Jh' l acc k3 ((k : Int) - 1) = pF):=⟨HCT.o.1⟩
       clear HCT
       go_wp2_with fail
       go_roundg k3
       case measure=>omega
       case rel=>exact ⟨k - 1,by rw [w64 Ia' (by have:=HK.o;have:=HAL.o;omega)];congr 1;have:=HK0.o;omega,⟨Fb',by have:=HK.o;have:=HK0.o;omega⟩,⟨by have:=HPF.o;have h0:=HK0.o;rw [show ((k - 1 : Nat) : Int) = (k : Int) - 1 by omega];exact this⟩,ma'⟩
      | false =>
       have hk : pF = (k : Int):=HCT.o.1.symm
       subst hk
       clear HCT
       have hgp:=HGP.o
       rw [Int.toNat_natCast] at hgp
       have HGP:=qz.mk hgp
       clear hgp
       have HXL:=qz.mk (Kd.N_reads' HO6.o)
       have hkc : k ≤ cG:=by have:=HK.o;have:=HXL.o.2.1;omega
       have hkc1:=eq_true hkc
       have hkc2 : ((k : Int) ≤ (cG : Int)) = True:=eq_true aa'
       have hka : (k ≤ acc.length) = True:=eq_true HK.o.1
       have hka2 : ((k : Int) ≤ (acc.length : Int)) = True:=eq_true (by have:=HK.o.1;omega)
       have hac : (acc.length ≤ cG) = True:=eq_true (by have:=HXL.o.2.1;omega)
       have hac2 : ((acc.length : Int) ≤ (cG : Int)) = True:=eq_true (by have:=HXL.o.2.1;omega)
       have HBb : qz (Below W6.heap.size W6 ((W6.drewN mc).alloc (.cells #[] 80))):=⟨qo (qd (Below.refl _ _) mc) _⟩
       have HNb : qz (Kd.N k80 80 ((W6.drewN mc).alloc (.cells #[] 80)) W6.heap.size (fun q=>W.heap.size ≤ q) (.slice (some ⟨W6.heap.size,0,none⟩) 0 0) []):=⟨Kd.R_N (Oh' k80 (Nat.le_refl _) (yd' (W6.drewN mc) _) HB6.o.size)⟩
       have hF0 : Kd.F k80 W6 (fun q=>W.heap.size ≤ q ∧ q < W6.heap.size) AG (acc.map mkG).length (acc.map mkG):=Kd.F_mono (Kd.F_bound (by have:=Kd.N_F HO6.o;rw [List.length_map];exact this)) (fun _ hq=>hq)
       have HFt : qz (Kd.F k80 ((W6.drewN mc).alloc (.cells #[] 80)) (fun q=>W.heap.size ≤ q ∧ q < W6.heap.size) AG k ((acc.map mkG).take k)):=⟨by
        have:=Kd.F_below (Kd.F_take hF0 (m:=k) (by rw [List.length_map];exact HK.o.1)) HBb.o
        rw [List.length_take,List.length_map,Nat.min_eq_left HK.o.1] at this
        exact this⟩
       have HFd : qz (Kd.F k80 W6 (fun q=>W.heap.size ≤ q ∧ q < W6.heap.size) (if cG = k then AG else AG.map (·.add (k * 2))) (acc.length - k) ((acc.map mkG).drop k)):=⟨by
        have:=Kd.F_cut hF0 (m:=k) (c:=cG) (by rw [List.length_map];exact HK.o.1) (by rw [List.length_map];have:=HXL.o.2.1;omega)
        rw [List.length_drop,List.length_map] at this
        exact this⟩
       have HKC:=qz.mk hkc
       have HL8 : qz (([] ++ (acc.map mkG).take k).length = k):=⟨by rw [List.nil_append,List.length_take,List.length_map,Nat.min_eq_left HK.o.1]⟩
       have HL9 : qz ((([] ++ (acc.map mkG).take k) ++ [(⟨l,X.f3⟩ : S80)]).length = k + 1):=⟨by rw [List.length_append,HL8.o];rfl⟩
       clear hF0 hkc
       go_upto_region 16 with (first|((with_reducible refine Ld' (b:=.append) (xs:=#[.tmp 88,.tmp 91]) rfl ?_);at_builtin;refine Kd.N_append_rows k80 (w0:=W6) (W:=(W6.drewN mc).alloc (.cells #[] 80)) W6.heap.size rfl (.tmp 88) (.tmp 91) 28 80 (.agg #[.slice none 0 0,.int .i64 0]) 32 rfl Tryz.underlying28 Ek' rfl ba' aa' (.slice (some ⟨W6.heap.size,0,none⟩) 0 0) [] ((acc.map mkG).take k) AG k cG (fun q=>W.heap.size ≤ q) (fun q=>W.heap.size ≤ q ∧ q < W6.heap.size) rfl rfl HNb.o HFt.o (fun q hq=>⟨hq.1,fun e=>by have:=hq.2;simp [Value.ownBlock] at e;omega⟩) (fun q hq=>by have:=HB6.o.size;have:=HBb.o.size;omega) HBb.o HBb.o.size (by have:=HK.o;have:=HAL.o;simp only [List.length_nil];omega) ?_;intro v8 w8 ho hb hg hat;obtain ⟨A8,c8,e_⟩:=Kd.N_slice ho;rw [HL8.o] at e_;subst e_;have HN8:=qz.mk ho;have HB8:=qz.mk hb;have BX8:=qz.mk (qx BX.o hb);have hx0 : w8.cell? ⟨gx,0,none⟩ = some (.slice AM l.length cM):=(qq BX8.o 0).trans rfl;have hx1 : w8.cell? ⟨gx,1,none⟩ = some (.int .i64 X.f3):=(qq BX8.o 1).trans rfl;clear ho hb hg hat))
       go_wp2_with (first|((with_reducible refine Ld' (b:=.append) (xs:=#[.tmp 93,.tmp 95]) rfl ?_);at_builtin;refine Kd.N_append k80 (w0:=W6) (W:=w8) W6.heap.size rfl (.tmp 93) (.tmp 95) 28 80 (.agg #[.slice none 0 0,.int .i64 0]) 32 rfl Tryz.underlying28 Ek' rfl ba' aa' (.slice A8 k c8) ([] ++ (acc.map mkG).take k) (⟨l,X.f3⟩ : S80) [.slice AM l.length cM,.int .i64 X.f3] (fun q=>W.heap.size ≤ q) (fun q=>W.heap.size ≤ q ∧ q < W6.heap.size) rfl rfl (k80_mkF w8 (fun q=>W.heap.size ≤ q ∧ q < W6.heap.size) (⟨l,X.f3⟩ : S80) (Kd.R_reads' HM.o).2.1 (Kd.F_mono (Kd.F_below (Kd.R_F (Kd.R_bound HM.o)) HB8.o) (fun q hq=>⟨by have:=hq.2.1;have:=HGX.o;have:=HB.o.size;omega,hq.2.2.1⟩))) (fun q hq=>⟨hq.1,fun e=>by have:=hq.2;have:=Kd.N_base HN8.o q e.symm;omega⟩) (fun q hq=>by have:=HB6.o.size;have:=HB8.o.size;omega) HN8.o HB8.o HB8.o.size (by rw [HL8.o];have:=HK.o;have:=HAL.o;omega) ?_;intro v9 w9 ho hb hg hat;obtain ⟨A9,c9,e_⟩:=Kd.N_slice ho;rw [HL9.o] at e_;subst e_;have HN9:=qz.mk ho;have HB9:=qz.mk hb;clear ho hb hg hat)|((with_reducible refine Ld' (b:=.append) (xs:=#[.tmp 97,.tmp 100]) rfl ?_);at_builtin;refine Kd.N_append_rows k80 (w0:=W6) (W:=w9) W6.heap.size rfl (.tmp 97) (.tmp 100) 28 80 (.agg #[.slice none 0 0,.int .i64 0]) 32 rfl Tryz.underlying28 Ek' rfl ba' aa' (.slice A9 (k + 1) c9) (([] ++ (acc.map mkG).take k) ++ [(⟨l,X.f3⟩ : S80)]) ((acc.map mkG).drop k) (if cG = k then AG else AG.map (·.add (k * 2))) (acc.length - k) (cG - k) (fun q=>W.heap.size ≤ q) (fun q=>W.heap.size ≤ q ∧ q < W6.heap.size) rfl (by first|rfl|(rw [if_pos (by assumption)];rfl)|(rw [if_neg (by assumption)];rfl)|(simp_all;done)) HN9.o (Kd.F_below HFd.o HB9.o) (fun q hq=>⟨hq.1,fun e=>by have:=hq.2;have:=Kd.N_base HN9.o q e.symm;omega⟩) (fun q hq=>by have:=HB6.o.size;have:=HB9.o.size;omega) HB9.o HB9.o.size (by rw [HL9.o];have:=HK.o;have:=HAL.o;omega) ?_;intro v10 w10 ho hb hg hat;have HN10:=qz.mk ho;have HB10:=qz.mk hb;clear ho hb hg hat))
       all_goals (go_roundg k1;(case measure=>omega);(case rel=>exact ⟨i + 1,acc.take k ++ [(l,X.f3)] ++ acc.drop k,la',⟨aa',by
        have:=HI.o.2.1
        have hk:=HK.o.1
        rw [List.length_append,List.length_append,List.length_take,List.length_drop,List.length_singleton,Nat.min_eq_left hk]
        omega,fun p hp=>(List.mem_append.1 hp).elim (fun hp=>(List.mem_append.1 hp).elim (fun h=>HI.o.2.2 p (List.mem_of_mem_take h)) (fun h=>by rw [List.mem_singleton.1 h];have:=HJ.o;show l.length ≤ _;omega)) (fun h=>HI.o.2.2 p (List.mem_of_mem_drop h))⟩,⟨HGP.o,Fa'⟩,⟨by
        have:=HN10.o
        rw [List.nil_append] at this
        rw [List.map_append,List.map_append,List.map_take,List.map_drop]
        exact Kd.N_lower this HB6.o.size⟩,⟨qy HB6.o HB10.o⟩⟩))
 have hacc : acc = gs:=by
  cases gk with
  | zero=>exact h
  | succ k1=>rw [oh',if_neg c] at h;exact h
 subst hacc
 have cl0 : decide (i < (s.nd.length : Int)) = false:=decide_eq_false c
 clear c h hki
 go_wp2_with fail
 go_ret
 exact ⟨_,rfl,HO.o,HB.o⟩
end Go.Proofs.YtnffimpoekjkpaaGreat.QFnExactSolve
