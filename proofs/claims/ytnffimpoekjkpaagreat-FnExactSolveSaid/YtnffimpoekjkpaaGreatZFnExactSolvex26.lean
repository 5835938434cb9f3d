import Derived.Test.YtnffimpoekjkpaaGreatZFnExactSolvex25
set_option linter.all false
namespace Go.Proofs.YtnffimpoekjkpaaGreat.QFnExactSolve
open Go.RowKit Go.Proofs.YtnffimpoekjkpaaGreatW.PrintWords Go.Proofs.YtnffimpoekjkpaaGreatW.PrintLast Go.Proofs.YtnffimpoekjkpaaGreatW.PrintMore
set_option maxHeartbeats 8000000
set_option maxRecDepth 100000
attribute [local go_sem] Od' Pd' Xd' Yd' Jd' Kd' Qd' Rd'
section
variable {w0 W : World} {g : Nat} {N : Int} {Ae : Option Addr} {ce : Nat} {es : List (S73)} {col : Nat → Nat} {vy vn vl va vb : Value} {s : SI}
theorem Sol.node_foot {b c n : Nat} (h : Sol w0 W g N Ae ce es col vy (.slice (some ⟨b,0,none⟩) n c) vl va vb s) (i : Int) (h0 : 0 ≤ i) (h1 : i < (s.nd.length : Int)) :
  ∃ A0 c0 A1 c1,W.cell? ⟨b,i.toNat * 7,none⟩ = some (.slice A0 (td' s.nd i).f0.length c0) ∧ W.cell? ⟨b,i.toNat * 7 + 1,none⟩ = some (.slice A1 (td' s.nd i).f1.length c1) ∧ W.cell? ⟨b,i.toNat * 7 + 2,none⟩ = some (.int .i64 (td' s.nd i).f2) ∧ W.cell? ⟨b,i.toNat * 7 + 3,none⟩ = some (.int .i64 (td' s.nd i).f3) ∧ W.cell? ⟨b,i.toNat * 7 + 4,none⟩ = some (.int .i64 (td' s.nd i).f4) ∧ W.cell? ⟨b,i.toNat * 7 + 5,none⟩ = some (.int .i64 (td' s.nd i).f5) ∧ W.cell? ⟨b,i.toNat * 7 + 6,none⟩ = some (.bool (td' s.nd i).f6) ∧
   (∀ W',ce' W W' b none → Kd.C (Kd.int .i64) W' A0 (td' s.nd i).f0.length (td' s.nd i).f0) ∧ (∀ W',ce' W W' b none → Kd.C (Kd.int .i64) W' A1 (td' s.nd i).f1.length (td' s.nd i).f1):=by
 have hn:=(Kd.R_reads' h.rn).1
 obtain ⟨cl,hcl,hM,hcc,hfr⟩:=Kd.R_elem h.rn z89 i h0 aa'
 obtain ⟨v0,v1,e,g0,g1⟩:=Hl' hM
 obtain ⟨A0,c0,e0⟩:=Kd.R_slice g0
 subst e0
 obtain ⟨A1,c1,e1⟩:=Kd.R_slice g1
 subst e1
 subst e
 exact ⟨A0,c0,A1,c1,hcc 0 _ rfl,hcc 1 _ rfl,hcc 2 _ rfl,hcc 3 _ rfl,hcc 4 _ rfl,hcc 5 _ rfl,hcc 6 _ rfl,Kd.C_foot_own g0 (fun k hk=>hk.2),Kd.C_foot_own g1 (fun k hk=>hk.2)⟩
end
def inAt (nd : List (S89)) (n e : Int) : List (S89):=nd.set n.toNat { td' nd n with f2:=e }
def di' (nd : List (S89)) (n : Int) : List (S89):=nd.set n.toNat { td' nd n with f6:=true }
def atF (nd : List (S89)) (v : Int) : List Int → Int → Int → Int
 | [],_,a=>a
 | m :: l,k,a=>atF nd v l (k + 1) (if Ad' nd m v = true then k else a)
def wf' : List Int → List (S89) → List (S89)
 | [],nd=>nd
 | m :: l,nd=>wf' l (mateAt (inAt nd m (-1)) m (-1))
def Sf' (mem lk : List Int) (a size : Int) : Nat → Int → List (S89) → List (S89)
 | 0,_,nd=>nd
 | f + 1,k,nd=>if k < size then Sf' mem lk a size f (k + 2) (mateAt (mateAt nd (rd mem ((a + k) % size)) (rd lk ((a + k) % size))) (rd mem ((a + k + 1) % size)) (rd lk ((a + k) % size))) else nd
def atI (nd : List (S89)) (es : List (S73)) (n : Int) : Int:=atF nd (ue' nd es n) (td' nd n).f0 0 0
def Ed' (es : List (S73)) (nd : List (S89)) (n : Int) : List (S89) :=
 di' (Sf' (td' nd n).f0 (td' nd n).f1 (atI nd es n) (td' nd n).f0.length ((td' nd n).f0.length + 1) 1 (mateAt (wf' (td' nd n).f0 nd) (rd (td' nd n).f0 (atI nd es n)) (td' nd n).f3)) n
theorem Jf' (l : List Int) (i : Int) (h0 : 0 ≤ i) (h1 : i < (l.length : Int)) : l.drop i.toNat = rd l i :: l.drop (i + 1).toNat:=by
 have h : i.toNat < l.length:=by omega
 rw [List.drop_eq_getElem_cons h,show (i + 1).toNat = i.toNat + 1 from by omega]
 congr 1
 simp [rd,h]
theorem Vd' (l : List Int) (i : Int) (h0 : 0 ≤ i) (h1 : i < (l.length : Int)) : rd l i ∈ l:=by
 have h : i.toNat < l.length:=by omega
 have : rd l i = l[i.toNat]:=by simp [rd,h]
 rw [this]
 exact List.getElem_mem h
theorem w64 {i : Int} (h0 : -9223372036854775808 ≤ i) (h1 : i ≤ 9223372036854775807) : wrap64 i = i:=by unfold wrap64;omega
theorem ei' {w0 W : World} {g : Nat} {N : Int} {Ae : Option Addr} {ce : Nat} {es : List (S73)} {col : Nat → Nat} {vy vn vl va vb : Value} {s : SI} (hS : Sol w0 W g N Ae ce es col vy vn vl va vb s) (hw : WFn s.nd) (ho : EOk es s.nd.length) (n : Int) (hn : inR n s.nd.length) (hm : (td' s.nd n).f3 = -1 ∨ inR (td' s.nd n).f3 es.length)
  (hv : ue' s.nd es n = -1 ∨ inR (ue' s.nd es n) s.nd.length) (hmem : ∀ m ∈ (td' s.nd n).f0,inR m s.nd.length) (h0 : 0 < (td' s.nd n).f0.length) (hlk : (td' s.nd n).f0.length ≤ (td' s.nd n).f1.length) (hsz : (td' s.nd n).f0.length ≤ 1000000) :
  Calls Tryz.prog 54 #[.pointer (some ⟨g,0,none⟩),.int .i64 n] W fun r w'=>r = .returned (.tuple #[]) ∧ Sol w0 w' g N Ae ce es col vy vn vl va vb { s with nd:=Ed' es s.nd n } ∧ ∀ k o,W.heap[k]? = some o → some k ≠ vn.ownBlock → w'.heap[k]? = some o:=by
 have hu87:=Tryz.underlying87
 have hu89:=Tryz.underlying89
 have hu73:=Tryz.underlying73
 have hu35:=Tryz.underlying35
 have HS:=qz.mk hS
 clear hS
 obtain ⟨bn,cn,e_,-⟩:=fe' HS.o.rn (by have:=hn.1;have:=hn.2;omega)
 subst e_
 obtain ⟨X,hX⟩ : ∃ X,td' s.nd n = X:=⟨_,rfl⟩
 obtain ⟨A0,c0,A1,c1,nx0,nx1,nx2,nx3,nx4,nx5,nx6,F0,F1⟩:=HS.o.node_foot n hn.1 hn.2
 have HH:=qz.mk (fun (W' : World) (h : Sol w0 W' g N Ae ce es col vy (.slice (some ⟨bn,0,none⟩) s.nd.length cn) vl va vb s)=>Fo' h hw ho n hn hm)
 obtain ⟨v,hvv⟩ : ∃ v,ue' s.nd es n = v:=⟨_,rfl⟩
 rw [Ed']
 simp only [hX] at nx0 nx1 nx2 nx3 nx4 nx5 nx6 F0 F1 hmem h0 hlk hsz ⊢
 obtain ⟨p,q⟩:=hn
 have hc:=HS.o.cells
 have p':=eq_true p
 have q':=eq_true q
 go_enter Tryz.func54,Tryz.ntmps54
 go_upto_region 1 with fail
 have BX1 : qz ((W.alloc (.cells #[.slice A0 X.f0.length c0,.slice A1 X.f1.length c1,.int .i64 X.f2,.int .i64 X.f3,.int .i64 X.f4,.int .i64 X.f5,.bool X.f6] 89)).heap[W.heap.size]? = some (.cells #[.slice A0 X.f0.length c0,.slice A1 X.f1.length c1,.int .i64 X.f2,.int .i64 X.f3,.int .i64 X.f4,.int .i64 X.f5,.bool X.f6] 89 (0,0))):=⟨yd' W _⟩
 have HB1 : qz (Below W.heap.size W (W.alloc (.cells #[.slice A0 X.f0.length c0,.slice A1 X.f1.length c1,.int .i64 X.f2,.int .i64 X.f3,.int .i64 X.f4,.int .i64 X.f5,.bool X.f6] 89))):=⟨qo (Below.refl _ _) _⟩
 generalize W.alloc (.cells #[.slice A0 X.f0.length c0,.slice A1 X.f1.length c1,.int .i64 X.f2,.int .i64 X.f3,.int .i64 X.f4,.int .i64 X.f5,.bool X.f6] 89) = W1 at *
 generalize hgb : W.heap.size = gb at BX1 ⊢
 have hne : gb ≠ bn:=by
  obtain ⟨ds,hd⟩:=row_blk HS.o.rn
  have:=ke' hd
  omega
 have HS1:=qz.mk (HS.o.to HB1.o)
 have HF0 : qz (∀ W',ce' W1 W' bn none → Kd.C (Kd.int .i64) W' A0 X.f0.length X.f0):=⟨fun W' h=>F0 W' ((ce'.of_below HB1.o bn none).trans h (.inl rfl))⟩
 have HF1 : qz (∀ W',ce' W1 W' bn none → Kd.C (Kd.int .i64) W' A1 X.f1.length X.f1):=⟨fun W' h=>F1 W' ((ce'.of_below HB1.o bn none).trans h (.inl rfl))⟩
 have HW:=qz.mk hw
 have HMM:=qz.mk hmem
 have HV : qz (v = -1 ∨ inR v s.nd.length):=⟨hvv ▸ hv⟩
 have HI0 : qz (atI s.nd es n = atF s.nd v X.f0 0 0):=⟨by rw [atI,hX,hvv]⟩
 have H0:=qz.mk (And.intro h0 (And.intro hlk hsz))
 have HN:=qz.mk (And.intro p q)
 have hb0 : W1.cell? ⟨gb,0,none⟩ = some (.slice A0 X.f0.length c0):=(qq BX1.o 0).trans rfl
 have hb1 : W1.cell? ⟨gb,1,none⟩ = some (.slice A1 X.f1.length c1):=(qq BX1.o 1).trans rfl
 have hb3 : W1.cell? ⟨gb,3,none⟩ = some (.int .i64 X.f3):=(qq BX1.o 3).trans rfl
 have hc:=HS1.o.cells
 have hA0 : ∃ a0,A0 = some a0:=by
  obtain ⟨a0,e,-⟩:=Kd.at_int (HF0.o W1 (ce'.refl _ _ _)) 0 aa' aa'
  exact ⟨a0,e⟩
 obtain ⟨a0,rfl⟩:=hA0
 have hA1 : ∃ a1,A1 = some a1:=by
  obtain ⟨a1,e,-⟩:=Kd.at_int (HF1.o W1 (ce'.refl _ _ _)) 0 aa' aa'
  exact ⟨a1,e⟩
 obtain ⟨a1,rfl⟩:=hA1
 have HKB : qz (ce' W W1 bn none):=⟨ce'.of_below HB1.o bn none⟩
 clear hw ho hv hmem h0 hlk hsz hm F0 F1 nx0 nx1 nx2 nx3 nx4 nx5 nx6 p q HB1
 go_wp2_with (first|(go_at_call 75;(with_reducible refine (HH.o _ HS1.o).mono ?_);rintro e w2 ⟨rfl,h2⟩;replace h2:=h2.symm;subst h2))
 try rw [hvv]
 go_loopg [7,31] (X.f0.length + 1) (fun kq v7 v31 w'=>∃ i a : Int,v7 = .int .i64 a ∧ v31 = .int .i64 i ∧ qz (0 ≤ i ∧ i + kq = X.f0.length + 1 ∧ i ≤ X.f0.length ∧ 0 ≤ a ∧ a < X.f0.length) ∧ qz (atF s.nd v (X.f0.drop i.toNat) i a = atI s.nd es n) ∧ W1 = w')
 case atStart=>exact ⟨0,0,rfl,rfl,⟨aa',aa',aa',aa',Na'⟩,⟨by rw [HI0.o];rfl⟩,rfl⟩
 obtain ⟨i,a,rfl,rfl,HI,HT,rfl⟩:=hrel
 cases gk with
 | zero =>
  exfalso
  have h1:=HI.o
  omega
 | succ k1 =>
  have h:=HT.o
  clear HT
  by_cases c : i < (X.f0.length : Int)
  ·have hi:=HI.o
   rw [Jf' _ _ hi.1 c,atF] at h
   have cl0 : decide (i < (X.f0.length : Int)) = true:=decide_eq_true c
   have HIL:=qz.mk c
   have HQ:=qz.mk (yh' HW.o (rd X.f0 i) HV.o)
   obtain ⟨_,e_,hmi⟩:=Kd.at_int (HF0.o W1 (ce'.refl _ _ _)) i hi.1 c
   obtain rfl:=Option.some.inj e_
   have pi:=eq_true hi.1
   have qi:=eq_true c
   clear c hi
   cases b : Ad' s.nd (rd X.f0 i) v with
   | true =>
    rw [b,if_pos rfl] at h
    rw [b] at HQ
    have HT:=qz.mk h
    clear h b
    go_wp2_with (first|(go_at_call 49;(with_reducible refine (Qg' qa' _ _ _ true HQ.o).mono ?_);rintro e w2 ⟨rfl,h2⟩;replace h2:=h2.symm;subst h2))
    go_roundg k1
    case measure=>omega
    case rel=>exact ⟨i + 1,i,rfl,Pb',⟨fa',fa',ga',fa',ga'⟩,HT,rfl⟩
   | false =>
    rw [b,if_neg ba'] at h
    rw [b] at HQ
    have HT:=qz.mk h
    clear h b
    go_wp2_with (first|(go_at_call 49;(with_reducible refine (Qg' qa' _ _ _ false HQ.o).mono ?_);rintro e w2 ⟨rfl,h2⟩;replace h2:=h2.symm;subst h2))
    go_roundg k1
    case measure=>omega
    case rel=>exact ⟨i + 1,a,rfl,Pb',⟨fa',fa',ga',fa',fa'⟩,HT,rfl⟩
  have hi:=HI.o
  rw [List.drop_eq_nil_of_le aa',atF] at h
  subst h
  have cl0 : decide (i < (X.f0.length : Int)) = false:=decide_eq_false c
  clear c hi
  go_wp2_with fail
  have HA : qz (0 ≤ atI s.nd es n ∧ atI s.nd es n < X.f0.length):=⟨fa'⟩
  clear HI
  go_loopg [45] (X.f0.length + 1) (fun kq v45 w'=>∃ (i : Int) (nd : List (S89)),v45 = .int .i64 i ∧ qz (0 ≤ i ∧ i + kq = X.f0.length + 1 ∧ i ≤ X.f0.length) ∧ qz (wf' (X.f0.drop i.toNat) nd = wf' X.f0 s.nd) ∧ qz (nd.length = s.nd.length) ∧ qz (Sol w0 w' g N Ae ce es col vy (.slice (some ⟨bn,0,none⟩) s.nd.length cn) vl va vb { s with nd:=nd }) ∧ qz (ce' W1 w' bn none))
  case atStart=>exact ⟨0,s.nd,rfl,⟨aa',aa',aa'⟩,⟨rfl⟩,⟨rfl⟩,HS1,⟨ce'.refl _ _ _⟩⟩
  clear hc hb0 hb1 hb3 HS1
  obtain ⟨i,nd,rfl,HI,HT,HL,HS1,HK⟩:=hrel
  have h:=HT.o
  clear HT
  have hc:=HS1.o.cells
  have HBX:=qz.mk (HK.o.blk BX1.o hne ia')
  cases gk with
  | zero =>
   exfalso
   have h1:=HI.o
   omega
  | succ k1 =>
   by_cases c : i < (X.f0.length : Int)
   ·have hi:=HI.o
    rw [Jf' _ _ hi.1 c,wf'] at h
    have HT:=qz.mk h
    have cl0 : decide (i < (X.f0.length : Int)) = true:=decide_eq_true c
    have HIL:=qz.mk c
    obtain ⟨_,e_,hmi⟩:=Kd.at_int (HF0.o wr HK.o) i hi.1 c
    obtain rfl:=Option.some.inj e_
    have pi:=eq_true hi.1
    have qi:=eq_true c
    have hm:=HMM.o _ (Vd' X.f0 i hi.1 c)
    obtain ⟨pm,qm⟩:=hm
    have qm' : rd X.f0 i < (nd.length : Int):=by rw [HL.o];exact qm
    clear c hi h
    obtain ⟨A0n,c0n,A1n,c1n,nx0,nx1,nx2,nx3,nx4,nx5,nx6,nf2,nf3,nf5,nf6,-⟩:=HS1.o.node_at (rd X.f0 i) pm qm'
    have HS2:=qz.mk (HS1.o.sn (rd X.f0 i) pm qm' 2 (.int .i64 (-1)) { td' nd (rd X.f0 i) with f2:=-1 } ba' (fun _ _=>rfl) ⟨rfl,rfl⟩)
    have HK2:=qz.mk (HK.o.set_ ((rd X.f0 i).toNat * 7 + 2) (.int .i64 (-1)))
    have pmb:=eq_true pm
    have qmb:=eq_true qm
    go_upto_region 14 with fail
    clear nx0 nx1 nx2 nx3 nx4 nx5 nx6 nf2 nf3 nf5 nf6 hc
    generalize wr.setCell _ _ = W2 at HS2 HK2 ⊢
    have hc:=HS2.o.cells
    have qm2 : rd X.f0 i < ((inAt nd (rd X.f0 i) (-1)).length : Int):=by rw [inAt,List.length_set];exact qm'
    obtain ⟨A0n,c0n,A1n,c1n,nx0,nx1,nx2,nx3,nx4,nx5,nx6,nf2,nf3,nf5,nf6,-⟩:=HS2.o.node_at (rd X.f0 i) pm qm2
    have HS3:=qz.mk (HS2.o.sn (rd X.f0 i) pm qm2 3 (.int .i64 (-1)) { td' (inAt nd (rd X.f0 i) (-1)) (rd X.f0 i) with f3:=-1 } ba' (fun _ _=>rfl) ⟨rfl,rfl⟩)
    have HK3:=qz.mk (HK2.o.set_ ((rd X.f0 i).toNat * 7 + 3) (.int .i64 (-1)))
    go_upto_region 15 with fail
    clear nx0 nx1 nx2 nx3 nx4 nx5 nx6 nf2 nf3 nf5 nf6 hc
    generalize W2.setCell _ _ = W3 at HS3 HK3 ⊢
    have hc:=HS3.o.cells
    go_wp2_with fail
    go_roundg k1
    case measure=>omega
    case rel=>exact ⟨i + 1,_,Pb',⟨fa',fa',ga'⟩,HT,⟨Ic'⟩,HS3,HK3⟩
   have hi:=HI.o
   rw [List.drop_eq_nil_of_le aa',wf'] at h
   subst h
   have cl0 : decide (i < (X.f0.length : Int)) = false:=decide_eq_false c
   clear c hi
   go_wp2_with fail
   clear HI
   have hb0 : wr.cell? ⟨gb,0,none⟩ = some (.slice (some a0) X.f0.length c0):=(qq HBX.o 0).trans rfl
   have hb3 : wr.cell? ⟨gb,3,none⟩ = some (.int .i64 X.f3):=(qq HBX.o 3).trans rfl
   obtain ⟨_,e_,hma⟩:=Kd.at_int (HF0.o wr HK.o) (atI s.nd es n) HA.o.1 HA.o.2
   obtain rfl:=Option.some.inj e_
   have pa:=eq_true HA.o.1
   have qa:=eq_true HA.o.2
   obtain ⟨pm,qm⟩:=HMM.o _ (Vd' X.f0 (atI s.nd es n) HA.o.1 HA.o.2)
   have qm' : rd X.f0 (atI s.nd es n) < ((wf' X.f0 s.nd).length : Int):=by rw [HL.o];exact qm
   have pmb:=eq_true pm
   have qmb:=eq_true qm
   obtain ⟨A0n,c0n,A1n,c1n,nx0,nx1,nx2,nx3,nx4,nx5,nx6,nf2,nf3,nf5,nf6,-⟩:=HS1.o.node_at (rd X.f0 (atI s.nd es n)) pm qm'
   have HS2:=qz.mk (HS1.o.sn (rd X.f0 (atI s.nd es n)) pm qm' 3 (.int .i64 X.f3) { td' (wf' X.f0 s.nd) (rd X.f0 (atI s.nd es n)) with f3:=X.f3 } ba' (fun _ _=>rfl) ⟨rfl,rfl⟩)
   have HK2:=qz.mk (HK.o.set_ ((rd X.f0 (atI s.nd es n)).toNat * 7 + 3) (.int .i64 X.f3))
   refine Md' (n:=14) (S:=fun w'=>w'.cell? ⟨g,3,none⟩ = some (.slice (some ⟨bn,0,none⟩) s.nd.length cn) ∧ w'.cell? ⟨gb,0,none⟩ = some (.slice (some a0) X.f0.length c0) ∧ w'.cell? ⟨gb,3,none⟩ = some (.int .i64 X.f3) ∧ w'.cell? (a0.add (atI s.nd es n).toNat) = some (.int .i64 (rd X.f0 (atI s.nd es n)))) (ds:=[13]) (Array.replicate 14 false) da' rfl rfl ⟨hc.2.2.2.1,hb0,hb3,hma⟩ (fun hHeld=>?_)
   refine pa_ 0 64 (bz_ 14 1) ?_
   refine pa_ 1 65 (bz_ 14 3) ?_
   refine pa_ 2 66 (bz_ 14 7) ?_
   refine pa_ 4 68 (bz_ 14 23) ?_
   refine pa_ 6 70 (bz_ 14 87) ?_
   refine pa_ 9 73 (bz_ 14 599) ?_
   refine ta_ 3 67 (bz_ 14 607) hHeld (hy:=Or.inl ⟨ca',na'⟩) (h:=?_)
   refine ta_ 5 69 (bz_ 14 639) hHeld (hy:=Or.inl ⟨ca',na'⟩) (h:=?_)
   refine pa_ 7 71 (bz_ 14 767) ?_
   refine ta_ 8 72 (bz_ 14 1023) hHeld (hy:=Or.inl ⟨ca',na'⟩) (h:=?_)
   refine ta_ 10 74 (bz_ 14 2047) hHeld (hy:=Or.inl ⟨ca',na'⟩) (h:=?_)
   refine pa_ 11 75 (bz_ 14 4095) ?_
   refine pa_ 12 76 (bz_ 14 8191) ?_
   refine de' (i:=13) (N:=none) (bz_ 14 16383) rfl rfl da' ba' (fun K hK=>?_)
   refine Id' (w1:=?_) ca' rfl ?_ ?_
   rotate_left
   ·go_simp
    rfl
   refine hK.out _ _ ?_
   clear hK K
   refine Wd' da' ?_
   clear nx0 nx1 nx2 nx3 nx4 nx5 nx6 nf2 nf3 nf5 nf6 hc
   replace HS2:=qz.mk (HS2.o.to (qh (Below.refl _ _)))
   replace HK2:=qz.mk (lj' HK2.o)
   generalize (wr.setCell _ _).drew = W2 at HS2 HK2 ⊢
   have hc:=HS2.o.cells
   have HL2 : qz ((mateAt (wf' X.f0 s.nd) (rd X.f0 (atI s.nd es n)) X.f3).length = s.nd.length):=⟨lc'⟩
   clear hb0 hb3 hma HS1 HK HBX HL pm qm qm' pmb qmb pa qa
   go_wp2_with fail
   go_loopg [12] (X.f0.length + 1) (fun kq v12 w'=>∃ (k : Int) (nd : List (S89)),v12 = .int .i64 k ∧ qz (1 ≤ k ∧ k ≤ X.f0.length + 1 ∧ X.f0.length + 2 ≤ k + kq) ∧ qz (Sf' X.f0 X.f1 (atI s.nd es n) X.f0.length kq k nd = Sf' X.f0 X.f1 (atI s.nd es n) X.f0.length (X.f0.length + 1) 1 (mateAt (wf' X.f0 s.nd) (rd X.f0 (atI s.nd es n)) X.f3)) ∧ qz (nd.length = s.nd.length) ∧ qz (Sol w0 w' g N Ae ce es col vy (.slice (some ⟨bn,0,none⟩) s.nd.length cn) vl va vb { s with nd:=nd }) ∧ qz (ce' W1 w' bn none))
   case atStart=>exact ⟨1,_,rfl,⟨aa',Na',aa'⟩,⟨rfl⟩,HL2,HS2,HK2⟩
   clear hc HS2 HK2 HL2
   obtain ⟨k,nd,rfl,HI,HT,HL,HS1,HK⟩:=hrel
   have h:=HT.o
   clear HT
   have hc:=HS1.o.cells
   have HBX:=qz.mk (HK.o.blk BX1.o hne ia')
   cases gk with
   | zero =>
    exfalso
    have h1:=HI.o
    omega
   | succ k1 =>
    rw [Sf'] at h
    by_cases c : k < (X.f0.length : Int)
    ·rw [if_pos c] at h
     have HT:=qz.mk h
     have cl0 : decide (k < (X.f0.length : Int)) = true:=decide_eq_true c
     have HIL:=qz.mk c
     clear h c
     have hw1 : wrap64 (atI s.nd es n + k) = atI s.nd es n + k:=w64 cb' mc'
     have hw2 : wrap64 (atI s.nd es n + k + 1) = atI s.nd es n + k + 1:=w64 cb' mc'
     have ht1 : (atI s.nd es n + k).tmod (X.f0.length : Int) = (atI s.nd es n + k) % (X.f0.length : Int):=Int.tmod_eq_emod_of_nonneg cb'
     have ht2 : (atI s.nd es n + k + 1).tmod (X.f0.length : Int) = (atI s.nd es n + k + 1) % (X.f0.length : Int):=Int.tmod_eq_emod_of_nonneg cb'
     have hz0 : ((X.f0.length : Int) == 0) = false:=by have:=H0.o.1;rw [beq_eq_false_iff_ne];omega
     have hz1 : (X.f0.length : Int) ≠ 0:=by have:=H0.o;omega
     go_wp2_with fail
     go_quiet (fail)
     go_wp2_with fail
     have hI0 : 0 ≤ (atI s.nd es n + k) % (X.f0.length : Int):=Int.emod_nonneg _ hz1
     have hI1 : (atI s.nd es n + k) % (X.f0.length : Int) < (X.f0.length : Int):=Int.emod_lt_of_pos _ Na'
     have hJ0 : 0 ≤ (atI s.nd es n + k + 1) % (X.f0.length : Int):=Int.emod_nonneg _ hz1
     have hJ1 : (atI s.nd es n + k + 1) % (X.f0.length : Int) < (X.f0.length : Int):=Int.emod_lt_of_pos _ Na'
     clear hw1 hw2 ht1 ht2 hz0 hz1 cl0
     generalize (atI s.nd es n + k) % (X.f0.length : Int) = I at HT hI0 hI1 ⊢
     generalize (atI s.nd es n + k + 1) % (X.f0.length : Int) = J at HT hJ0 hJ1 ⊢
     replace HS1:=qz.mk (HS1.o.to (qd (Below.refl _ _) nq))
     replace HK:=qz.mk (Bo' HK.o nq)
     generalize wr.drewN nq = W2 at HS1 HK ⊢
     clear hc HBX
     have HBX:=qz.mk (HK.o.blk BX1.o hne ia')
     have hc:=HS1.o.cells
     have hb0 : W2.cell? ⟨gb,0,none⟩ = some (.slice (some a0) X.f0.length c0):=(qq HBX.o 0).trans rfl
     have hb1 : W2.cell? ⟨gb,1,none⟩ = some (.slice (some a1) X.f1.length c1):=(qq HBX.o 1).trans rfl
     obtain ⟨_,e_,hmI⟩:=Kd.at_int (HF0.o W2 HK.o) I hI0 hI1
     obtain rfl:=Option.some.inj e_
     have hI2 : I < (X.f1.length : Int):=by have:=H0.o;omega
     obtain ⟨_,e_,hlI⟩:=Kd.at_int (HF1.o W2 HK.o) I hI0 hI2
     obtain rfl:=Option.some.inj e_
     have pa:=eq_true hI0
     have qa:=eq_true hI1
     have ql:=eq_true hI2
     obtain ⟨pm,qm⟩:=HMM.o _ (Vd' X.f0 I hI0 hI1)
     have qm' : rd X.f0 I < (nd.length : Int):=by rw [HL.o];exact qm
     have pmb:=eq_true pm
     have qmb:=eq_true qm
     obtain ⟨A0n,c0n,A1n,c1n,nx0,nx1,nx2,nx3,nx4,nx5,nx6,nf2,nf3,nf5,nf6,-⟩:=HS1.o.node_at (rd X.f0 I) pm qm'
     have HS2:=qz.mk (HS1.o.sn (rd X.f0 I) pm qm' 3 (.int .i64 (rd X.f1 I)) { td' nd (rd X.f0 I) with f3:=rd X.f1 I } ba' (fun _ _=>rfl) ⟨rfl,rfl⟩)
     have HK2:=qz.mk (HK.o.set_ ((rd X.f0 I).toNat * 7 + 3) (.int .i64 (rd X.f1 I)))
     refine Md' (n:=17) (S:=fun w'=>w'.cell? ⟨g,3,none⟩ = some (.slice (some ⟨bn,0,none⟩) s.nd.length cn) ∧ w'.cell? ⟨gb,0,none⟩ = some (.slice (some a0) X.f0.length c0) ∧ w'.cell? ⟨gb,1,none⟩ = some (.slice (some a1) X.f1.length c1) ∧ w'.cell? (a0.add I.toNat) = some (.int .i64 (rd X.f0 I)) ∧ w'.cell? (a1.add I.toNat) = some (.int .i64 (rd X.f1 I))) (ds:=[16]) (Array.replicate 17 false) da' rfl rfl ⟨hc.2.2.2.1,hb0,hb1,hmI,hlI⟩ (fun hHeld=>?_)
     refine pa_ 0 93 (bz_ 17 1) ?_
     refine pa_ 1 94 (bz_ 17 3) ?_
     refine pa_ 2 95 (bz_ 17 7) ?_
     refine pa_ 4 97 (bz_ 17 23) ?_
     refine pa_ 6 99 (bz_ 17 87) ?_
     refine pa_ 9 102 (bz_ 17 599) ?_
     refine pa_ 11 104 (bz_ 17 2647) ?_
     refine ta_ 3 96 (bz_ 17 2655) hHeld (hy:=Or.inl ⟨ca',za'⟩) (h:=?_)
     refine ta_ 5 98 (bz_ 17 2687) hHeld (hy:=Or.inl ⟨ca',za'⟩) (h:=?_)
     refine pa_ 7 100 (bz_ 17 2815) ?_
     refine ta_ 8 101 (bz_ 17 3071) hHeld (hy:=Or.inl ⟨ca',za'⟩) (h:=?_)
     refine ta_ 10 103 (bz_ 17 4095) hHeld (hy:=Or.inl ⟨ca',za'⟩) (h:=?_)
     refine pa_ 12 105 (bz_ 17 8191) ?_
     refine ta_ 13 106 (bz_ 17 16383) hHeld (hy:=Or.inl ⟨ca',za'⟩) (h:=?_)
     refine pa_ 14 107 (bz_ 17 32767) ?_
     refine pa_ 15 108 (bz_ 17 65535) ?_
     refine de' (i:=16) (N:=none) (bz_ 17 131071) rfl rfl da' ba' (fun K hK=>?_)
     refine Id' (w1:=?_) ca' rfl ?_ ?_
     rotate_left
     ·go_simp
      rfl
     refine hK.out _ _ ?_
     clear hK K
     refine Wd' da' ?_
     clear nx0 nx1 nx2 nx3 nx4 nx5 nx6 nf2 nf3 nf5 nf6 hc
     replace HS2:=qz.mk (HS2.o.to (qh (Below.refl _ _)))
     replace HK2:=qz.mk (lj' HK2.o)
     generalize (W2.setCell _ _).drew = W3 at HS2 HK2 ⊢
     have hc:=HS2.o.cells
     clear hb0 hb1 hmI hlI HBX HS1 HK pm qm qm' pmb qmb
     have HBX:=qz.mk (HK2.o.blk BX1.o hne ia')
     have hb0 : W3.cell? ⟨gb,0,none⟩ = some (.slice (some a0) X.f0.length c0):=(qq HBX.o 0).trans rfl
     have hb1 : W3.cell? ⟨gb,1,none⟩ = some (.slice (some a1) X.f1.length c1):=(qq HBX.o 1).trans rfl
     obtain ⟨_,e_,hmJ⟩:=Kd.at_int (HF0.o W3 HK2.o) J hJ0 hJ1
     obtain rfl:=Option.some.inj e_
     obtain ⟨_,e_,hlI⟩:=Kd.at_int (HF1.o W3 HK2.o) I hI0 hI2
     obtain rfl:=Option.some.inj e_
     have pj:=eq_true hJ0
     have qj:=eq_true hJ1
     obtain ⟨pm,qm⟩:=HMM.o _ (Vd' X.f0 J hJ0 hJ1)
     have qm' : rd X.f0 J < ((mateAt nd (rd X.f0 I) (rd X.f1 I)).length : Int):=by rw [mateAt,List.length_set,HL.o];exact qm
     have pmb:=eq_true pm
     have qmb:=eq_true qm
     obtain ⟨A0n,c0n,A1n,c1n,nx0,nx1,nx2,nx3,nx4,nx5,nx6,nf2,nf3,nf5,nf6,-⟩:=HS2.o.node_at (rd X.f0 J) pm qm'
     have HS3:=qz.mk (HS2.o.sn (rd X.f0 J) pm qm' 3 (.int .i64 (rd X.f1 I)) { td' (mateAt nd (rd X.f0 I) (rd X.f1 I)) (rd X.f0 J) with f3:=rd X.f1 I } ba' (fun _ _=>rfl) ⟨rfl,rfl⟩)
     have HK3:=qz.mk (HK2.o.set_ ((rd X.f0 J).toNat * 7 + 3) (.int .i64 (rd X.f1 I)))
     go_wp2_with fail
     refine Md' (n:=17) (S:=fun w'=>w'.cell? ⟨g,3,none⟩ = some (.slice (some ⟨bn,0,none⟩) s.nd.length cn) ∧ w'.cell? ⟨gb,0,none⟩ = some (.slice (some a0) X.f0.length c0) ∧ w'.cell? ⟨gb,1,none⟩ = some (.slice (some a1) X.f1.length c1) ∧ w'.cell? (a0.add J.toNat) = some (.int .i64 (rd X.f0 J)) ∧ w'.cell? (a1.add I.toNat) = some (.int .i64 (rd X.f1 I))) (ds:=[16]) (Array.replicate 17 false) da' rfl rfl ⟨hc.2.2.2.1,hb0,hb1,hmJ,hlI⟩ (fun hHeld=>?_)
     refine pa_ 0 109 (bz_ 17 1) ?_
     refine pa_ 1 110 (bz_ 17 3) ?_
     refine pa_ 2 111 (bz_ 17 7) ?_
     refine pa_ 4 113 (bz_ 17 23) ?_
     refine pa_ 6 115 (bz_ 17 87) ?_
     refine pa_ 9 118 (bz_ 17 599) ?_
     refine pa_ 11 120 (bz_ 17 2647) ?_
     refine ta_ 3 112 (bz_ 17 2655) hHeld (hy:=Or.inl ⟨ca',za'⟩) (h:=?_)
     refine ta_ 5 114 (bz_ 17 2687) hHeld (hy:=Or.inl ⟨ca',za'⟩) (h:=?_)
     refine pa_ 7 116 (bz_ 17 2815) ?_
     refine ta_ 8 117 (bz_ 17 3071) hHeld (hy:=Or.inl ⟨ca',za'⟩) (h:=?_)
     refine ta_ 10 119 (bz_ 17 4095) hHeld (hy:=Or.inl ⟨ca',za'⟩) (h:=?_)
     refine pa_ 12 121 (bz_ 17 8191) ?_
     refine ta_ 13 122 (bz_ 17 16383) hHeld (hy:=Or.inl ⟨ca',za'⟩) (h:=?_)
     refine pa_ 14 123 (bz_ 17 32767) ?_
     refine pa_ 15 124 (bz_ 17 65535) ?_
     refine de' (i:=16) (N:=none) (bz_ 17 131071) rfl rfl da' ba' (fun K hK=>?_)
     refine Id' (w1:=?_) ca' rfl ?_ ?_
     rotate_left
     ·go_simp
      rfl
     refine hK.out _ _ ?_
     clear hK K
     refine Wd' da' ?_
     clear nx0 nx1 nx2 nx3 nx4 nx5 nx6 nf2 nf3 nf5 nf6 hc
     replace HS3:=qz.mk (HS3.o.to (qh (Below.refl _ _)))
     replace HK3:=qz.mk (lj' HK3.o)
     generalize (W3.setCell _ _).drew = W4 at HS3 HK3 ⊢
     have hc:=HS3.o.cells
     go_wp2_with fail
     go_roundg k1
     case measure=>omega
     case rel=>exact ⟨k + 2,_,Jc',⟨fa',ga',fa'⟩,HT,⟨by rw [mateAt,List.length_set,mateAt,List.length_set];exact HL.o⟩,HS3,HK3⟩
    rw [if_neg c] at h
    have cl0 : decide (k < (X.f0.length : Int)) = false:=decide_eq_false c
    clear c
    obtain ⟨p,q⟩:=HN.o
    have q2 : n < (nd.length : Int):=by rw [HL.o];exact q
    obtain ⟨A0n,c0n,A1n,c1n,nx0,nx1,nx2,nx3,nx4,nx5,nx6,nf2,nf3,nf5,nf6,-⟩:=HS1.o.node_at n p q2
    have HS2:=qz.mk (HS1.o.sn n p q2 6 (.bool true) { td' nd n with f6:=true } ba' (fun _ _=>rfl) ⟨rfl,rfl⟩)
    have HK2:=qz.mk (HK.o.set_ (n.toNat * 7 + 6) (.bool true))
    go_wp2_with fail
    go_end0
    exact ⟨rfl,by rw [← h];exact HS2.o,fun k o hk hne=>((HKB.o.trans HK2.o (.inl rfl)).2 k (ke' hk) (fun e=>hne (by rw [e];rfl)) ia').trans hk⟩
end Go.Proofs.YtnffimpoekjkpaaGreat.QFnExactSolve
