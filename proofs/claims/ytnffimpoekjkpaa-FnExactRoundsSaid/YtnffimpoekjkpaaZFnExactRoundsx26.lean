/- The program's solver: unfold. -/
import Derived.Test.YtnffimpoekjkpaaZFnExactRoundsx25
namespace Go.Proofs.Ytnffimpoekjkpaa.QFnExactRounds
open Go.RowKit Go.Proofs.YtnffimpoekjkpaaW.PrintWords Go.Proofs.YtnffimpoekjkpaaW.PrintLast Go.Proofs.YtnffimpoekjkpaaW.PrintMore
attribute [local go_sem] max2_int min2_int max_two min_two max_three min_three max_four min_four
set_option linter.unusedVariables false
set_option linter.unusedSimpArgs false
section
variable {w0 W : World} {g : Nat} {N : Int} {Ae : Option Addr} {ce : Nat} {es : List (S51)} {col : Nat → Nat} {vy vn vl va vb : Value} {s : SI}
/-- A node's two rows: where they lie, whatever is done to the nodes' own row. -/
theorem Sol.node_foot {b c n : Nat} (h : Sol w0 W g N Ae ce es col vy (.slice (some ⟨b,0,none⟩) n c) vl va vb s) (i : Int) (h0 : 0 ≤ i) (h1 : i < (s.nd.length : Int)) :
  ∃ A0 c0 A1 c1,W.cell? ⟨b,i.toNat * 7,none⟩ = some (.slice A0 (rd_T60 s.nd i).f0.length c0) ∧ W.cell? ⟨b,i.toNat * 7 + 1,none⟩ = some (.slice A1 (rd_T60 s.nd i).f1.length c1) ∧ W.cell? ⟨b,i.toNat * 7 + 2,none⟩ = some (.int .i64 (rd_T60 s.nd i).f2) ∧ W.cell? ⟨b,i.toNat * 7 + 3,none⟩ = some (.int .i64 (rd_T60 s.nd i).f3) ∧ W.cell? ⟨b,i.toNat * 7 + 4,none⟩ = some (.int .i64 (rd_T60 s.nd i).f4) ∧ W.cell? ⟨b,i.toNat * 7 + 5,none⟩ = some (.int .i64 (rd_T60 s.nd i).f5) ∧ W.cell? ⟨b,i.toNat * 7 + 6,none⟩ = some (.bool (rd_T60 s.nd i).f6) ∧
   (∀ W',KeepBut W W' b none → Kd.C (Kd.int .i64) W' A0 (rd_T60 s.nd i).f0.length (rd_T60 s.nd i).f0) ∧ (∀ W',KeepBut W W' b none → Kd.C (Kd.int .i64) W' A1 (rd_T60 s.nd i).f1.length (rd_T60 s.nd i).f1):=by
 have hn:=(Kd.R_reads' h.rn).1
 obtain ⟨cl,hcl,hM,hcc,hfr⟩:=Kd.R_elem h.rn z60 i h0 (by omega)
 obtain ⟨v0,v1,e,g0,g1⟩:=k60_openM hM
 obtain ⟨A0,c0,e0⟩:=Kd.R_slice g0
 subst e0
 obtain ⟨A1,c1,e1⟩:=Kd.R_slice g1
 subst e1
 subst e
 exact ⟨A0,c0,A1,c1,hcc 0 _ rfl,hcc 1 _ rfl,hcc 2 _ rfl,hcc 3 _ rfl,hcc 4 _ rfl,hcc 5 _ rfl,hcc 6 _ rfl,Kd.C_foot_own g0 (fun k hk=>hk.2),Kd.C_foot_own g1 (fun k hk=>hk.2)⟩
end
def inAt (nd : List (S60)) (n e : Int) : List (S60):=nd.set n.toNat { rd_T60 nd n with f2:=e }
def openAt (nd : List (S60)) (n : Int) : List (S60):=nd.set n.toNat { rd_T60 nd n with f6:=true }
/-- The place of the member by which a ring is opened. -/
def atF (nd : List (S60)) (v : Int) : List Int → Int → Int → Int
 | [],_,a=>a
 | m :: l,k,a=>atF nd v l (k + 1) (if hasI nd m v = true then k else a)
def clearF : List Int → List (S60) → List (S60)
 | [],nd=>nd
 | m :: l,nd=>clearF l (mateAt (inAt nd m (-1)) m (-1))
def pairF (mem lk : List Int) (a size : Int) : Nat → Int → List (S60) → List (S60)
 | 0,_,nd=>nd
 | f + 1,k,nd=>if k < size then pairF mem lk a size f (k + 2) (mateAt (mateAt nd (rd mem ((a + k) % size)) (rd lk ((a + k) % size))) (rd mem ((a + k + 1) % size)) (rd lk ((a + k) % size))) else nd
def atI (nd : List (S60)) (es : List (S51)) (n : Int) : Int:=atF nd (holdI nd es n) (rd_T60 nd n).f0 0 0
def unfoldI (es : List (S51)) (nd : List (S60)) (n : Int) : List (S60) :=
 openAt (pairF (rd_T60 nd n).f0 (rd_T60 nd n).f1 (atI nd es n) (rd_T60 nd n).f0.length ((rd_T60 nd n).f0.length + 1) 1 (mateAt (clearF (rd_T60 nd n).f0 nd) (rd (rd_T60 nd n).f0 (atI nd es n)) (rd_T60 nd n).f3)) n
theorem drop_rd (l : List Int) (i : Int) (h0 : 0 ≤ i) (h1 : i < (l.length : Int)) : l.drop i.toNat = rd l i :: l.drop (i + 1).toNat:=by
 have h : i.toNat < l.length:=by omega
 rw [List.drop_eq_getElem_cons h,show (i + 1).toNat = i.toNat + 1 from by omega]
 congr 1
 simp [rd,h]
theorem rd_mem (l : List Int) (i : Int) (h0 : 0 ≤ i) (h1 : i < (l.length : Int)) : rd l i ∈ l:=by
 have h : i.toNat < l.length:=by omega
 have : rd l i = l[i.toNat]:=by simp [rd,h]
 rw [this]
 exact List.getElem_mem h
theorem w64 {i : Int} (h0 : -9223372036854775808 ≤ i) (h1 : i ≤ 9223372036854775807) : wrap64 i = i:=by unfold wrap64;omega
set_option maxHeartbeats 8000000 in
set_option maxRecDepth 100000 in
theorem unfold_calls {w0 W : World} {g : Nat} {N : Int} {Ae : Option Addr} {ce : Nat} {es : List (S51)} {col : Nat → Nat} {vy vn vl va vb : Value} {s : SI} (hS : Sol w0 W g N Ae ce es col vy vn vl va vb s) (hw : WFn s.nd) (ho : EOk es s.nd.length) (n : Int) (hn : inR n s.nd.length) (hm : (rd_T60 s.nd n).f3 = -1 ∨ inR (rd_T60 s.nd n).f3 es.length)
  (hv : holdI s.nd es n = -1 ∨ inR (holdI s.nd es n) s.nd.length) (hmem : ∀ m ∈ (rd_T60 s.nd n).f0,inR m s.nd.length) (h0 : 0 < (rd_T60 s.nd n).f0.length) (hlk : (rd_T60 s.nd n).f0.length ≤ (rd_T60 s.nd n).f1.length) (hsz : (rd_T60 s.nd n).f0.length ≤ 1000000) :
  Calls Try.prog 57 #[.pointer (some ⟨g,0,none⟩),.int .i64 n] W fun r w'=>r = .returned (.tuple #[]) ∧ Sol w0 w' g N Ae ce es col vy vn vl va vb { s with nd:=unfoldI es s.nd n }:=by
 have hu47:=Try.underlying47
 have hu60:=Try.underlying60
 have hu51:=Try.underlying51
 have hu29:=Try.underlying29
 have HS:=qy.mk hS
 clear hS
 obtain ⟨bn,cn,e_,-⟩:=row_at HS.out.rn (by have:=hn.1;have:=hn.2;omega)
 subst e_
 obtain ⟨X,hX⟩ : ∃ X,rd_T60 s.nd n = X:=⟨_,rfl⟩
 obtain ⟨A0,c0,A1,c1,nx0,nx1,nx2,nx3,nx4,nx5,nx6,F0,F1⟩:=HS.out.node_foot n hn.1 hn.2
 have HH:=qy.mk (fun (W' : World) (h : Sol w0 W' g N Ae ce es col vy (.slice (some ⟨bn,0,none⟩) s.nd.length cn) vl va vb s)=>hold_calls h hw ho n hn hm)
 obtain ⟨v,hvv⟩ : ∃ v,holdI s.nd es n = v:=⟨_,rfl⟩
 rw [unfoldI]
 simp only [hX] at nx0 nx1 nx2 nx3 nx4 nx5 nx6 F0 F1 hmem h0 hlk hsz ⊢
 obtain ⟨p,q⟩:=hn
 have hc:=HS.out.cells
 have p':=eq_true p
 have q':=eq_true q
 go_enter Try.func57,Try.ntmps57
 go_upto_region 1 with fail
 have BX1 : qy ((W.alloc (.cells #[.slice A0 X.f0.length c0,.slice A1 X.f1.length c1,.int .i64 X.f2,.int .i64 X.f3,.int .i64 X.f4,.int .i64 X.f5,.bool X.f6] 60)).heap[W.heap.size]? = some (.cells #[.slice A0 X.f0.length c0,.slice A1 X.f1.length c1,.int .i64 X.f2,.int .i64 X.f3,.int .i64 X.f4,.int .i64 X.f5,.bool X.f6] 60 (0,0))):=⟨blk_new W _⟩
 have HB1 : qy (Below W.heap.size W (W.alloc (.cells #[.slice A0 X.f0.length c0,.slice A1 X.f1.length c1,.int .i64 X.f2,.int .i64 X.f3,.int .i64 X.f4,.int .i64 X.f5,.bool X.f6] 60))):=⟨qo (Below.refl _ _) _⟩
 generalize W.alloc (.cells #[.slice A0 X.f0.length c0,.slice A1 X.f1.length c1,.int .i64 X.f2,.int .i64 X.f3,.int .i64 X.f4,.int .i64 X.f5,.bool X.f6] 60) = W1 at *
 generalize hgb : W.heap.size = gb at BX1 ⊢
 have hne : gb ≠ bn:=by
  obtain ⟨ds,hd⟩:=row_blk HS.out.rn
  have:=blk_lt hd
  omega
 have HS1:=qy.mk (HS.out.to HB1.out)
 have HF0 : qy (∀ W',KeepBut W1 W' bn none → Kd.C (Kd.int .i64) W' A0 X.f0.length X.f0):=⟨fun W' h=>F0 W' ((KeepBut.of_below HB1.out bn none).trans h (.inl rfl))⟩
 have HF1 : qy (∀ W',KeepBut W1 W' bn none → Kd.C (Kd.int .i64) W' A1 X.f1.length X.f1):=⟨fun W' h=>F1 W' ((KeepBut.of_below HB1.out bn none).trans h (.inl rfl))⟩
 have HW:=qy.mk hw
 have HMM:=qy.mk hmem
 have HV : qy (v = -1 ∨ inR v s.nd.length):=⟨hvv ▸ hv⟩
 have HI0 : qy (atI s.nd es n = atF s.nd v X.f0 0 0):=⟨by rw [atI,hX,hvv]⟩
 have H0:=qy.mk (And.intro h0 (And.intro hlk hsz))
 have HN:=qy.mk (And.intro p q)
 have hb0 : W1.cell? ⟨gb,0,none⟩ = some (.slice A0 X.f0.length c0):=(qq BX1.out 0).trans rfl
 have hb1 : W1.cell? ⟨gb,1,none⟩ = some (.slice A1 X.f1.length c1):=(qq BX1.out 1).trans rfl
 have hb3 : W1.cell? ⟨gb,3,none⟩ = some (.int .i64 X.f3):=(qq BX1.out 3).trans rfl
 have hc:=HS1.out.cells
 have hA0 : ∃ a0,A0 = some a0:=by
  obtain ⟨a0,e,-⟩:=Kd.at_int (HF0.out W1 (KeepBut.refl _ _ _)) 0 (by omega) (by omega)
  exact ⟨a0,e⟩
 obtain ⟨a0,rfl⟩:=hA0
 have hA1 : ∃ a1,A1 = some a1:=by
  obtain ⟨a1,e,-⟩:=Kd.at_int (HF1.out W1 (KeepBut.refl _ _ _)) 0 (by omega) (by omega)
  exact ⟨a1,e⟩
 obtain ⟨a1,rfl⟩:=hA1
 clear hw ho hv hmem h0 hlk hsz hm F0 F1 nx0 nx1 nx2 nx3 nx4 nx5 nx6 p q HB1
 go_wp2_with (first|(go_at_call 62;(with_reducible refine (HH.out _ HS1.out).mono ?_);rintro e w2 ⟨rfl,h2⟩;replace h2:=h2.symm;subst h2))
 try rw [hvv]
 go_loopg [7,31] (X.f0.length + 1) (fun kq v7 v31 w'=>∃ i a : Int,v7 = .int .i64 a ∧ v31 = .int .i64 i ∧ qy (0 ≤ i ∧ i + kq = X.f0.length + 1 ∧ i ≤ X.f0.length ∧ 0 ≤ a ∧ a < X.f0.length) ∧ qy (atF s.nd v (X.f0.drop i.toNat) i a = atI s.nd es n) ∧ W1 = w')
 case atStart=>exact ⟨0,0,rfl,rfl,⟨by omega,by omega,by omega,by omega,by have:=H0.out.1;omega⟩,⟨by rw [HI0.out];rfl⟩,rfl⟩
 obtain ⟨i,a,rfl,rfl,HI,HT,rfl⟩:=hrel
 cases gk with
 | zero =>
  exfalso
  have h1:=HI.out
  omega
 | succ k1 =>
  have h:=HT.out
  clear HT
  by_cases c : i < (X.f0.length : Int)
  ·have hi:=HI.out
   rw [drop_rd _ _ hi.1 c,atF] at h
   have cl0 : decide (i < (X.f0.length : Int)) = true:=decide_eq_true c
   have HIL:=qy.mk c
   have HQ:=qy.mk (has_is HW.out (rd X.f0 i) HV.out)
   obtain ⟨_,e_,hmi⟩:=Kd.at_int (HF0.out W1 (KeepBut.refl _ _ _)) i hi.1 c
   obtain rfl:=Option.some.inj e_
   have pi:=eq_true hi.1
   have qi:=eq_true c
   clear c hi
   cases b : hasI s.nd (rd X.f0 i) v with
   | true =>
    rw [b,if_pos rfl] at h
    rw [b] at HQ
    have HT:=qy.mk h
    clear h b
    go_wp2_with (first|(go_at_call 63;(with_reducible refine (has_calls (by first|exact HS1.out|exact HS1.out.to) _ _ _ true HQ.out).mono ?_);rintro e w2 ⟨rfl,h2⟩;replace h2:=h2.symm;subst h2))
    go_roundg k1
    case measure=>omega
    case rel=>exact ⟨i + 1,i,rfl,by rw [w64 (by have:=HI.out;omega) (by have:=HI.out;have:=H0.out;omega)],⟨by have:=HI.out;omega,by have:=HI.out;omega,by have:=HIL.out;omega,by have:=HI.out;omega,by have:=HIL.out;omega⟩,HT,rfl⟩
   | false =>
    rw [b,if_neg (by decide)] at h
    rw [b] at HQ
    have HT:=qy.mk h
    clear h b
    go_wp2_with (first|(go_at_call 63;(with_reducible refine (has_calls (by first|exact HS1.out|exact HS1.out.to) _ _ _ false HQ.out).mono ?_);rintro e w2 ⟨rfl,h2⟩;replace h2:=h2.symm;subst h2))
    go_roundg k1
    case measure=>omega
    case rel=>exact ⟨i + 1,a,rfl,by rw [w64 (by have:=HI.out;omega) (by have:=HI.out;have:=H0.out;omega)],⟨by have:=HI.out;omega,by have:=HI.out;omega,by have:=HIL.out;omega,by have:=HI.out;omega,by have:=HI.out;omega⟩,HT,rfl⟩
  have hi:=HI.out
  rw [List.drop_eq_nil_of_le (by omega),atF] at h
  subst h
  have cl0 : decide (i < (X.f0.length : Int)) = false:=decide_eq_false c
  clear c hi
  go_wp2_with fail
  have HA : qy (0 ≤ atI s.nd es n ∧ atI s.nd es n < X.f0.length):=⟨by have:=HI.out;omega⟩
  clear HI
  go_loopg [45] (X.f0.length + 1) (fun kq v45 w'=>∃ (i : Int) (nd : List (S60)),v45 = .int .i64 i ∧ qy (0 ≤ i ∧ i + kq = X.f0.length + 1 ∧ i ≤ X.f0.length) ∧ qy (clearF (X.f0.drop i.toNat) nd = clearF X.f0 s.nd) ∧ qy (nd.length = s.nd.length) ∧ qy (Sol w0 w' g N Ae ce es col vy (.slice (some ⟨bn,0,none⟩) s.nd.length cn) vl va vb { s with nd:=nd }) ∧ qy (KeepBut W1 w' bn none))
  case atStart=>exact ⟨0,s.nd,rfl,⟨by omega,by omega,by omega⟩,⟨rfl⟩,⟨rfl⟩,HS1,⟨KeepBut.refl _ _ _⟩⟩
  clear hc hb0 hb1 hb3 HS1
  obtain ⟨i,nd,rfl,HI,HT,HL,HS1,HK⟩:=hrel
  have h:=HT.out
  clear HT
  have hc:=HS1.out.cells
  have HBX:=qy.mk (HK.out.blk BX1.out hne (by simp))
  cases gk with
  | zero =>
   exfalso
   have h1:=HI.out
   omega
  | succ k1 =>
   by_cases c : i < (X.f0.length : Int)
   ·have hi:=HI.out
    rw [drop_rd _ _ hi.1 c,clearF] at h
    have HT:=qy.mk h
    have cl0 : decide (i < (X.f0.length : Int)) = true:=decide_eq_true c
    have HIL:=qy.mk c
    obtain ⟨_,e_,hmi⟩:=Kd.at_int (HF0.out wr HK.out) i hi.1 c
    obtain rfl:=Option.some.inj e_
    have pi:=eq_true hi.1
    have qi:=eq_true c
    have hm:=HMM.out _ (rd_mem X.f0 i hi.1 c)
    obtain ⟨pm,qm⟩:=hm
    have qm' : rd X.f0 i < (nd.length : Int):=by rw [HL.out];exact qm
    clear c hi h
    obtain ⟨A0n,c0n,A1n,c1n,nx0,nx1,nx2,nx3,nx4,nx5,nx6,nf2,nf3,nf5,nf6,-⟩:=HS1.out.node_at (rd X.f0 i) pm qm'
    have HS2:=qy.mk (HS1.out.sn (rd X.f0 i) pm qm' 2 (.int .i64 (-1)) { rd_T60 nd (rd X.f0 i) with f2:=-1 } (by decide) (fun _ _=>rfl) ⟨rfl,rfl⟩)
    have HK2:=qy.mk (HK.out.set_ ((rd X.f0 i).toNat * 7 + 2) (.int .i64 (-1)))
    have pmb:=eq_true pm
    have qmb:=eq_true qm
    go_upto_region 14 with fail
    clear nx0 nx1 nx2 nx3 nx4 nx5 nx6 nf2 nf3 nf5 nf6 hc
    generalize wr.setCell _ _ = W2 at HS2 HK2 ⊢
    have hc:=HS2.out.cells
    have qm2 : rd X.f0 i < ((inAt nd (rd X.f0 i) (-1)).length : Int):=by rw [inAt,List.length_set];exact qm'
    obtain ⟨A0n,c0n,A1n,c1n,nx0,nx1,nx2,nx3,nx4,nx5,nx6,nf2,nf3,nf5,nf6,-⟩:=HS2.out.node_at (rd X.f0 i) pm qm2
    have HS3:=qy.mk (HS2.out.sn (rd X.f0 i) pm qm2 3 (.int .i64 (-1)) { rd_T60 (inAt nd (rd X.f0 i) (-1)) (rd X.f0 i) with f3:=-1 } (by decide) (fun _ _=>rfl) ⟨rfl,rfl⟩)
    have HK3:=qy.mk (HK2.out.set_ ((rd X.f0 i).toNat * 7 + 3) (.int .i64 (-1)))
    go_upto_region 15 with fail
    clear nx0 nx1 nx2 nx3 nx4 nx5 nx6 nf2 nf3 nf5 nf6 hc
    generalize W2.setCell _ _ = W3 at HS3 HK3 ⊢
    have hc:=HS3.out.cells
    go_wp2_with fail
    go_roundg k1
    case measure=>omega
    case rel=>exact ⟨i + 1,_,by rw [w64 (by have:=HI.out;omega) (by have:=HI.out;have:=H0.out;omega)],⟨by have:=HI.out;omega,by have:=HI.out;omega,by have:=HIL.out;omega⟩,HT,⟨by rw [mateAt,List.length_set,inAt,List.length_set];exact HL.out⟩,HS3,HK3⟩
   have hi:=HI.out
   rw [List.drop_eq_nil_of_le (by omega),clearF] at h
   subst h
   have cl0 : decide (i < (X.f0.length : Int)) = false:=decide_eq_false c
   clear c hi
   go_wp2_with fail
   clear HI
   have hb0 : wr.cell? ⟨gb,0,none⟩ = some (.slice (some a0) X.f0.length c0):=(qq HBX.out 0).trans rfl
   have hb3 : wr.cell? ⟨gb,3,none⟩ = some (.int .i64 X.f3):=(qq HBX.out 3).trans rfl
   obtain ⟨_,e_,hma⟩:=Kd.at_int (HF0.out wr HK.out) (atI s.nd es n) HA.out.1 HA.out.2
   obtain rfl:=Option.some.inj e_
   have pa:=eq_true HA.out.1
   have qa:=eq_true HA.out.2
   obtain ⟨pm,qm⟩:=HMM.out _ (rd_mem X.f0 (atI s.nd es n) HA.out.1 HA.out.2)
   have qm' : rd X.f0 (atI s.nd es n) < ((clearF X.f0 s.nd).length : Int):=by rw [HL.out];exact qm
   have pmb:=eq_true pm
   have qmb:=eq_true qm
   obtain ⟨A0n,c0n,A1n,c1n,nx0,nx1,nx2,nx3,nx4,nx5,nx6,nf2,nf3,nf5,nf6,-⟩:=HS1.out.node_at (rd X.f0 (atI s.nd es n)) pm qm'
   have HS2:=qy.mk (HS1.out.sn (rd X.f0 (atI s.nd es n)) pm qm' 3 (.int .i64 X.f3) { rd_T60 (clearF X.f0 s.nd) (rd X.f0 (atI s.nd es n)) with f3:=X.f3 } (by decide) (fun _ _=>rfl) ⟨rfl,rfl⟩)
   have HK2:=qy.mk (HK.out.set_ ((rd X.f0 (atI s.nd es n)).toNat * 7 + 3) (.int .i64 X.f3))
   refine start_ (n:=14) (S:=fun w'=>w'.cell? ⟨g,3,none⟩ = some (.slice (some ⟨bn,0,none⟩) s.nd.length cn) ∧ w'.cell? ⟨gb,0,none⟩ = some (.slice (some a0) X.f0.length c0) ∧ w'.cell? ⟨gb,3,none⟩ = some (.int .i64 X.f3) ∧ w'.cell? (a0.add (atI s.nd es n).toNat) = some (.int .i64 (rd X.f0 (atI s.nd es n)))) (ds:=[13]) (Array.replicate 14 false) (by kernel_rfl) rfl rfl ⟨hc.2.2.2.1,hb0,hb3,hma⟩ (fun hHeld=>?_)
   refine pa_ 0 64 (bz_ 14 1) ?_
   refine pa_ 1 65 (bz_ 14 3) ?_
   refine pa_ 2 66 (bz_ 14 7) ?_
   refine pa_ 4 68 (bz_ 14 23) ?_
   refine pa_ 6 70 (bz_ 14 87) ?_
   refine pa_ 9 73 (bz_ 14 599) ?_
   refine ta_ 3 67 (bz_ 14 607) hHeld (hy:=Or.inl ⟨by rfl,by rintro w' ⟨s0,s1,s2,s3⟩;go_simp;with_reducible rfl⟩) (h:=?_)
   refine ta_ 5 69 (bz_ 14 639) hHeld (hy:=Or.inl ⟨by rfl,by rintro w' ⟨s0,s1,s2,s3⟩;go_simp;with_reducible rfl⟩) (h:=?_)
   refine pa_ 7 71 (bz_ 14 767) ?_
   refine ta_ 8 72 (bz_ 14 1023) hHeld (hy:=Or.inl ⟨by rfl,by rintro w' ⟨s0,s1,s2,s3⟩;go_simp;with_reducible rfl⟩) (h:=?_)
   refine ta_ 10 74 (bz_ 14 2047) hHeld (hy:=Or.inl ⟨by rfl,by rintro w' ⟨s0,s1,s2,s3⟩;go_simp;with_reducible rfl⟩) (h:=?_)
   refine pa_ 11 75 (bz_ 14 4095) ?_
   refine pa_ 12 76 (bz_ 14 8191) ?_
   refine last_ (i:=13) (N:=none) (bz_ 14 16383) rfl rfl (by kernel_rfl) (by decide) (fun K hK=>?_)
   refine skip_ (w1:=?_) (by rfl) rfl ?_ ?_
   rotate_left
   ·go_simp
    rfl
   refine hK.out _ _ ?_
   clear hK K
   refine done_ (by kernel_rfl) ?_
   clear nx0 nx1 nx2 nx3 nx4 nx5 nx6 nf2 nf3 nf5 nf6 hc
   replace HS2:=qy.mk (HS2.out.to (qh (Below.refl _ _)))
   replace HK2:=qy.mk (keep_drew HK2.out)
   generalize (wr.setCell _ _).drew = W2 at HS2 HK2 ⊢
   have hc:=HS2.out.cells
   have HL2 : qy ((mateAt (clearF X.f0 s.nd) (rd X.f0 (atI s.nd es n)) X.f3).length = s.nd.length):=⟨by rw [mateAt,List.length_set];exact HL.out⟩
   clear hb0 hb3 hma HS1 HK HBX HL pm qm qm' pmb qmb pa qa
   go_wp2_with fail
   go_loopg [12] (X.f0.length + 1) (fun kq v12 w'=>∃ (k : Int) (nd : List (S60)),v12 = .int .i64 k ∧ qy (1 ≤ k ∧ k ≤ X.f0.length + 1 ∧ X.f0.length + 2 ≤ k + kq) ∧ qy (pairF X.f0 X.f1 (atI s.nd es n) X.f0.length kq k nd = pairF X.f0 X.f1 (atI s.nd es n) X.f0.length (X.f0.length + 1) 1 (mateAt (clearF X.f0 s.nd) (rd X.f0 (atI s.nd es n)) X.f3)) ∧ qy (nd.length = s.nd.length) ∧ qy (Sol w0 w' g N Ae ce es col vy (.slice (some ⟨bn,0,none⟩) s.nd.length cn) vl va vb { s with nd:=nd }) ∧ qy (KeepBut W1 w' bn none))
   case atStart=>exact ⟨1,_,rfl,⟨by omega,by have:=H0.out.1;omega,by omega⟩,⟨rfl⟩,HL2,HS2,HK2⟩
   clear hc HS2 HK2 HL2
   obtain ⟨k,nd,rfl,HI,HT,HL,HS1,HK⟩:=hrel
   have h:=HT.out
   clear HT
   have hc:=HS1.out.cells
   have HBX:=qy.mk (HK.out.blk BX1.out hne (by simp))
   cases gk with
   | zero =>
    exfalso
    have h1:=HI.out
    omega
   | succ k1 =>
    rw [pairF] at h
    by_cases c : k < (X.f0.length : Int)
    ·rw [if_pos c] at h
     have HT:=qy.mk h
     have cl0 : decide (k < (X.f0.length : Int)) = true:=decide_eq_true c
     have HIL:=qy.mk c
     clear h c
     have hw1 : wrap64 (atI s.nd es n + k) = atI s.nd es n + k:=w64 (by have:=HI.out;have:=HA.out;omega) (by have:=HIL.out;have:=HA.out;have:=H0.out;omega)
     have hw2 : wrap64 (atI s.nd es n + k + 1) = atI s.nd es n + k + 1:=w64 (by have:=HI.out;have:=HA.out;omega) (by have:=HIL.out;have:=HA.out;have:=H0.out;omega)
     have ht1 : (atI s.nd es n + k).tmod (X.f0.length : Int) = (atI s.nd es n + k) % (X.f0.length : Int):=Int.tmod_eq_emod_of_nonneg (by have:=HI.out;have:=HA.out;omega)
     have ht2 : (atI s.nd es n + k + 1).tmod (X.f0.length : Int) = (atI s.nd es n + k + 1) % (X.f0.length : Int):=Int.tmod_eq_emod_of_nonneg (by have:=HI.out;have:=HA.out;omega)
     have hz0 : ((X.f0.length : Int) == 0) = false:=by have:=H0.out.1;rw [beq_eq_false_iff_ne];omega
     have hz1 : (X.f0.length : Int) ≠ 0:=by have:=H0.out;omega
     go_wp2_with fail
     go_quiet (fail)
     go_wp2_with fail
     have hI0 : 0 ≤ (atI s.nd es n + k) % (X.f0.length : Int):=Int.emod_nonneg _ hz1
     have hI1 : (atI s.nd es n + k) % (X.f0.length : Int) < (X.f0.length : Int):=Int.emod_lt_of_pos _ (by have:=H0.out.1;omega)
     have hJ0 : 0 ≤ (atI s.nd es n + k + 1) % (X.f0.length : Int):=Int.emod_nonneg _ hz1
     have hJ1 : (atI s.nd es n + k + 1) % (X.f0.length : Int) < (X.f0.length : Int):=Int.emod_lt_of_pos _ (by have:=H0.out.1;omega)
     clear hw1 hw2 ht1 ht2 hz0 hz1 cl0
     generalize (atI s.nd es n + k) % (X.f0.length : Int) = I at HT hI0 hI1 ⊢
     generalize (atI s.nd es n + k + 1) % (X.f0.length : Int) = J at HT hJ0 hJ1 ⊢
     replace HS1:=qy.mk (HS1.out.to (qd (Below.refl _ _) nq))
     replace HK:=qy.mk (keep_drewN HK.out nq)
     generalize wr.drewN nq = W2 at HS1 HK ⊢
     clear hc HBX
     have HBX:=qy.mk (HK.out.blk BX1.out hne (by simp))
     have hc:=HS1.out.cells
     have hb0 : W2.cell? ⟨gb,0,none⟩ = some (.slice (some a0) X.f0.length c0):=(qq HBX.out 0).trans rfl
     have hb1 : W2.cell? ⟨gb,1,none⟩ = some (.slice (some a1) X.f1.length c1):=(qq HBX.out 1).trans rfl
     obtain ⟨_,e_,hmI⟩:=Kd.at_int (HF0.out W2 HK.out) I hI0 hI1
     obtain rfl:=Option.some.inj e_
     have hI2 : I < (X.f1.length : Int):=by have:=H0.out;omega
     obtain ⟨_,e_,hlI⟩:=Kd.at_int (HF1.out W2 HK.out) I hI0 hI2
     obtain rfl:=Option.some.inj e_
     have pa:=eq_true hI0
     have qa:=eq_true hI1
     have ql:=eq_true hI2
     obtain ⟨pm,qm⟩:=HMM.out _ (rd_mem X.f0 I hI0 hI1)
     have qm' : rd X.f0 I < (nd.length : Int):=by rw [HL.out];exact qm
     have pmb:=eq_true pm
     have qmb:=eq_true qm
     obtain ⟨A0n,c0n,A1n,c1n,nx0,nx1,nx2,nx3,nx4,nx5,nx6,nf2,nf3,nf5,nf6,-⟩:=HS1.out.node_at (rd X.f0 I) pm qm'
     have HS2:=qy.mk (HS1.out.sn (rd X.f0 I) pm qm' 3 (.int .i64 (rd X.f1 I)) { rd_T60 nd (rd X.f0 I) with f3:=rd X.f1 I } (by decide) (fun _ _=>rfl) ⟨rfl,rfl⟩)
     have HK2:=qy.mk (HK.out.set_ ((rd X.f0 I).toNat * 7 + 3) (.int .i64 (rd X.f1 I)))
     refine start_ (n:=17) (S:=fun w'=>w'.cell? ⟨g,3,none⟩ = some (.slice (some ⟨bn,0,none⟩) s.nd.length cn) ∧ w'.cell? ⟨gb,0,none⟩ = some (.slice (some a0) X.f0.length c0) ∧ w'.cell? ⟨gb,1,none⟩ = some (.slice (some a1) X.f1.length c1) ∧ w'.cell? (a0.add I.toNat) = some (.int .i64 (rd X.f0 I)) ∧ w'.cell? (a1.add I.toNat) = some (.int .i64 (rd X.f1 I))) (ds:=[16]) (Array.replicate 17 false) (by kernel_rfl) rfl rfl ⟨hc.2.2.2.1,hb0,hb1,hmI,hlI⟩ (fun hHeld=>?_)
     refine pa_ 0 93 (bz_ 17 1) ?_
     refine pa_ 1 94 (bz_ 17 3) ?_
     refine pa_ 2 95 (bz_ 17 7) ?_
     refine pa_ 4 97 (bz_ 17 23) ?_
     refine pa_ 6 99 (bz_ 17 87) ?_
     refine pa_ 9 102 (bz_ 17 599) ?_
     refine pa_ 11 104 (bz_ 17 2647) ?_
     refine ta_ 3 96 (bz_ 17 2655) hHeld (hy:=Or.inl ⟨by rfl,by rintro w' ⟨s0,s1,s2,s3,s4⟩;go_simp;with_reducible rfl⟩) (h:=?_)
     refine ta_ 5 98 (bz_ 17 2687) hHeld (hy:=Or.inl ⟨by rfl,by rintro w' ⟨s0,s1,s2,s3,s4⟩;go_simp;with_reducible rfl⟩) (h:=?_)
     refine pa_ 7 100 (bz_ 17 2815) ?_
     refine ta_ 8 101 (bz_ 17 3071) hHeld (hy:=Or.inl ⟨by rfl,by rintro w' ⟨s0,s1,s2,s3,s4⟩;go_simp;with_reducible rfl⟩) (h:=?_)
     refine ta_ 10 103 (bz_ 17 4095) hHeld (hy:=Or.inl ⟨by rfl,by rintro w' ⟨s0,s1,s2,s3,s4⟩;go_simp;with_reducible rfl⟩) (h:=?_)
     refine pa_ 12 105 (bz_ 17 8191) ?_
     refine ta_ 13 106 (bz_ 17 16383) hHeld (hy:=Or.inl ⟨by rfl,by rintro w' ⟨s0,s1,s2,s3,s4⟩;go_simp;with_reducible rfl⟩) (h:=?_)
     refine pa_ 14 107 (bz_ 17 32767) ?_
     refine pa_ 15 108 (bz_ 17 65535) ?_
     refine last_ (i:=16) (N:=none) (bz_ 17 131071) rfl rfl (by kernel_rfl) (by decide) (fun K hK=>?_)
     refine skip_ (w1:=?_) (by rfl) rfl ?_ ?_
     rotate_left
     ·go_simp
      rfl
     refine hK.out _ _ ?_
     clear hK K
     refine done_ (by kernel_rfl) ?_
     clear nx0 nx1 nx2 nx3 nx4 nx5 nx6 nf2 nf3 nf5 nf6 hc
     replace HS2:=qy.mk (HS2.out.to (qh (Below.refl _ _)))
     replace HK2:=qy.mk (keep_drew HK2.out)
     generalize (W2.setCell _ _).drew = W3 at HS2 HK2 ⊢
     have hc:=HS2.out.cells
     clear hb0 hb1 hmI hlI HBX HS1 HK pm qm qm' pmb qmb
     have HBX:=qy.mk (HK2.out.blk BX1.out hne (by simp))
     have hb0 : W3.cell? ⟨gb,0,none⟩ = some (.slice (some a0) X.f0.length c0):=(qq HBX.out 0).trans rfl
     have hb1 : W3.cell? ⟨gb,1,none⟩ = some (.slice (some a1) X.f1.length c1):=(qq HBX.out 1).trans rfl
     obtain ⟨_,e_,hmJ⟩:=Kd.at_int (HF0.out W3 HK2.out) J hJ0 hJ1
     obtain rfl:=Option.some.inj e_
     obtain ⟨_,e_,hlI⟩:=Kd.at_int (HF1.out W3 HK2.out) I hI0 hI2
     obtain rfl:=Option.some.inj e_
     have pj:=eq_true hJ0
     have qj:=eq_true hJ1
     obtain ⟨pm,qm⟩:=HMM.out _ (rd_mem X.f0 J hJ0 hJ1)
     have qm' : rd X.f0 J < ((mateAt nd (rd X.f0 I) (rd X.f1 I)).length : Int):=by rw [mateAt,List.length_set,HL.out];exact qm
     have pmb:=eq_true pm
     have qmb:=eq_true qm
     obtain ⟨A0n,c0n,A1n,c1n,nx0,nx1,nx2,nx3,nx4,nx5,nx6,nf2,nf3,nf5,nf6,-⟩:=HS2.out.node_at (rd X.f0 J) pm qm'
     have HS3:=qy.mk (HS2.out.sn (rd X.f0 J) pm qm' 3 (.int .i64 (rd X.f1 I)) { rd_T60 (mateAt nd (rd X.f0 I) (rd X.f1 I)) (rd X.f0 J) with f3:=rd X.f1 I } (by decide) (fun _ _=>rfl) ⟨rfl,rfl⟩)
     have HK3:=qy.mk (HK2.out.set_ ((rd X.f0 J).toNat * 7 + 3) (.int .i64 (rd X.f1 I)))
     go_wp2_with fail
     refine start_ (n:=17) (S:=fun w'=>w'.cell? ⟨g,3,none⟩ = some (.slice (some ⟨bn,0,none⟩) s.nd.length cn) ∧ w'.cell? ⟨gb,0,none⟩ = some (.slice (some a0) X.f0.length c0) ∧ w'.cell? ⟨gb,1,none⟩ = some (.slice (some a1) X.f1.length c1) ∧ w'.cell? (a0.add J.toNat) = some (.int .i64 (rd X.f0 J)) ∧ w'.cell? (a1.add I.toNat) = some (.int .i64 (rd X.f1 I))) (ds:=[16]) (Array.replicate 17 false) (by kernel_rfl) rfl rfl ⟨hc.2.2.2.1,hb0,hb1,hmJ,hlI⟩ (fun hHeld=>?_)
     refine pa_ 0 109 (bz_ 17 1) ?_
     refine pa_ 1 110 (bz_ 17 3) ?_
     refine pa_ 2 111 (bz_ 17 7) ?_
     refine pa_ 4 113 (bz_ 17 23) ?_
     refine pa_ 6 115 (bz_ 17 87) ?_
     refine pa_ 9 118 (bz_ 17 599) ?_
     refine pa_ 11 120 (bz_ 17 2647) ?_
     refine ta_ 3 112 (bz_ 17 2655) hHeld (hy:=Or.inl ⟨by rfl,by rintro w' ⟨s0,s1,s2,s3,s4⟩;go_simp;with_reducible rfl⟩) (h:=?_)
     refine ta_ 5 114 (bz_ 17 2687) hHeld (hy:=Or.inl ⟨by rfl,by rintro w' ⟨s0,s1,s2,s3,s4⟩;go_simp;with_reducible rfl⟩) (h:=?_)
     refine pa_ 7 116 (bz_ 17 2815) ?_
     refine ta_ 8 117 (bz_ 17 3071) hHeld (hy:=Or.inl ⟨by rfl,by rintro w' ⟨s0,s1,s2,s3,s4⟩;go_simp;with_reducible rfl⟩) (h:=?_)
     refine ta_ 10 119 (bz_ 17 4095) hHeld (hy:=Or.inl ⟨by rfl,by rintro w' ⟨s0,s1,s2,s3,s4⟩;go_simp;with_reducible rfl⟩) (h:=?_)
     refine pa_ 12 121 (bz_ 17 8191) ?_
     refine ta_ 13 122 (bz_ 17 16383) hHeld (hy:=Or.inl ⟨by rfl,by rintro w' ⟨s0,s1,s2,s3,s4⟩;go_simp;with_reducible rfl⟩) (h:=?_)
     refine pa_ 14 123 (bz_ 17 32767) ?_
     refine pa_ 15 124 (bz_ 17 65535) ?_
     refine last_ (i:=16) (N:=none) (bz_ 17 131071) rfl rfl (by kernel_rfl) (by decide) (fun K hK=>?_)
     refine skip_ (w1:=?_) (by rfl) rfl ?_ ?_
     rotate_left
     ·go_simp
      rfl
     refine hK.out _ _ ?_
     clear hK K
     refine done_ (by kernel_rfl) ?_
     clear nx0 nx1 nx2 nx3 nx4 nx5 nx6 nf2 nf3 nf5 nf6 hc
     replace HS3:=qy.mk (HS3.out.to (qh (Below.refl _ _)))
     replace HK3:=qy.mk (keep_drew HK3.out)
     generalize (W3.setCell _ _).drew = W4 at HS3 HK3 ⊢
     have hc:=HS3.out.cells
     go_wp2_with fail
     go_roundg k1
     case measure=>omega
     case rel=>exact ⟨k + 2,_,by rw [w64 (by have:=HI.out;omega) (by have:=HIL.out;have:=H0.out;omega)],⟨by have:=HI.out;omega,by have:=HIL.out;omega,by have:=HI.out;omega⟩,HT,⟨by rw [mateAt,List.length_set,mateAt,List.length_set];exact HL.out⟩,HS3,HK3⟩
    rw [if_neg c] at h
    have cl0 : decide (k < (X.f0.length : Int)) = false:=decide_eq_false c
    clear c
    obtain ⟨p,q⟩:=HN.out
    have q2 : n < (nd.length : Int):=by rw [HL.out];exact q
    obtain ⟨A0n,c0n,A1n,c1n,nx0,nx1,nx2,nx3,nx4,nx5,nx6,nf2,nf3,nf5,nf6,-⟩:=HS1.out.node_at n p q2
    have HS2:=qy.mk (HS1.out.sn n p q2 6 (.bool true) { rd_T60 nd n with f6:=true } (by decide) (fun _ _=>rfl) ⟨rfl,rfl⟩)
    go_wp2_with fail
    go_end0
    exact ⟨rfl,by rw [← h];exact HS2.out⟩
end Go.Proofs.Ytnffimpoekjkpaa.QFnExactRounds
