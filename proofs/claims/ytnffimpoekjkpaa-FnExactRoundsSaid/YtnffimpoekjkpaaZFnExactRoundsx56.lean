/- The reference's solver: l10Open. -/
import Derived.Test.YtnffimpoekjkpaaZFnExactRoundsx55
namespace Go.Proofs.Ytnffimpoekjkpaa.QFnExactRounds
open Go.RowKit Go.Proofs.YtnffimpoekjkpaaW.PrintWords Go.Proofs.YtnffimpoekjkpaaW.PrintLast Go.Proofs.YtnffimpoekjkpaaW.PrintMore
attribute [local go_sem] max2_int min2_int max_two min_two max_three min_three max_four min_four
set_option linter.unusedVariables false
set_option linter.unusedSimpArgs false
/-- A ring that is opened: its node as read, and its two rows. -/
structure Ox (w0 W : World) (Z : Nat → Prop) (wz : World) (g : Nat) (N : Int) (Ae : Option Addr) (ce : Nat) (es : List (S51)) (col : Nat → Nat) (vy : Value) (bn nn cn : Nat) (vm : Value) (s : RI) (gb : Nat) (v0 v1 : Value) (X : S55) : Prop where
 S : Rn w0 W Z wz g N Ae ce es col vy (.slice (some ⟨bn,0,none⟩) nn cn) vm s
 bx : W.heap[gb]? = some (.cells #[v0,v1,.int .i64 X.f2,.int .i64 X.f3,.int .i64 X.f4,.bool X.f5] 55 (0,0))
 ne : gb ≠ bn
 r0 : Kd.R (Kd.int .i64) 3 W w0.heap.size (fun k=>col k = 2 ∧ k ≠ bn) v0 X.f0
 r1 : Kd.R k77 77 W w0.heap.size (fun k=>col k = 2 ∧ k ≠ bn) v1 X.f1
section
variable {w0 W W1 : World} {Z : Nat → Prop} {wz : World} {g : Nat} {N : Int} {Ae : Option Addr} {ce : Nat} {es : List (S51)} {col : Nat → Nat} {vy : Value} {bn nn cn : Nat} {vm : Value} {s : RI} {gb : Nat} {v0 v1 : Value} {X : S55}
theorem Ox.to (h : Ox w0 W Z wz g N Ae ce es col vy bn nn cn vm s gb v0 v1 X) (hb : Below W.heap.size W W1:=by repeat (first|exact Below.refl _ _|apply qo|apply qd|apply qh)) : Ox w0 W1 Z wz g N Ae ce es col vy bn nn cn vm s gb v0 v1 X :=
 ⟨h.S.to hb,qw h.bx hb,h.ne,Kd.R_below h.r0 hb,Kd.R_below h.r1 hb⟩
theorem Ox.cells (h : Ox w0 W Z wz g N Ae ce es col vy bn nn cn vm s gb v0 v1 X) : W.cell? ⟨gb,0,none⟩ = some v0 ∧ W.cell? ⟨gb,1,none⟩ = some v1:=⟨(qq h.bx 0).trans rfl,(qq h.bx 1).trans rfl⟩
/-- A node's field stored. -/
theorem Ox.sn (h : Ox w0 W Z wz g N Ae ce es col vy bn nn cn vm s gb v0 v1 X) {u : Value} {o : Nat} {s' : RI} (hS : Rn w0 (W.setCell ⟨bn,o,none⟩ u) Z wz g N Ae ce es col vy (.slice (some ⟨bn,0,none⟩) nn cn) vm s') : Ox w0 (W.setCell ⟨bn,o,none⟩ u) Z wz g N Ae ce es col vy bn nn cn vm s' gb v0 v1 X :=
 ⟨hS,(Below.heap_setCell W ⟨bn,o,none⟩ u gb h.ne).trans h.bx,h.ne,Kd.R_far (p:=⟨bn,o,none⟩) h.r0 (fun k hk=>hk.2) u,Kd.R_far (p:=⟨bn,o,none⟩) h.r1 (fun k hk=>hk.2) u⟩
theorem Ox.recol {col' : Nat → Nat} (h : Ox w0 W Z wz g N Ae ce es col vy bn nn cn vm s gb v0 v1 X) (hc : ∀ k,k < W.heap.size → col' k = col k) : Ox w0 W Z wz g N Ae ce es col' vy bn nn cn vm s gb v0 v1 X :=
 ⟨h.S.recol hc,h.bx,h.ne,Kd.R_mono (Kd.R_bound h.r0) (by rintro k ⟨h1,_,h2,_⟩;rw [hc k h2];exact h1),Kd.R_mono (Kd.R_bound h.r1) (by rintro k ⟨h1,_,h2,_⟩;rw [hc k h2];exact h1)⟩
/-- A mate appended and stored. -/
theorem Ox.app_m {w1 : World} {v : Value} {ys : List S77} (h : Ox w0 W Z wz g N Ae ce es col vy bn nn cn vm s gb v0 v1 X) (ho : Kd.R k77 77 w1 w0.heap.size (fun k=>col k = 3) v ys) (hb : Below w0.heap.size w0 w1) (hg : W.grownBy w1 vm.ownBlock) :
  Ox w0 (w1.setCell ⟨g,4,none⟩ v) Z wz g N Ae ce es col vy bn nn cn v { s with mt:=ys } gb v0 v1 X ∧ w1.cell? ⟨g,4,none⟩ = some vm ∧ w1.frozen? ⟨g,4,none⟩ = false:=by
 obtain ⟨hS,hx,hf⟩:=h.S.app_m ho hb hg
 have bg:=blk_grown h.S.blk hg (Kd.R_ne h.S.rm h.S.blk (by decide))
 have b1:=blk_grown h.bx hg (Kd.R_ne h.S.rm h.bx (by decide))
 have hne : ∀ k,col k = 2 ∧ k ≠ bn → some k ≠ vm.ownBlock:=fun k hk e=>by have:=h.S.rm.1 k e.symm;have:=hk.1;omega
 exact ⟨⟨hS,far_blk b1 bg (by decide),h.ne,Kd.R_set (Kd.R_grown h.r0 hg hne) bg t39_3 _ _,Kd.R_set (Kd.R_grown h.r1 hg hne) bg t39_77 _ _⟩,hx,hf⟩
/-- A node's rows as they lie. -/
theorem Rn.rows (h : Rn w0 W Z wz g N Ae ce es col vy (.slice (some ⟨bn,0,none⟩) nn cn) vm s) (i : Int) (h0 : 0 ≤ i) (h1 : i < (s.nd.length : Int)) :
  ∃ v0 v1,W.cell? ⟨bn,i.toNat * 6,none⟩ = some v0 ∧ W.cell? ⟨bn,i.toNat * 6 + 1,none⟩ = some v1 ∧ W.cell? ⟨bn,i.toNat * 6 + 2,none⟩ = some (.int .i64 (rd_T55 s.nd i).f2) ∧ W.cell? ⟨bn,i.toNat * 6 + 3,none⟩ = some (.int .i64 (rd_T55 s.nd i).f3) ∧ W.cell? ⟨bn,i.toNat * 6 + 4,none⟩ = some (.int .i64 (rd_T55 s.nd i).f4) ∧ W.cell? ⟨bn,i.toNat * 6 + 5,none⟩ = some (.bool (rd_T55 s.nd i).f5) ∧
   W.frozen? ⟨bn,i.toNat * 6 + 3,none⟩ = false ∧ W.frozen? ⟨bn,i.toNat * 6 + 4,none⟩ = false ∧ W.frozen? ⟨bn,i.toNat * 6 + 5,none⟩ = false ∧
   Kd.R (Kd.int .i64) 3 W w0.heap.size (fun k=>col k = 2 ∧ k ≠ bn) v0 (rd_T55 s.nd i).f0 ∧ Kd.R k77 77 W w0.heap.size (fun k=>col k = 2 ∧ k ≠ bn) v1 (rd_T55 s.nd i).f1:=by
 have hn:=(Kd.R_reads' h.rn).1
 obtain ⟨cl,hcl,hM,hcc,hfr⟩:=Kd.R_elem h.rn z55 i h0 (by omega)
 obtain ⟨v0,v1,e,g0,g1⟩:=k55_openM hM
 have hcc' : ∀ j u,cl[j]? = some u → W.cell? ⟨bn,i.toNat * 6 + j,none⟩ = some u:=hcc
 rw [e] at hcc'
 exact ⟨v0,v1,hcc' 0 _ rfl,hcc' 1 _ rfl,hcc' 2 _ rfl,hcc' 3 _ rfl,hcc' 4 _ rfl,hcc' 5 _ rfl,hfr 3,hfr 4,hfr 5,g0,g1⟩
end
def upAt (nd : List S55) (m u : Int) : List S55:=nd.set m.toNat { rd_T55 nd m with f4:=u }
def goneAt (nd : List S55) (n : Int) : List S55:=nd.set n.toNat { rd_T55 nd n with f5:=true }
def upsF (u : Int) : List Int → List S55 → List S55
 | [],nd=>nd
 | m :: l,nd=>upsF u l (upAt nd m u)
def linkF (lk : List S77) (a size : Int) : Nat → Int → List S77 → List S77
 | 0,_,mt=>mt
 | f + 1,k,mt=>if k < size then linkF lk a size f (k + 2) (mt ++ [rd_T77 lk ((a + k) % size)]) else mt
def atS (s : RI) (n : Int) : Int:=atF (cvs s.nd) (baseS s.nd s.mt n) (rd_T55 s.nd n).f0 0 0
def openS (s : RI) (n : Int) : RI :=
 { s with nd:=goneAt (upsF (-1) (rd_T55 s.nd n).f0 s.nd) n,mt:=linkF (rd_T55 s.nd n).f1 (atS s n) (rd_T55 s.nd n).f0.length ((rd_T55 s.nd n).f0.length + 1) 1 s.mt }
set_option maxHeartbeats 8000000 in
set_option maxRecDepth 100000 in
theorem l10Open_calls {w0 W : World} {Z : Nat → Prop} {wz : World} {g : Nat} {N : Int} {Ae : Option Addr} {ce : Nat} {es : List (S51)} {col : Nat → Nat} {vy vn vm : Value} {s : RI} (hS : Rn w0 W Z wz g N Ae ce es col vy vn vm s) (hw : WFn (cvs s.nd)) (hm : ∀ x ∈ s.mt,inR x.f0 s.nd.length ∧ inR x.f1 s.nd.length) (hsz : s.mt.length ≤ 1000000) (n : Int) (hn : inR n s.nd.length)
  (hb : baseS s.nd s.mt n = -1 ∨ inR (baseS s.nd s.mt n) s.nd.length) (hmem : ∀ m ∈ (rd_T55 s.nd n).f0,inR m s.nd.length) (h0 : 0 < (rd_T55 s.nd n).f0.length) (hlk : (rd_T55 s.nd n).f0.length ≤ (rd_T55 s.nd n).f1.length) (hszf : (rd_T55 s.nd n).f0.length ≤ 1000000) :
  Calls Try.prog 44 #[.pointer (some ⟨g,0,none⟩),.int .i64 n] W fun e w'=>e = .returned (.tuple #[]) ∧ ∃ col' vm',Rn w0 w' Z wz g N Ae ce es col' vy vn vm' (openS s n) ∧ ∀ k,k < W.heap.size → col' k = col k:=by
 have hu39:=Try.underlying39
 have hu55:=Try.underlying55
 have hu77:=Try.underlying77
 have hu51:=Try.underlying51
 have hu29:=Try.underlying29
 have HS:=qy.mk hS
 clear hS
 have hu35:=Try.underlying35
 have hu36:=Try.underlying36
 have hu37:=Try.underlying37
 obtain ⟨bn,cn,e_,-⟩:=row_at HS.out.rn (by have:=hn.1;have:=hn.2;omega)
 subst e_
 rw [openS,atS]
 obtain ⟨X,hX⟩ : ∃ X,rd_T55 s.nd n = X:=⟨_,rfl⟩
 obtain ⟨v,hvv⟩ : ∃ v,baseS s.nd s.mt n = v:=⟨_,rfl⟩
 have HBS:=qy.mk (l10Base_calls HS.out n hw hm hsz hn)
 rw [hvv] at HBS hb ⊢
 rw [hX] at hmem h0 hlk hszf ⊢
 obtain ⟨ia,hia⟩ : ∃ ia,atF (cvs s.nd) v X.f0 0 0 = ia:=⟨_,rfl⟩
 rw [hia]
 have HIA:=qy.mk hia
 clear hia
 have HW:=qy.mk hw
 have HM:=qy.mk hm
 have HSZ:=qy.mk hsz
 have HV:=qy.mk hb
 have HMM:=qy.mk hmem
 have H0:=qy.mk (And.intro h0 (And.intro hlk hszf))
 have HN:=qy.mk hn
 clear hw hm hsz hb hmem h0 hlk hszf hvv
 obtain ⟨p,q⟩:=hn
 go_enter Try.func44,Try.ntmps44
 go_upto_region 1 with (first|(go_at_call 48;refine HBS.out.mono ?_;rintro e_ w2 ⟨rfl,hb⟩;have HB2:=qy.mk hb;clear hb))
 have HS2:=qy.mk (HS.out.to HB2.out)
 have hc:=HS2.out.cells
 obtain ⟨v0,v1,nx0,nx1,nx2,nx3,nx4,nx5,nf3,nf4,nf5,g0,g1⟩:=HS2.out.rows n p q
 rw [hX] at nx2 nx3 nx4 nx5 g0 g1
 obtain ⟨A0,c0,e_⟩:=Kd.R_slice g0
 subst e_
 obtain ⟨A1,c1,e_⟩:=Kd.R_slice g1
 subst e_
 have p':=eq_true p
 have q':=eq_true q
 go_upto_region 2 with fail
 have BXX : qy ((w2.alloc (.cells #[.slice A0 X.f0.length c0,.slice A1 X.f1.length c1,.int .i64 X.f2,.int .i64 X.f3,.int .i64 X.f4,.bool X.f5] 55)).heap[w2.heap.size]? = some (.cells #[.slice A0 X.f0.length c0,.slice A1 X.f1.length c1,.int .i64 X.f2,.int .i64 X.f3,.int .i64 X.f4,.bool X.f5] 55 (0,0))):=⟨blk_new w2 _⟩
 have HBX : qy (Below w2.heap.size w2 (w2.alloc (.cells #[.slice A0 X.f0.length c0,.slice A1 X.f1.length c1,.int .i64 X.f2,.int .i64 X.f3,.int .i64 X.f4,.bool X.f5] 55))):=⟨qo (Below.refl _ _) _⟩
 generalize w2.alloc (.cells #[.slice A0 X.f0.length c0,.slice A1 X.f1.length c1,.int .i64 X.f2,.int .i64 X.f3,.int .i64 X.f4,.bool X.f5] 55) = W3 at *
 have HOX : qy (Ox w0 W3 Z wz g N Ae ce es col vy bn s.nd.length cn vm s w2.heap.size (.slice A0 X.f0.length c0) (.slice A1 X.f1.length c1) X):=by
  obtain ⟨ds,hd⟩:=row_blk HS2.out.rn
  have:=blk_lt hd
  exact ⟨⟨HS2.out.to HBX.out,BXX.out,by omega,Kd.R_below g0 HBX.out,Kd.R_below g1 HBX.out⟩⟩
 have HSZ0 : qy (W.heap.size ≤ W3.heap.size):=⟨(qx HB2.out HBX.out).size⟩
 generalize w2.heap.size = gb at HOX ⊢
 clear nx0 nx1 nx2 nx3 nx4 nx5 nf3 nf4 nf5 g0 g1 hc BXX HBX HB2 HS2 HBS HS
 have hc:=HOX.out.S.cells
 have hcx:=HOX.out.cells
 go_wp2_with fail
 go_loopg [7,8] (X.f0.length + 1) (fun kq v7 v8 w'=>∃ i a : Int,v7 = .int .i64 a ∧ v8 = .int .i64 i ∧ qy (0 ≤ i ∧ i + kq = X.f0.length + 1 ∧ i ≤ X.f0.length ∧ 0 ≤ a ∧ a < X.f0.length) ∧ qy (atF (cvs s.nd) v (X.f0.drop i.toNat) i a = ia) ∧ W3 = w')
 case atStart=>exact ⟨0,0,rfl,rfl,⟨by omega,by omega,by omega,by omega,by have:=H0.out.1;omega⟩,HIA,rfl⟩
 obtain ⟨i,a,rfl,rfl,HI,HT,rfl⟩:=hrel
 cases gk with
 | zero =>
  exfalso
  have h1:=HI.out
  omega
 | succ k1 =>
  have h:=HT.out
  clear HT
  by_cases c : i < (X.f0.length : Int)
  ·have hi:=HI.out
   rw [drop_rd _ _ hi.1 c,atF] at h
   have cl0 : decide (i < (X.f0.length : Int)) = true:=decide_eq_true c
   have HIL:=qy.mk c
   have hi1 : wrap64 (i + 1) = i + 1:=w64 (by omega) (by have:=H0.out;omega)
   obtain ⟨a0,e_,hmi⟩:=Kd.at_int (Kd.R_reads' HOX.out.r0).2.2 i hi.1 c
   subst e_
   have pi:=eq_true hi.1
   have qi:=eq_true c
   have HMI:=qy.mk (HMM.out _ (rd_mem X.f0 i hi.1 c))
   have HQ:=qy.mk (l10Within_is HOX.out.S (rd X.f0 i) v HW.out (by have:=HMI.out.1;omega) HV.out)
   clear c hi
   cases b : hasI (cvs s.nd) (rd X.f0 i) v with
   | true =>
    rw [b,if_pos rfl] at h
    rw [b] at HQ
    have HT:=qy.mk h
    clear h b
    go_wp2_with (first|(go_at_call 58;refine HQ.out.mono ?_;rintro e w2 ⟨rfl,h2⟩;replace h2:=h2.symm;subst h2))
    go_roundg k1
    case measure=>omega
    case rel=>exact ⟨i + 1,i,rfl,by rw [hi1],⟨by have:=HI.out;omega,by have:=HI.out;omega,by have:=HIL.out;omega,by have:=HI.out;omega,by have:=HIL.out;omega⟩,HT,rfl⟩
   | false =>
    rw [b,if_neg (by decide)] at h
    rw [b] at HQ
    have HT:=qy.mk h
    clear h b
    go_wp2_with (first|(go_at_call 58;refine HQ.out.mono ?_;rintro e w2 ⟨rfl,h2⟩;replace h2:=h2.symm;subst h2))
    go_roundg k1
    case measure=>omega
    case rel=>exact ⟨i + 1,a,rfl,by rw [hi1],⟨by have:=HI.out;omega,by have:=HI.out;omega,by have:=HIL.out;omega,by have:=HI.out;omega,by have:=HI.out;omega⟩,HT,rfl⟩
  have hi:=HI.out
  rw [List.drop_eq_nil_of_le (by omega),atF] at h
  subst h
  have cl0 : decide (i < (X.f0.length : Int)) = false:=decide_eq_false c
  clear c hi
  go_wp2_with fail
  have HA : qy (0 ≤ a ∧ a < (X.f0.length : Int)):=⟨by have:=HI.out;omega⟩
  clear HI HIA
  go_loopg [9] (X.f0.length + 1) (fun kq v9 w'=>∃ (i : Int) (nd : List (S55)),v9 = .int .i64 i ∧ qy (0 ≤ i ∧ i + kq = X.f0.length + 1 ∧ i ≤ X.f0.length) ∧ qy (upsF (-1) (X.f0.drop i.toNat) nd = upsF (-1) X.f0 s.nd) ∧ qy (nd.length = s.nd.length) ∧ qy (Ox w0 w' Z wz g N Ae ce es col vy bn s.nd.length cn vm { s with nd:=nd } gb (.slice A0 X.f0.length c0) (.slice A1 X.f1.length c1) X) ∧ qy (W3.heap.size ≤ w'.heap.size))
  case atStart=>exact ⟨0,s.nd,rfl,⟨by omega,by omega,by omega⟩,⟨rfl⟩,⟨rfl⟩,HOX,⟨Nat.le_refl _⟩⟩
  clear hc hcx HOX
  obtain ⟨i,nd,rfl,HI,HT,HL,HOX,HSZ1⟩:=hrel
  have h:=HT.out
  clear HT
  have hc:=HOX.out.S.cells
  have hcx:=HOX.out.cells
  cases gk with
  | zero =>
   exfalso
   have h1:=HI.out
   omega
  | succ k1 =>
   by_cases c : i < (X.f0.length : Int)
   ·have hi:=HI.out
    rw [drop_rd _ _ hi.1 c,upsF] at h
    have HT:=qy.mk h
    have cl0 : decide (i < (X.f0.length : Int)) = true:=decide_eq_true c
    have HIL:=qy.mk c
    obtain ⟨a0,e_,hmi⟩:=Kd.at_int (Kd.R_reads' HOX.out.r0).2.2 i hi.1 c
    subst e_
    have pi:=eq_true hi.1
    have qi:=eq_true c
    obtain ⟨pm,qm⟩:=HMM.out _ (rd_mem X.f0 i hi.1 c)
    have qm' : rd X.f0 i < (nd.length : Int):=by rw [HL.out];exact qm
    clear c hi h
    obtain ⟨u0,u1,nx0,nx1,nx2,nx3,nx4,nx5,nf3,nf4,nf5,-,-⟩:=HOX.out.S.rows (rd X.f0 i) pm qm'
    have HO2:=qy.mk (HOX.out.sn (HOX.out.S.sn (rd X.f0 i) pm qm' 4 (.int .i64 (-1)) { rd_T55 nd (rd X.f0 i) with f4:=-1 } (by decide) (fun _ _=>rfl) ⟨rfl,rfl⟩))
    have pmb:=eq_true pm
    have qmb:=eq_true qm
    go_wp2_with fail
    refine start_ (n:=12) (S:=fun w'=>w'.cell? ⟨g,3,none⟩ = some (.slice (some ⟨bn,0,none⟩) s.nd.length cn) ∧ w'.cell? ⟨gb,0,none⟩ = some (.slice (some a0) X.f0.length c0) ∧ w'.cell? (a0.add i.toNat) = some (.int .i64 (rd X.f0 i))) (ds:=[11]) (Array.replicate 12 false) (by kernel_rfl) rfl rfl ⟨hc.2.2.2.1,hcx.1,hmi⟩ (fun hHeld=>?_)
    refine pa_ 0 43 (bz_ 12 1) ?_
    refine pa_ 1 44 (bz_ 12 3) ?_
    refine pa_ 2 45 (bz_ 12 7) ?_
    refine pa_ 4 47 (bz_ 12 23) ?_
    refine pa_ 6 49 (bz_ 12 87) ?_
    refine ta_ 3 46 (bz_ 12 95) hHeld (hy:=Or.inl ⟨by rfl,by rintro w' ⟨s0,s1,s2⟩;go_simp;with_reducible rfl⟩) (h:=?_)
    refine ta_ 5 48 (bz_ 12 127) hHeld (hy:=Or.inl ⟨by rfl,by rintro w' ⟨s0,s1,s2⟩;go_simp;with_reducible rfl⟩) (h:=?_)
    refine pa_ 7 50 (bz_ 12 255) ?_
    refine ta_ 8 51 (bz_ 12 511) hHeld (hy:=Or.inl ⟨by rfl,by rintro w' ⟨s0,s1,s2⟩;go_simp;with_reducible rfl⟩) (h:=?_)
    refine pa_ 9 52 (bz_ 12 1023) ?_
    refine pa_ 10 53 (bz_ 12 2047) ?_
    refine last_ (i:=11) (N:=none) (bz_ 12 4095) rfl rfl (by kernel_rfl) (by decide) (fun K hK=>?_)
    refine skip_ (w1:=?_) (by rfl) rfl ?_ ?_
    rotate_left
    ·go_simp
     rfl
    refine hK.out _ _ ?_
    clear hK K
    refine done_ (by kernel_rfl) ?_
    clear nx0 nx1 nx2 nx3 nx4 nx5 nf3 nf4 nf5 hc hcx hmi HOX
    have HSZ2 : qy (W3.heap.size ≤ ((wr.setCell ⟨bn,(rd X.f0 i).toNat * 6 + 4,none⟩ (.int .i64 (-1))).drew).heap.size):=⟨by have:=HSZ1.out;simpa using this⟩
    replace HO2:=qy.mk (HO2.out.to (qh (Below.refl _ _)))
    generalize (wr.setCell _ _).drew = w9 at HO2 HSZ2 ⊢
    go_wp2_with fail
    go_roundg k1
    case measure=>omega
    case rel=>exact ⟨i + 1,_,by rw [w64 (by have:=HI.out;omega) (by have:=HI.out;have:=H0.out;omega)],⟨by have:=HI.out;omega,by have:=HI.out;omega,by have:=HIL.out;omega⟩,HT,⟨by rw [upAt,List.length_set];exact HL.out⟩,HO2,HSZ2⟩
   have hi:=HI.out
   rw [List.drop_eq_nil_of_le (by omega),upsF] at h
   subst h
   have cl0 : decide (i < (X.f0.length : Int)) = false:=decide_eq_false c
   clear c hi HI
   obtain ⟨p,q⟩:=HN.out
   have q2 : n < ((upsF (-1) X.f0 s.nd).length : Int):=by rw [HL.out];exact q
   obtain ⟨u0,u1,nx0,nx1,nx2,nx3,nx4,nx5,nf3,nf4,nf5,-,-⟩:=HOX.out.S.rows n p q2
   have HO2:=qy.mk (HOX.out.sn (HOX.out.S.sn n p q2 5 (.bool true) { rd_T55 (upsF (-1) X.f0 s.nd) n with f5:=true } (by decide) (fun _ _=>rfl) ⟨rfl,rfl⟩))
   go_upto_region 14 with fail
   clear nx0 nx1 nx2 nx3 nx4 nx5 nf3 nf4 nf5 hc hcx HOX
   have HSZ2 : qy (W.heap.size ≤ (wr.setCell ⟨bn,n.toNat * 6 + 5,none⟩ (.bool true)).heap.size):=⟨by have:=HSZ1.out;have:=HSZ0.out;simp;omega⟩
   generalize wr.setCell _ _ = w9 at HO2 HSZ2 ⊢
   go_wp2_with fail
   go_loopg [10] (X.f0.length + 1) (fun kq v10 w'=>∃ (k : Int) (mt : List S77) (Am : Option Addr) (cm : Nat) (col' : Nat → Nat),v10 = .int .i64 k ∧ qy (1 ≤ k ∧ k ≤ X.f0.length + 1 ∧ X.f0.length + 2 ≤ k + kq) ∧ qy (linkF X.f1 a X.f0.length kq k mt = linkF X.f1 a X.f0.length (X.f0.length + 1) 1 s.mt) ∧ qy ((mt.length : Int) ≤ s.mt.length + k) ∧ qy (Ox w0 w' Z wz g N Ae ce es col' vy bn s.nd.length cn (.slice Am mt.length cm) { s with nd:=goneAt (upsF (-1) X.f0 s.nd) n,mt:=mt } gb (.slice A0 X.f0.length c0) (.slice A1 X.f1.length c1) X) ∧ qy (∀ q,q < W.heap.size → col' q = col q) ∧ qy (W.heap.size ≤ w'.heap.size))
   case atStart =>
    obtain ⟨Am,cm,e_⟩:=Kd.R_slice HO2.out.S.rm
    subst e_
    exact ⟨1,s.mt,Am,cm,col,rfl,⟨by omega,by have:=H0.out.1;omega,by omega⟩,⟨rfl⟩,⟨by omega⟩,HO2,⟨fun _ _=>rfl⟩,HSZ2⟩
   clear HO2 HSZ2 HL HSZ1
   obtain ⟨k,mt,Am,cm,col2,rfl,HI,HT,HL,HO,HCL,HSZ2⟩:=hrel
   have h:=HT.out
   clear HT
   have hc:=HO.out.S.cells
   have hcx:=HO.out.cells
   cases gk with
   | zero =>
    exfalso
    have h1:=HI.out
    omega
   | succ k1 =>
    rw [linkF] at h
    by_cases c : k < (X.f0.length : Int)
    ·rw [if_pos c] at h
     have HT:=qy.mk h
     have cl0 : decide (k < (X.f0.length : Int)) = true:=decide_eq_true c
     have HIL:=qy.mk c
     clear h c
     have hw1 : wrap64 (a + k) = a + k:=w64 (by have:=HI.out;have:=HA.out;omega) (by have:=HIL.out;have:=HA.out;have:=H0.out;omega)
     have ht1 : (a + k).tmod (X.f0.length : Int) = (a + k) % (X.f0.length : Int):=Int.tmod_eq_emod_of_nonneg (by have:=HI.out;have:=HA.out;omega)
     have hz0 : ((X.f0.length : Int) == 0) = false:=by have:=H0.out.1;rw [beq_eq_false_iff_ne];omega
     have hz1 : (X.f0.length : Int) ≠ 0:=by have:=H0.out;omega
     have hz3 : (X.f0 = []) = False:=eq_false (by rintro e;have:=H0.out.1;rw [e] at this;simp at this)
     have hI0 : 0 ≤ (a + k) % (X.f0.length : Int):=Int.emod_nonneg _ hz1
     have hI1 : (a + k) % (X.f0.length : Int) < (X.f0.length : Int):=Int.emod_lt_of_pos _ (by have:=H0.out.1;omega)
     have hI2 : (a + k) % (X.f0.length : Int) < (X.f1.length : Int):=by have:=H0.out;omega
     obtain ⟨a1,e_,hl0,hl1⟩:=at_T77 (Kd.R_reads' HO.out.r1).2.2 _ hI0 hI2
     subst e_
     have pI:=eq_true hI0
     have qI:=eq_true hI2
     have hck : ∀ q,q < wr.heap.size → (if wr.heap.size ≤ q then 3 else col2 q) = col2 q:=fun q hq=>by rw [if_neg (by omega)]
     have HOd:=qy.mk ((HO.out.recol hck).to (qh (Below.refl _ _)))
     go_wp2_with fail
     refine start_ (n:=19) (S:=fun w'=>w'.cell? ⟨g,4,none⟩ = some (.slice Am mt.length cm) ∧ w'.cell? ⟨gb,1,none⟩ = some (.slice (some a1) X.f1.length c1) ∧ w'.cell? (a1.add (((a + k) % (X.f0.length : Int)).toNat * 2)) = some (.int .i64 (rd_T77 X.f1 ((a + k) % (X.f0.length : Int))).f0) ∧ w'.cell? ⟨(a1.add (((a + k) % (X.f0.length : Int)).toNat * 2)).block,(a1.add (((a + k) % (X.f0.length : Int)).toNat * 2)).off + 1,none⟩ = some (.int .i64 (rd_T77 X.f1 ((a + k) % (X.f0.length : Int))).f1)) (ds:=[15,18]) (Array.replicate 19 false) (by kernel_rfl) rfl rfl ⟨hc.2.2.2.2.1,hcx.2,hl0,hl1⟩ (fun hHeld=>?_)
     refine pa_ 0 66 (bz_ 19 1) ?_
     refine pa_ 1 67 (bz_ 19 3) ?_
     refine pa_ 2 68 (bz_ 19 7) ?_
     refine pa_ 3 69 (bz_ 19 15) ?_
     refine pa_ 5 71 (bz_ 19 47) ?_
     refine pa_ 7 73 (bz_ 19 175) ?_
     refine pa_ 8 74 (bz_ 19 431) ?_
     refine pa_ 9 75 (bz_ 19 943) ?_
     refine pa_ 10 76 (bz_ 19 1967) ?_
     refine pa_ 11 77 (bz_ 19 4015) ?_
     refine ta_ 4 70 (bz_ 19 4031) hHeld (hy:=Or.inl ⟨by rfl,by rintro w' ⟨s0,s1,s2,s3⟩;go_simp;with_reducible rfl⟩) (h:=?_)
     refine ta_ 6 72 (bz_ 19 4095) hHeld (hy:=Or.inl ⟨by rfl,by rintro w' ⟨s0,s1,s2,s3⟩;go_simp;with_reducible rfl⟩) (h:=?_)
     refine pa_ 12 78 (bz_ 19 8191) ?_
     refine ta_ 13 79 (bz_ 19 16383) hHeld (hy:=Or.inl ⟨by rfl,by rintro w' ⟨s0,s1,s2,s3⟩;go_simp;with_reducible rfl⟩) (h:=?_)
     refine one_ (i:=14) (N:=some 80) (bz_ 19 32767) rfl rfl (by kernel_rfl) (by decide) (fun K hK=>?_)
     refine value_ (w1:=?_) (v:=?_) (by rfl) rfl ?_ ?_
     rotate_left 2
     ·go_simp
      constructor
      ·rfl
      rfl
     refine hK.out _ _ ⟨pw_cell_below (qo (Below.refl _ _) _) hHeld.1,pw_cell_below (qo (Below.refl _ _) _) hHeld.2.1,pw_cell_below (qo (Below.refl _ _) _) hHeld.2.2.1,pw_cell_below (qo (Below.refl _ _) _) hHeld.2.2.2⟩ (fun hHeld=>?_)
     clear hK K
     refine norm_ (a':=?_) ?_ ?_
     rotate_left
     ·show Act.put _ (some 80) _ = _
      simp only [Act.put,List.setIfInBounds_toArray,List.set_cons_zero,List.set_cons_succ,i64_w,i32_w]
      rfl
     refine last_ (i:=15) (N:=some 81) (bz_ 19 65535) rfl rfl (by kernel_rfl) (by decide) (fun K hK=>?_)
     refine Kd.R_append_step k77 (w0:=w0) (W:=wr.drew) w0.heap.size (by rfl) (.tmp 70) (.tmp 80) 37 77 (.agg #[.int .i64 0,.int .i64 0]) 16 rfl Try.underlying37 info77 rfl (by decide) (by omega) (.slice Am mt.length cm) mt (rd_T77 X.f1 ((a + k) % (X.f0.length : Int))) [.int .i64 (rd_T77 X.f1 ((a + k) % (X.f0.length : Int))).f0,.int .i64 (rd_T77 X.f1 ((a + k) % (X.f0.length : Int))).f1] (fun q=>(if wr.heap.size ≤ q then 3 else col2 q) = 3) (fun _=>False) (by rfl) (by rfl) (k77_mkM _ _ _ (rd_T77 X.f1 ((a + k) % (X.f0.length : Int)))) (fun _ hk=>hk.elim) (fun q hq=>if_pos hq) HOd.out.S.rm HOd.out.S.hb HOd.out.S.hb.size (by have:=HL.out;have:=HSZ.out;have:=HIL.out;have:=H0.out;omega) ?_
     intro v7 w7 ho hb hg hat
     obtain ⟨A7,c7,e_⟩:=Kd.R_slice ho
     rw [List.length_append,List.length_singleton] at e_
     subst e_
     obtain ⟨hO3,hx3,hf3⟩:=Ox.app_m HOd.out ho hb hg
     have HO3:=qy.mk hO3
     have HSZ3 : qy (W.heap.size ≤ w7.heap.size):=⟨Nat.le_trans HSZ2.out hg.size⟩
     clear hO3 ho hb hg hat
     refine hK.out _ _ ?_
     clear hK K
     refine norm_ (a':=?_) ?_ ?_
     rotate_left
     ·show Act.put _ (some 81) _ = _
      simp only [Act.put,List.setIfInBounds_toArray,List.set_cons_zero,List.set_cons_succ,i64_w,i32_w]
      rfl
     refine pa_ 16 82 (bz_ 19 131071) ?_
     refine pa_ 17 83 (bz_ 19 262143) ?_
     refine last_ (i:=18) (N:=none) (bz_ 19 524287) rfl rfl (by kernel_rfl) (by decide) (fun K hK=>?_)
     refine skip_ (w1:=?_) (by rfl) rfl ?_ ?_
     rotate_left
     ·go_simp
      rfl
     refine hK.out _ _ ?_
     clear hK K
     refine done_ (by kernel_rfl) ?_
     clear hx3 hf3 HOd hc hcx hz3
     have HSZ4 : qy (W.heap.size ≤ (w7.setCell ⟨g,4,none⟩ (.slice A7 (mt.length + 1) c7)).heap.size):=⟨by have:=HSZ3.out;simpa using this⟩
     generalize w7.setCell _ _ = w8 at HO3 HSZ4 ⊢
     go_wp2_with fail
     go_roundg k1
     case measure=>omega
     case rel=>exact ⟨k + 2,_,A7,c7,_,by rw [w64 (by have:=HI.out;omega) (by have:=HIL.out;have:=H0.out;omega)],⟨by have:=HI.out;omega,by have:=HIL.out;omega,by have:=HI.out;omega⟩,HT,⟨by rw [List.length_append,List.length_singleton];have:=HL.out;omega⟩,by rw [List.length_append,List.length_singleton];exact HO3,⟨fun q hq=>by have h1:=HCL.out q hq;have:=HSZ2.out;rw [if_neg (by omega)];exact h1⟩,HSZ4⟩
    rw [if_neg c] at h
    have cl0 : decide (k < (X.f0.length : Int)) = false:=decide_eq_false c
    clear c
    go_wp2_with fail
    go_end0
    first|exact ⟨rfl,col2,⟨.slice Am mt.length cm,by rw [← h];exact HO.out.S⟩,HCL.out⟩|exact ⟨rfl,col2,.slice Am mt.length cm,by rw [← h];exact HO.out.S,HCL.out⟩
end Go.Proofs.Ytnffimpoekjkpaa.QFnExactRounds
