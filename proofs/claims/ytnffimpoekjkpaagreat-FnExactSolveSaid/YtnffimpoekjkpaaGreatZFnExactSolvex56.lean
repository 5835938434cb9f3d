import Derived.Test.YtnffimpoekjkpaaGreatZFnExactSolvex51g
set_option linter.all false
namespace Go.Proofs.YtnffimpoekjkpaaGreat.QFnExactSolve
open Go.RowKit Go.Proofs.YtnffimpoekjkpaaGreatW.PrintWords Go.Proofs.YtnffimpoekjkpaaGreatW.PrintLast Go.Proofs.YtnffimpoekjkpaaGreatW.PrintMore
set_option maxHeartbeats 8000000
set_option maxRecDepth 100000
attribute [local go_sem] Od' Pd' Xd' Yd' Jd' Kd' Qd' Rd'
structure Ox (w0 W : World) (Z : Nat → Prop) (wz : World) (g : Nat) (N : Int) (Ae : Option Addr) (ce : Nat) (es : List (S73)) (col : Nat → Nat) (vy : Value) (bn nn cn : Nat) (vm : Value) (s : RI) (gb : Nat) (v0 v1 : Value) (X : S77) : Prop where
 S : Rn w0 W Z wz g N Ae ce es col vy (.slice (some ⟨bn,0,none⟩) nn cn) vm s
 bx : W.heap[gb]? = some (.cells #[v0,v1,.int .i64 X.f2,.int .i64 X.f3,.int .i64 X.f4,.bool X.f5] 77 (0,0))
 ne : gb ≠ bn
 r0 : Kd.R (Kd.int .i64) 3 W w0.heap.size (fun k=>col k = 2 ∧ k ≠ bn) v0 X.f0
 r1 : Kd.R k56 56 W w0.heap.size (fun k=>col k = 2 ∧ k ≠ bn) v1 X.f1
section
variable {w0 W W1 : World} {Z : Nat → Prop} {wz : World} {g : Nat} {N : Int} {Ae : Option Addr} {ce : Nat} {es : List (S73)} {col : Nat → Nat} {vy : Value} {bn nn cn : Nat} {vm : Value} {s : RI} {gb : Nat} {v0 v1 : Value} {X : S77}
theorem Ox.to (h : Ox w0 W Z wz g N Ae ce es col vy bn nn cn vm s gb v0 v1 X) (hb : Below W.heap.size W W1:=by repeat (first|exact Below.refl _ _|apply qo|apply qd|apply qh)) : Ox w0 W1 Z wz g N Ae ce es col vy bn nn cn vm s gb v0 v1 X :=
 ⟨h.S.to hb,qx h.bx hb,h.ne,Kd.R_below h.r0 hb,Kd.R_below h.r1 hb⟩
theorem Ox.cells (h : Ox w0 W Z wz g N Ae ce es col vy bn nn cn vm s gb v0 v1 X) : W.cell? ⟨gb,0,none⟩ = some v0 ∧ W.cell? ⟨gb,1,none⟩ = some v1:=⟨(qq h.bx 0).trans rfl,(qq h.bx 1).trans rfl⟩
theorem Ox.sn (h : Ox w0 W Z wz g N Ae ce es col vy bn nn cn vm s gb v0 v1 X) {u : Value} {o : Nat} {s' : RI} (hS : Rn w0 (W.setCell ⟨bn,o,none⟩ u) Z wz g N Ae ce es col vy (.slice (some ⟨bn,0,none⟩) nn cn) vm s') : Ox w0 (W.setCell ⟨bn,o,none⟩ u) Z wz g N Ae ce es col vy bn nn cn vm s' gb v0 v1 X :=
 ⟨hS,(Below.heap_setCell W ⟨bn,o,none⟩ u gb h.ne).trans h.bx,h.ne,Kd.R_far (p:=⟨bn,o,none⟩) h.r0 (fun k hk=>hk.2) u,Kd.R_far (p:=⟨bn,o,none⟩) h.r1 (fun k hk=>hk.2) u⟩
theorem Ox.recol {col' : Nat → Nat} (h : Ox w0 W Z wz g N Ae ce es col vy bn nn cn vm s gb v0 v1 X) (hc : ∀ k,k < W.heap.size → col' k = col k) : Ox w0 W Z wz g N Ae ce es col' vy bn nn cn vm s gb v0 v1 X :=
 ⟨h.S.recol hc,h.bx,h.ne,Kd.R_mono (Kd.R_bound h.r0) Qb',Kd.R_mono (Kd.R_bound h.r1) Qb'⟩
theorem Ox.app_m {w1 : World} {v : Value} {ys : List S56} (h : Ox w0 W Z wz g N Ae ce es col vy bn nn cn vm s gb v0 v1 X) (ho : Kd.R k56 56 w1 w0.heap.size (fun k=>col k = 3) v ys) (hb : Below w0.heap.size w0 w1) (hg : W.grownBy w1 vm.ownBlock) :
  Ox w0 (w1.setCell ⟨g,4,none⟩ v) Z wz g N Ae ce es col vy bn nn cn v { s with mt:=ys } gb v0 v1 X ∧ w1.cell? ⟨g,4,none⟩ = some vm ∧ w1.frozen? ⟨g,4,none⟩ = false:=by
 obtain ⟨hS,hx,hf⟩:=h.S.app_m ho hb hg
 have bg:=le' h.S.blk hg (Kd.R_ne h.S.rm h.S.blk ba')
 have b1:=le' h.bx hg (Kd.R_ne h.S.rm h.bx ba')
 have hne : ∀ k,col k = 2 ∧ k ≠ bn → some k ≠ vm.ownBlock:=fun k hk e=>by have:=h.S.rm.1 k e.symm;have:=hk.1;omega
 exact ⟨⟨hS,Oe' b1 bg ba',h.ne,Kd.R_set (Kd.R_grown h.r0 hg hne) bg lg' _ _,Kd.R_set (Kd.R_grown h.r1 hg hne) bg zh' _ _⟩,hx,hf⟩
theorem Rn.rows (h : Rn w0 W Z wz g N Ae ce es col vy (.slice (some ⟨bn,0,none⟩) nn cn) vm s) (i : Int) (h0 : 0 ≤ i) (h1 : i < (s.nd.length : Int)) :
  ∃ v0 v1,W.cell? ⟨bn,i.toNat * 6,none⟩ = some v0 ∧ W.cell? ⟨bn,i.toNat * 6 + 1,none⟩ = some v1 ∧ W.cell? ⟨bn,i.toNat * 6 + 2,none⟩ = some (.int .i64 (wd' s.nd i).f2) ∧ W.cell? ⟨bn,i.toNat * 6 + 3,none⟩ = some (.int .i64 (wd' s.nd i).f3) ∧ W.cell? ⟨bn,i.toNat * 6 + 4,none⟩ = some (.int .i64 (wd' s.nd i).f4) ∧ W.cell? ⟨bn,i.toNat * 6 + 5,none⟩ = some (.bool (wd' s.nd i).f5) ∧
   W.frozen? ⟨bn,i.toNat * 6 + 3,none⟩ = false ∧ W.frozen? ⟨bn,i.toNat * 6 + 4,none⟩ = false ∧ W.frozen? ⟨bn,i.toNat * 6 + 5,none⟩ = false ∧
   Kd.R (Kd.int .i64) 3 W w0.heap.size (fun k=>col k = 2 ∧ k ≠ bn) v0 (wd' s.nd i).f0 ∧ Kd.R k56 56 W w0.heap.size (fun k=>col k = 2 ∧ k ≠ bn) v1 (wd' s.nd i).f1:=by
 have hn:=(Kd.R_reads' h.rn).1
 obtain ⟨cl,hcl,hM,hcc,hfr⟩:=Kd.R_elem h.rn z77 i h0 aa'
 obtain ⟨v0,v1,e,g0,g1⟩:=Fl' hM
 have hcc' : ∀ j u,cl[j]? = some u → W.cell? ⟨bn,i.toNat * 6 + j,none⟩ = some u:=hcc
 rw [e] at hcc'
 exact ⟨v0,v1,hcc' 0 _ rfl,hcc' 1 _ rfl,hcc' 2 _ rfl,hcc' 3 _ rfl,hcc' 4 _ rfl,hcc' 5 _ rfl,hfr 3,hfr 4,hfr 5,g0,g1⟩
end
def Di' (nd : List S77) (m u : Int) : List S77:=nd.set m.toNat { wd' nd m with f4:=u }
def xf' (nd : List S77) (n : Int) : List S77:=nd.set n.toNat { wd' nd n with f5:=true }
def Me' (u : Int) : List Int → List S77 → List S77
 | [],nd=>nd
 | m :: l,nd=>Me' u l (Di' nd m u)
def linkF (lk : List S56) (a size : Int) : Nat → Int → List S56 → List S56
 | 0,_,mt=>mt
 | f + 1,k,mt=>if k < size then linkF lk a size f (k + 2) (mt ++ [xd' lk ((a + k) % size)]) else mt
def atS (s : RI) (n : Int) : Int:=atF (cvs s.nd) (xe' s.nd s.mt n) (wd' s.nd n).f0 0 0
def nf' (s : RI) (n : Int) : RI :=
 { s with nd:=xf' (Me' (-1) (wd' s.nd n).f0 s.nd) n,mt:=linkF (wd' s.nd n).f1 (atS s n) (wd' s.nd n).f0.length ((wd' s.nd n).f0.length + 1) 1 s.mt }
theorem Fh' {w0 W : World} {Z : Nat → Prop} {wz : World} {g : Nat} {N : Int} {Ae : Option Addr} {ce : Nat} {es : List (S73)} {col : Nat → Nat} {vy vn vm : Value} {s : RI} (hS : Rn w0 W Z wz g N Ae ce es col vy vn vm s) (hw : WFn (cvs s.nd)) (hm : ∀ x ∈ s.mt,inR x.f0 s.nd.length ∧ inR x.f1 s.nd.length) (hsz : s.mt.length ≤ 1000000) (n : Int) (hn : inR n s.nd.length)
  (hb : xe' s.nd s.mt n = -1 ∨ inR (xe' s.nd s.mt n) s.nd.length) (hmem : ∀ m ∈ (wd' s.nd n).f0,inR m s.nd.length) (h0 : 0 < (wd' s.nd n).f0.length) (hlk : (wd' s.nd n).f0.length ≤ (wd' s.nd n).f1.length) (hszf : (wd' s.nd n).f0.length ≤ 1000000) :
  Calls Tryz.prog 21 #[.pointer (some ⟨g,0,none⟩),.int .i64 n] W fun e w'=>e = .returned (.tuple #[]) ∧ ∃ col' vm',Rn w0 w' Z wz g N Ae ce es col' vy vn vm' (nf' s n) ∧ ∀ k,k < W.heap.size → col' k = col k:=by
 have hu51:=Tryz.underlying51
 have hu77:=Tryz.underlying77
 have hu56:=Tryz.underlying56
 have hu73:=Tryz.underlying73
 have hu35:=Tryz.underlying35
 have HS:=qz.mk hS
 clear hS
 have hu27:=Tryz.underlying27
 have hu48:=Tryz.underlying48
 have hu49:=Tryz.underlying49
 obtain ⟨bn,cn,e_,-⟩:=fe' HS.o.rn (by have:=hn.1;have:=hn.2;omega)
 subst e_
 rw [nf',atS]
 obtain ⟨X,hX⟩ : ∃ X,wd' s.nd n = X:=⟨_,rfl⟩
 obtain ⟨v,hvv⟩ : ∃ v,xe' s.nd s.mt n = v:=⟨_,rfl⟩
 have HBS:=qz.mk (gj' HS.o n hw hm hsz hn)
 rw [hvv] at HBS hb ⊢
 rw [hX] at hmem h0 hlk hszf ⊢
 obtain ⟨ia,hia⟩ : ∃ ia,atF (cvs s.nd) v X.f0 0 0 = ia:=⟨_,rfl⟩
 rw [hia]
 have HIA:=qz.mk hia
 clear hia
 have HW:=qz.mk hw
 have HM:=qz.mk hm
 have HSZ:=qz.mk hsz
 have HV:=qz.mk hb
 have HMM:=qz.mk hmem
 have H0:=qz.mk (And.intro h0 (And.intro hlk hszf))
 have HN:=qz.mk hn
 clear hw hm hsz hb hmem h0 hlk hszf hvv
 obtain ⟨p,q⟩:=hn
 go_enter Tryz.func21,Tryz.ntmps21
 go_upto_region 1 with (first|(go_at_call 43;refine HBS.o.mono ?_;rintro e_ w2 ⟨rfl,hb⟩;have HB2:=qz.mk hb;clear hb))
 have HS2:=qz.mk (HS.o.to HB2.o)
 have hc:=HS2.o.cells
 obtain ⟨v0,v1,nx0,nx1,nx2,nx3,nx4,nx5,nf3,nf4,nf5,g0,g1⟩:=HS2.o.rows n p q
 rw [hX] at nx2 nx3 nx4 nx5 g0 g1
 obtain ⟨A0,c0,e_⟩:=Kd.R_slice g0
 subst e_
 obtain ⟨A1,c1,e_⟩:=Kd.R_slice g1
 subst e_
 have p':=eq_true p
 have q':=eq_true q
 go_upto_region 2 with fail
 have BXX : qz ((w2.alloc (.cells #[.slice A0 X.f0.length c0,.slice A1 X.f1.length c1,.int .i64 X.f2,.int .i64 X.f3,.int .i64 X.f4,.bool X.f5] 77)).heap[w2.heap.size]? = some (.cells #[.slice A0 X.f0.length c0,.slice A1 X.f1.length c1,.int .i64 X.f2,.int .i64 X.f3,.int .i64 X.f4,.bool X.f5] 77 (0,0))):=⟨yd' w2 _⟩
 have HBX : qz (Below w2.heap.size w2 (w2.alloc (.cells #[.slice A0 X.f0.length c0,.slice A1 X.f1.length c1,.int .i64 X.f2,.int .i64 X.f3,.int .i64 X.f4,.bool X.f5] 77))):=⟨qo (Below.refl _ _) _⟩
 generalize w2.alloc (.cells #[.slice A0 X.f0.length c0,.slice A1 X.f1.length c1,.int .i64 X.f2,.int .i64 X.f3,.int .i64 X.f4,.bool X.f5] 77) = W3 at *
 have HOX : qz (Ox w0 W3 Z wz g N Ae ce es col vy bn s.nd.length cn vm s w2.heap.size (.slice A0 X.f0.length c0) (.slice A1 X.f1.length c1) X):=by
  obtain ⟨ds,hd⟩:=row_blk HS2.o.rn
  have:=ke' hd
  exact ⟨⟨HS2.o.to HBX.o,BXX.o,aa',Kd.R_below g0 HBX.o,Kd.R_below g1 HBX.o⟩⟩
 have HSZ0 : qz (W.heap.size ≤ W3.heap.size):=⟨(qy HB2.o HBX.o).size⟩
 generalize w2.heap.size = gb at HOX ⊢
 clear nx0 nx1 nx2 nx3 nx4 nx5 nf3 nf4 nf5 g0 g1 hc BXX HBX HB2 HS2 HBS HS
 have hc:=HOX.o.S.cells
 have hcx:=HOX.o.cells
 go_wp2_with fail
 go_loopg [7,8] (X.f0.length + 1) (fun kq v7 v8 w'=>∃ i a : Int,v7 = .int .i64 a ∧ v8 = .int .i64 i ∧ qz (0 ≤ i ∧ i + kq = X.f0.length + 1 ∧ i ≤ X.f0.length ∧ 0 ≤ a ∧ a < X.f0.length) ∧ qz (atF (cvs s.nd) v (X.f0.drop i.toNat) i a = ia) ∧ W3 = w')
 case atStart=>exact ⟨0,0,rfl,rfl,⟨aa',aa',aa',aa',Na'⟩,HIA,rfl⟩
 obtain ⟨i,a,rfl,rfl,HI,HT,rfl⟩:=hrel
 cases gk with
 | zero =>
  exfalso
  have h1:=HI.o
  omega
 | succ k1 =>
  have h:=HT.o
  clear HT
  by_cases c : i < (X.f0.length : Int)
  ·have hi:=HI.o
   rw [Jf' _ _ hi.1 c,atF] at h
   have cl0 : decide (i < (X.f0.length : Int)) = true:=decide_eq_true c
   have HIL:=qz.mk c
   have hi1 : wrap64 (i + 1) = i + 1:=w64 aa' pa'
   obtain ⟨a0,e_,hmi⟩:=Kd.at_int (Kd.R_reads' HOX.o.r0).2.2 i hi.1 c
   subst e_
   have pi:=eq_true hi.1
   have qi:=eq_true c
   have HMI:=qz.mk (HMM.o _ (Vd' X.f0 i hi.1 c))
   have HQ:=qz.mk (tj' HOX.o.S (rd X.f0 i) v HW.o (by have:=HMI.o.1;omega) HV.o)
   clear c hi
   cases b : Ad' (cvs s.nd) (rd X.f0 i) v with
   | true =>
    rw [b,if_pos rfl] at h
    rw [b] at HQ
    have HT:=qz.mk h
    clear h b
    go_wp2_with (first|(go_at_call 41;refine HQ.o.mono ?_;rintro e w2 ⟨rfl,h2⟩;replace h2:=h2.symm;subst h2))
    go_roundg k1
    case measure=>omega
    case rel=>exact ⟨i + 1,i,rfl,Ea',⟨fa',fa',ga',fa',ga'⟩,HT,rfl⟩
   | false =>
    rw [b,if_neg ba'] at h
    rw [b] at HQ
    have HT:=qz.mk h
    clear h b
    go_wp2_with (first|(go_at_call 41;refine HQ.o.mono ?_;rintro e w2 ⟨rfl,h2⟩;replace h2:=h2.symm;subst h2))
    go_roundg k1
    case measure=>omega
    case rel=>exact ⟨i + 1,a,rfl,Ea',⟨fa',fa',ga',fa',fa'⟩,HT,rfl⟩
  have hi:=HI.o
  rw [List.drop_eq_nil_of_le aa',atF] at h
  subst h
  have cl0 : decide (i < (X.f0.length : Int)) = false:=decide_eq_false c
  clear c hi
  go_wp2_with fail
  have HA : qz (0 ≤ a ∧ a < (X.f0.length : Int)):=⟨fa'⟩
  clear HI HIA
  go_loopg [9] (X.f0.length + 1) (fun kq v9 w'=>∃ (i : Int) (nd : List (S77)),v9 = .int .i64 i ∧ qz (0 ≤ i ∧ i + kq = X.f0.length + 1 ∧ i ≤ X.f0.length) ∧ qz (Me' (-1) (X.f0.drop i.toNat) nd = Me' (-1) X.f0 s.nd) ∧ qz (nd.length = s.nd.length) ∧ qz (Ox w0 w' Z wz g N Ae ce es col vy bn s.nd.length cn vm { s with nd:=nd } gb (.slice A0 X.f0.length c0) (.slice A1 X.f1.length c1) X) ∧ qz (W3.heap.size ≤ w'.heap.size))
  case atStart=>exact ⟨0,s.nd,rfl,⟨aa',aa',aa'⟩,⟨rfl⟩,⟨rfl⟩,HOX,⟨Nat.le_refl _⟩⟩
  clear hc hcx HOX
  obtain ⟨i,nd,rfl,HI,HT,HL,HOX,HSZ1⟩:=hrel
  have h:=HT.o
  clear HT
  have hc:=HOX.o.S.cells
  have hcx:=HOX.o.cells
  cases gk with
  | zero =>
   exfalso
   have h1:=HI.o
   omega
  | succ k1 =>
   by_cases c : i < (X.f0.length : Int)
   ·have hi:=HI.o
    rw [Jf' _ _ hi.1 c,Me'] at h
    have HT:=qz.mk h
    have cl0 : decide (i < (X.f0.length : Int)) = true:=decide_eq_true c
    have HIL:=qz.mk c
    obtain ⟨a0,e_,hmi⟩:=Kd.at_int (Kd.R_reads' HOX.o.r0).2.2 i hi.1 c
    subst e_
    have pi:=eq_true hi.1
    have qi:=eq_true c
    obtain ⟨pm,qm⟩:=HMM.o _ (Vd' X.f0 i hi.1 c)
    have qm' : rd X.f0 i < (nd.length : Int):=by rw [HL.o];exact qm
    clear c hi h
    obtain ⟨u0,u1,nx0,nx1,nx2,nx3,nx4,nx5,nf3,nf4,nf5,-,-⟩:=HOX.o.S.rows (rd X.f0 i) pm qm'
    have HO2:=qz.mk (HOX.o.sn (HOX.o.S.sn (rd X.f0 i) pm qm' 4 (.int .i64 (-1)) { wd' nd (rd X.f0 i) with f4:=-1 } ba' (fun _ _=>rfl) ⟨rfl,rfl⟩))
    have pmb:=eq_true pm
    have qmb:=eq_true qm
    go_wp2_with fail
    refine Md' (n:=12) (S:=fun w'=>w'.cell? ⟨g,3,none⟩ = some (.slice (some ⟨bn,0,none⟩) s.nd.length cn) ∧ w'.cell? ⟨gb,0,none⟩ = some (.slice (some a0) X.f0.length c0) ∧ w'.cell? (a0.add i.toNat) = some (.int .i64 (rd X.f0 i))) (ds:=[11]) (Array.replicate 12 false) da' rfl rfl ⟨hc.2.2.2.1,hcx.1,hmi⟩ (fun hHeld=>?_)
    refine pa_ 0 43 (bz_ 12 1) ?_
    refine pa_ 1 44 (bz_ 12 3) ?_
    refine pa_ 2 45 (bz_ 12 7) ?_
    refine pa_ 4 47 (bz_ 12 23) ?_
    refine pa_ 6 49 (bz_ 12 87) ?_
    refine ta_ 3 46 (bz_ 12 95) hHeld (hy:=Or.inl ⟨ca',ra'⟩) (h:=?_)
    refine ta_ 5 48 (bz_ 12 127) hHeld (hy:=Or.inl ⟨ca',ra'⟩) (h:=?_)
    refine pa_ 7 50 (bz_ 12 255) ?_
    refine ta_ 8 51 (bz_ 12 511) hHeld (hy:=Or.inl ⟨ca',ra'⟩) (h:=?_)
    refine pa_ 9 52 (bz_ 12 1023) ?_
    refine pa_ 10 53 (bz_ 12 2047) ?_
    refine de' (i:=11) (N:=none) (bz_ 12 4095) rfl rfl da' ba' (fun K hK=>?_)
    refine Id' (w1:=?_) ca' rfl ?_ ?_
    rotate_left
    ·go_simp
     rfl
    refine hK.out _ _ ?_
    clear hK K
    refine Wd' da' ?_
    clear nx0 nx1 nx2 nx3 nx4 nx5 nf3 nf4 nf5 hc hcx hmi HOX
    have HSZ2 : qz (W3.heap.size ≤ ((wr.setCell ⟨bn,(rd X.f0 i).toNat * 6 + 4,none⟩ (.int .i64 (-1))).drew).heap.size):=⟨by have:=HSZ1.o;simpa using this⟩
    replace HO2:=qz.mk (HO2.o.to (qh (Below.refl _ _)))
    generalize (wr.setCell _ _).drew = w9 at HO2 HSZ2 ⊢
    go_wp2_with fail
    go_roundg k1
    case measure=>omega
    case rel=>exact ⟨i + 1,_,Pb',⟨fa',fa',ga'⟩,HT,⟨by rw [Di',List.length_set];exact HL.o⟩,HO2,HSZ2⟩
   have hi:=HI.o
   rw [List.drop_eq_nil_of_le aa',Me'] at h
   subst h
   have cl0 : decide (i < (X.f0.length : Int)) = false:=decide_eq_false c
   clear c hi HI
   obtain ⟨p,q⟩:=HN.o
   have q2 : n < ((Me' (-1) X.f0 s.nd).length : Int):=by rw [HL.o];exact q
   obtain ⟨u0,u1,nx0,nx1,nx2,nx3,nx4,nx5,nf3,nf4,nf5,-,-⟩:=HOX.o.S.rows n p q2
   have HO2:=qz.mk (HOX.o.sn (HOX.o.S.sn n p q2 5 (.bool true) { wd' (Me' (-1) X.f0 s.nd) n with f5:=true } ba' (fun _ _=>rfl) ⟨rfl,rfl⟩))
   go_upto_region 14 with fail
   clear nx0 nx1 nx2 nx3 nx4 nx5 nf3 nf4 nf5 hc hcx HOX
   have HSZ2 : qz (W.heap.size ≤ (wr.setCell ⟨bn,n.toNat * 6 + 5,none⟩ (.bool true)).heap.size):=⟨by have:=HSZ1.o;have:=HSZ0.o;simp;omega⟩
   generalize wr.setCell _ _ = w9 at HO2 HSZ2 ⊢
   go_wp2_with fail
   go_loopg [10] (X.f0.length + 1) (fun kq v10 w'=>∃ (k : Int) (mt : List S56) (Am : Option Addr) (cm : Nat) (col' : Nat → Nat),v10 = .int .i64 k ∧ qz (1 ≤ k ∧ k ≤ X.f0.length + 1 ∧ X.f0.length + 2 ≤ k + kq) ∧ qz (linkF X.f1 a X.f0.length kq k mt = linkF X.f1 a X.f0.length (X.f0.length + 1) 1 s.mt) ∧ qz ((mt.length : Int) ≤ s.mt.length + k) ∧ qz (Ox w0 w' Z wz g N Ae ce es col' vy bn s.nd.length cn (.slice Am mt.length cm) { s with nd:=xf' (Me' (-1) X.f0 s.nd) n,mt:=mt } gb (.slice A0 X.f0.length c0) (.slice A1 X.f1.length c1) X) ∧ qz (∀ q,q < W.heap.size → col' q = col q) ∧ qz (W.heap.size ≤ w'.heap.size))
   case atStart =>
    obtain ⟨Am,cm,e_⟩:=Kd.R_slice HO2.o.S.rm
    subst e_
    exact ⟨1,s.mt,Am,cm,col,rfl,⟨aa',Na',aa'⟩,⟨rfl⟩,⟨aa'⟩,HO2,⟨fun _ _=>rfl⟩,HSZ2⟩
   clear HO2 HSZ2 HL HSZ1
   obtain ⟨k,mt,Am,cm,col2,rfl,HI,HT,HL,HO,HCL,HSZ2⟩:=hrel
   have h:=HT.o
   clear HT
   have hc:=HO.o.S.cells
   have hcx:=HO.o.cells
   cases gk with
   | zero =>
    exfalso
    have h1:=HI.o
    omega
   | succ k1 =>
    rw [linkF] at h
    by_cases c : k < (X.f0.length : Int)
    ·rw [if_pos c] at h
     have HT:=qz.mk h
     have cl0 : decide (k < (X.f0.length : Int)) = true:=decide_eq_true c
     have HIL:=qz.mk c
     clear h c
     have hw1 : wrap64 (a + k) = a + k:=w64 cb' mc'
     have ht1 : (a + k).tmod (X.f0.length : Int) = (a + k) % (X.f0.length : Int):=Int.tmod_eq_emod_of_nonneg cb'
     have hz0 : ((X.f0.length : Int) == 0) = false:=by have:=H0.o.1;rw [beq_eq_false_iff_ne];omega
     have hz1 : (X.f0.length : Int) ≠ 0:=by have:=H0.o;omega
     have hz3 : (X.f0 = []) = False:=eq_false (by rintro e;have:=H0.o.1;rw [e] at this;simp at this)
     have hI0 : 0 ≤ (a + k) % (X.f0.length : Int):=Int.emod_nonneg _ hz1
     have hI1 : (a + k) % (X.f0.length : Int) < (X.f0.length : Int):=Int.emod_lt_of_pos _ Na'
     have hI2 : (a + k) % (X.f0.length : Int) < (X.f1.length : Int):=by have:=H0.o;omega
     obtain ⟨a1,e_,hl0,hl1⟩:=Cf' (Kd.R_reads' HO.o.r1).2.2 _ hI0 hI2
     subst e_
     have pI:=eq_true hI0
     have qI:=eq_true hI2
     have hck : ∀ q,q < wr.heap.size → (if wr.heap.size ≤ q then 3 else col2 q) = col2 q:=fun q hq=>by rw [if_neg aa']
     have HOd:=qz.mk ((HO.o.recol hck).to (qh (Below.refl _ _)))
     go_wp2_with fail
     refine Md' (n:=19) (S:=fun w'=>w'.cell? ⟨g,4,none⟩ = some (.slice Am mt.length cm) ∧ w'.cell? ⟨gb,1,none⟩ = some (.slice (some a1) X.f1.length c1) ∧ w'.cell? (a1.add (((a + k) % (X.f0.length : Int)).toNat * 2)) = some (.int .i64 (xd' X.f1 ((a + k) % (X.f0.length : Int))).f0) ∧ w'.cell? ⟨(a1.add (((a + k) % (X.f0.length : Int)).toNat * 2)).block,(a1.add (((a + k) % (X.f0.length : Int)).toNat * 2)).off + 1,none⟩ = some (.int .i64 (xd' X.f1 ((a + k) % (X.f0.length : Int))).f1)) (ds:=[15,18]) (Array.replicate 19 false) da' rfl rfl ⟨hc.2.2.2.2.1,hcx.2,hl0,hl1⟩ (fun hHeld=>?_)
     refine pa_ 0 66 (bz_ 19 1) ?_
     refine pa_ 1 67 (bz_ 19 3) ?_
     refine pa_ 2 68 (bz_ 19 7) ?_
     refine pa_ 3 69 (bz_ 19 15) ?_
     refine pa_ 5 71 (bz_ 19 47) ?_
     refine pa_ 7 73 (bz_ 19 175) ?_
     refine pa_ 8 74 (bz_ 19 431) ?_
     refine pa_ 9 75 (bz_ 19 943) ?_
     refine pa_ 10 76 (bz_ 19 1967) ?_
     refine pa_ 11 77 (bz_ 19 4015) ?_
     refine ta_ 4 70 (bz_ 19 4031) hHeld (hy:=Or.inl ⟨ca',na'⟩) (h:=?_)
     refine ta_ 6 72 (bz_ 19 4095) hHeld (hy:=Or.inl ⟨ca',na'⟩) (h:=?_)
     refine pa_ 12 78 (bz_ 19 8191) ?_
     refine ta_ 13 79 (bz_ 19 16383) hHeld (hy:=Or.inl ⟨ca',na'⟩) (h:=?_)
     refine Td' (i:=14) (N:=some 80) (bz_ 19 32767) rfl rfl da' ba' (fun K hK=>?_)
     refine jf' (w1:=?_) (v:=?_) ca' rfl ?_ ?_
     rotate_left 2
     ·go_simp
      constructor
      ·rfl
      rfl
     refine hK.out _ _ ⟨vd' (qo (Below.refl _ _) _) hHeld.1,vd' (qo (Below.refl _ _) _) hHeld.2.1,vd' (qo (Below.refl _ _) _) hHeld.2.2.1,vd' (qo (Below.refl _ _) _) hHeld.2.2.2⟩ (fun hHeld=>?_)
     clear hK K
     refine zd' (a':=?_) ?_ ?_
     rotate_left
     ·show Act.put _ (some 80) _ = _
      simp only [Act.put,List.setIfInBounds_toArray,List.set_cons_zero,List.set_cons_succ,Bd',Cd']
      rfl
     refine de' (i:=15) (N:=some 81) (bz_ 19 65535) rfl rfl da' ba' (fun K hK=>?_)
     refine Kd.R_append_step k56 (w0:=w0) (W:=wr.drew) w0.heap.size ca' (.tmp 70) (.tmp 80) 49 56 (.agg #[.int .i64 0,.int .i64 0]) 16 rfl Tryz.underlying49 Ff' rfl ba' aa' (.slice Am mt.length cm) mt (xd' X.f1 ((a + k) % (X.f0.length : Int))) [.int .i64 (xd' X.f1 ((a + k) % (X.f0.length : Int))).f0,.int .i64 (xd' X.f1 ((a + k) % (X.f0.length : Int))).f1] (fun q=>(if wr.heap.size ≤ q then 3 else col2 q) = 3) (fun _=>False) ca' ca' (cf' _ _ _ (xd' X.f1 ((a + k) % (X.f0.length : Int)))) (fun _ hk=>hk.elim) (fun q hq=>if_pos hq) HOd.o.S.rm HOd.o.S.hb HOd.o.S.hb.size (by have:=HL.o;have:=HSZ.o;have:=HIL.o;have:=H0.o;omega) ?_
     intro v7 w7 ho hb hg hat
     obtain ⟨A7,c7,e_⟩:=Kd.R_slice ho
     rw [List.length_append,List.length_singleton] at e_
     subst e_
     obtain ⟨hO3,hx3,hf3⟩:=Ox.app_m HOd.o ho hb hg
     have HO3:=qz.mk hO3
     have HSZ3 : qz (W.heap.size ≤ w7.heap.size):=⟨Nat.le_trans HSZ2.o hg.size⟩
     clear hO3 ho hb hg hat
     refine hK.out _ _ ?_
     clear hK K
     refine zd' (a':=?_) ?_ ?_
     rotate_left
     ·show Act.put _ (some 81) _ = _
      simp only [Act.put,List.setIfInBounds_toArray,List.set_cons_zero,List.set_cons_succ,Bd',Cd']
      rfl
     refine pa_ 16 82 (bz_ 19 131071) ?_
     refine pa_ 17 83 (bz_ 19 262143) ?_
     refine de' (i:=18) (N:=none) (bz_ 19 524287) rfl rfl da' ba' (fun K hK=>?_)
     refine Id' (w1:=?_) ca' rfl ?_ ?_
     rotate_left
     ·go_simp
      rfl
     refine hK.out _ _ ?_
     clear hK K
     refine Wd' da' ?_
     clear hx3 hf3 HOd hc hcx hz3
     have HSZ4 : qz (W.heap.size ≤ (w7.setCell ⟨g,4,none⟩ (.slice A7 (mt.length + 1) c7)).heap.size):=⟨by have:=HSZ3.o;simpa using this⟩
     generalize w7.setCell _ _ = w8 at HO3 HSZ4 ⊢
     go_wp2_with fail
     go_roundg k1
     case measure=>omega
     case rel=>exact ⟨k + 2,_,A7,c7,_,Jc',⟨fa',ga',fa'⟩,HT,⟨Ka'⟩,by rw [List.length_append,List.length_singleton];exact HO3,⟨fun q hq=>by have h1:=HCL.o q hq;have:=HSZ2.o;rw [if_neg aa'];exact h1⟩,HSZ4⟩
    rw [if_neg c] at h
    have cl0 : decide (k < (X.f0.length : Int)) = false:=decide_eq_false c
    clear c
    go_wp2_with fail
    go_end0
    first|exact ⟨rfl,col2,⟨.slice Am mt.length cm,by rw [← h];exact HO.o.S⟩,HCL.o⟩|exact ⟨rfl,col2,.slice Am mt.length cm,by rw [← h];exact HO.o.S,HCL.o⟩
end Go.Proofs.YtnffimpoekjkpaaGreat.QFnExactSolve
