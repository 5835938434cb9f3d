import Derived.Test.YtnffimpoekjkpaaGreatZFnExactSolvex24
set_option linter.all false
namespace Go.Proofs.YtnffimpoekjkpaaGreat.QFnExactSolve
open Go.RowKit Go.Proofs.YtnffimpoekjkpaaGreatW.PrintWords Go.Proofs.YtnffimpoekjkpaaGreatW.PrintLast Go.Proofs.YtnffimpoekjkpaaGreatW.PrintMore
set_option maxHeartbeats 8000000
set_option maxRecDepth 100000
attribute [local go_sem] Od' Pd' Xd' Yd' Jd' Kd' Qd' Rd'
section
variable {w0 W : World} {g : Nat} {N : Int} {Ae : Option Addr} {ce : Nat} {es : List (S73)} {col : Nat → Nat} {vy vn vl va vb : Value} {s : SI}
theorem Rg' (b k : Nat) : (⟨b,0,none⟩ : Addr).add k = ⟨b,k,none⟩:=by
 unfold Addr.add
 split
 ·rename_i h
  subst h
  rfl
 simp
theorem Gd' {W : World} {base b n c : Nat} {ok : Nat → Prop} {xs : List Int} (h : Kd.R (Kd.int .i64) 3 W base ok (.slice (some ⟨b,0,none⟩) n c) xs) (i : Int) (h0 : 0 ≤ i) (h1 : i < (xs.length : Int)) :
  W.cell? ⟨b,i.toNat,none⟩ = some (.int .i64 (rd xs i)) ∧ W.frozen? ⟨b,i.toNat,none⟩ = false:=by
 have hn:=(Kd.R_reads' h).1
 obtain ⟨ad,e,hx⟩:=Kd.at_int (Kd.R_reads' h).2.2 i h0 aa'
 obtain rfl:=Option.some.inj e
 obtain ⟨ds,hd⟩:=row_blk h
 refine ⟨?_,qu hd _⟩
 simpa only [Rg'] using hx
theorem Sol.node_at {b c n : Nat} (h : Sol w0 W g N Ae ce es col vy (.slice (some ⟨b,0,none⟩) n c) vl va vb s) (i : Int) (h0 : 0 ≤ i) (h1 : i < (s.nd.length : Int)) :
  ∃ A0 c0 A1 c1,W.cell? ⟨b,i.toNat * 7,none⟩ = some (.slice A0 (td' s.nd i).f0.length c0) ∧ W.cell? ⟨b,i.toNat * 7 + 1,none⟩ = some (.slice A1 (td' s.nd i).f1.length c1) ∧ W.cell? ⟨b,i.toNat * 7 + 2,none⟩ = some (.int .i64 (td' s.nd i).f2) ∧ W.cell? ⟨b,i.toNat * 7 + 3,none⟩ = some (.int .i64 (td' s.nd i).f3) ∧ W.cell? ⟨b,i.toNat * 7 + 4,none⟩ = some (.int .i64 (td' s.nd i).f4) ∧ W.cell? ⟨b,i.toNat * 7 + 5,none⟩ = some (.int .i64 (td' s.nd i).f5) ∧ W.cell? ⟨b,i.toNat * 7 + 6,none⟩ = some (.bool (td' s.nd i).f6) ∧ W.frozen? ⟨b,i.toNat * 7 + 2,none⟩ = false ∧ W.frozen? ⟨b,i.toNat * 7 + 3,none⟩ = false ∧ W.frozen? ⟨b,i.toNat * 7 + 5,none⟩ = false ∧ W.frozen? ⟨b,i.toNat * 7 + 6,none⟩ = false ∧
   (td' s.nd i).f0.length ≤ c0 ∧ Kd.C (Kd.int .i64) W A0 (td' s.nd i).f0.length (td' s.nd i).f0 ∧ (td' s.nd i).f1.length ≤ c1 ∧ Kd.C (Kd.int .i64) W A1 (td' s.nd i).f1.length (td' s.nd i).f1:=by
 have hn:=(Kd.R_reads' h.rn).1
 obtain ⟨ad,A0,c0,A1,c1,e,x0,x1,x2,x3,x4,x5,x6,q0,k0,q1,k1⟩:=Wg' (Kd.R_reads' h.rn).2.2 i h0 aa'
 obtain rfl:=Option.some.inj e
 obtain ⟨ds,hd⟩:=row_blk h.rn
 refine ⟨A0,c0,A1,c1,?_,?_,?_,?_,?_,?_,?_,qu hd _,qu hd _,qu hd _,qu hd _,q0,k0,q1,k1⟩
 ·simpa only [Rg'] using x0
 ·simpa only [Rg'] using x1
 ·simpa only [Rg'] using x2
 ·simpa only [Rg'] using x3
 ·simpa only [Rg'] using x4
 ·simpa only [Rg'] using x5
 simpa only [Rg'] using x6
end
def wayF (ah : List Int) : Nat → Int → Option (List Int)
 | 0,_=>none
 | k + 1,n=>if n = -1 then some [] else if inR n ah.length then (wayF ah k (rd ah n)).map (n :: ·) else none
theorem Jl' {w0 W : World} {g : Nat} {N : Int} {Ae : Option Addr} {ce : Nat} {es : List (S73)} {col : Nat → Nat} {vy vn vl va vb : Value} {s : SI} (hS : Sol w0 W g N Ae ce es col vy vn vl va vb s) (k : Nat) (hk : k ≤ 1000000) (n : Int) (l : List Int) (h : wayF s.ah k n = some l) :
  Calls Tryz.prog 87 #[.pointer (some ⟨g,0,none⟩),.int .i64 n] W fun e w'=>∃ v,e = .returned v ∧ Kd.R (Kd.int .i64) 3 w' W.heap.size (fun _=>True) v l ∧ Below W.heap.size W w':=by
 have hu87:=Tryz.underlying87
 have hu89:=Tryz.underlying89
 have hu73:=Tryz.underlying73
 have hu35:=Tryz.underlying35
 have HS:=qz.mk hS
 clear hS
 have hu27:=Tryz.underlying27
 have HT:=qz.mk h
 have HK:=qz.mk hk
 clear h hk
 obtain ⟨Aa,ca,e_⟩:=Kd.R_slice HS.o.ra
 subst e_
 go_enter Tryz.func87,Tryz.ntmps87
 go_wp2_with fail
 go_loopg [1,5] k (fun kq v1 v5 w'=>∃ (n : Int) (acc rest : List Int),v1 = .int .i64 n ∧ qz (Kd.R (Kd.int .i64) 3 w' W.heap.size (fun _=>True) v5 acc) ∧ qz (wayF s.ah kq n = some rest) ∧ qz (acc ++ rest = l ∧ acc.length + kq = k) ∧ qz (Below W.heap.size W w'))
 case atStart=>exact ⟨n,[],l,rfl,⟨Kd.R_nil _ _ _ _ _⟩,HT,⟨rfl,ia'⟩,⟨Below.refl _ _⟩⟩
 clear HT
 obtain ⟨n,acc,rest,rfl,HO,HT,HL,HB⟩:=hrel
 have HS1:=qz.mk (HS.o.to HB.o)
 have h:=HT.o
 clear HT
 obtain _|k1:=gk
 ·cases h
 rw [wayF] at h
 by_cases cn : n = -1
 ·rw [if_pos cn] at h
  obtain rfl:=Option.some.inj h
  have cb : (n != -1) = false:=by simpa using cn
  have hl:=HL.o.1
  rw [List.append_nil] at hl
  subst hl
  clear cn h
  go_wp2_with fail
  go_ret
  exact ⟨_,rfl,HO.o,HB.o⟩
 rw [if_neg cn] at h
 have cb : (n != -1) = true:=by simpa using cn
 clear cn
 by_cases c : inR n s.ah.length
 ·rw [if_pos c] at h
  obtain ⟨rest1,h1,rfl⟩:=Option.map_eq_some_iff.mp h
  have HT:=qz.mk h1
  clear h h1
  obtain ⟨p,q⟩:=c
  obtain ⟨ada,e_,-⟩:=Kd.at_int (Kd.R_reads' HS1.o.ra).2.2 n p q
  subst e_
  replace p:=eq_true p
  replace q:=eq_true q
  go_wp2_with (first|((with_reducible refine Ld' (b:=.append) (xs:=#[.tmp 15,.tmp 17]) rfl ?_);at_builtin;refine Kd.R_append (Kd.int .i64) (w0:=W) W.heap.size rfl (.tmp 15) (.tmp 17) 27 3 (.int .i64 0) 8 rfl Tryz.underlying27 Ud' rfl ba' aa' u5 acc n [.int .i64 n] (fun _=>True) (fun _=>False) rfl rfl ?aP (fun _ hk=>hk.elim) ?aF ?aO ?aB ?aS ?aL ?_;(case aP=>exact rfl);(case aF=>exact (fun _ _=>trivial));(case aO=>exact Nb');(case aB=>exact ab');(case aS=>exact qv ab');(case aL=>have:=HL.o.2;have:=HK.o;omega);intro v7 w7 ho hb hg hat;clear HO HB;have HO:=qz.mk ho;have HB:=qz.mk hb;clear ho hb hg hat HS1;have HS1:=qz.mk (HS.o.to HB.o);have hc:=HS1.o.cells;obtain ⟨_,e1_,hxa⟩:=Kd.at_int (Kd.R_reads' HS1.o.ra).2.2 n (of_eq_true p) (of_eq_true q);obtain rfl:=Option.some.inj e1_))
  go_roundg k1
  case measure=>omega
  case rel=>exact ⟨_,_,rest1,rfl,HO,HT,⟨by rw [List.append_assoc];exact HL.o.1,Hc'⟩,HB⟩
 rw [if_neg c] at h
 cases h
def mateAt (nd : List (S89)) (n e : Int) : List (S89):=nd.set n.toNat { td' nd n with f3:=e }
def sh' (ah bk : List Int) : Nat → Int → Int → List (S89) → Option (List (S89))
 | 0,_,_,_=>none
 | k + 1,n,e,nd =>
  if n = -1 then some nd
  else if inR n nd.length ∧ inR n ah.length then
   if rd ah n = -1 then some (mateAt nd n e)
   else if inR (rd ah n) nd.length ∧ inR (rd ah n) ah.length ∧ inR (rd ah n) bk.length then
    sh' ah bk k (rd ah (rd ah n)) (rd bk (rd ah n)) (mateAt (mateAt nd n e) (rd ah n) (rd bk (rd ah n)))
   else none
  else none
theorem Gk' {w0 W : World} {g : Nat} {N : Int} {Ae : Option Addr} {ce : Nat} {es : List (S73)} {col : Nat → Nat} {vy vn vl va vb : Value} {s : SI} (hS : Sol w0 W g N Ae ce es col vy vn vl va vb s) (k : Nat) (n e : Int) (nd' : List (S89)) (hn : 0 < s.nd.length) (h : sh' s.ah s.bk k n e s.nd = some nd') :
  Calls Tryz.prog 69 #[.pointer (some ⟨g,0,none⟩),.int .i64 n,.int .i64 e] W fun r w'=>r = .returned (.tuple #[]) ∧ nd'.length = s.nd.length ∧ Sol w0 w' g N Ae ce es col vy vn vl va vb { s with nd:=nd' }:=by
 have hz:=Tryz.underlying87
 have hu87:=Tryz.underlying87
 have hu89:=Tryz.underlying89
 have hu73:=Tryz.underlying73
 have hu35:=Tryz.underlying35
 have HS:=qz.mk hS
 clear hS
 obtain ⟨bn,cn,e_,-⟩:=fe' HS.o.rn hn
 subst e_
 have HT:=qz.mk h
 clear h
 obtain ⟨Aa,ca,e_⟩:=Kd.R_slice HS.o.ra
 subst e_
 obtain ⟨Ab,cbk,e_⟩:=Kd.R_slice HS.o.rb
 subst e_
 go_enter Tryz.func69,Tryz.ntmps69
 go_wp2_with fail
 go_loopg [1,2] k (fun kq v1 v2 w'=>∃ (n e : Int) (nd : List (S89)),v1 = .int .i64 n ∧ v2 = .int .i64 e ∧ qz (sh' s.ah s.bk kq n e nd = some nd') ∧ qz (nd.length = s.nd.length) ∧ qz (Sol w0 w' g N Ae ce es col vy (.slice (some ⟨bn,0,none⟩) s.nd.length cn) vl (.slice Aa s.ah.length ca) (.slice Ab s.bk.length cbk) { s with nd:=nd }))
 case atStart=>exact ⟨n,e,s.nd,rfl,rfl,HT,⟨rfl⟩,HS⟩
 clear HT HS
 obtain ⟨n,e,nd,rfl,rfl,HT,HL,HS⟩:=hrel
 have h:=HT.o
 clear HT
 have hc:=HS.o.cells
 obtain _|k1:=gk
 ·cases h
 rw [sh'] at h
 by_cases c1 : n = -1
 ·rw [if_pos c1] at h
  obtain rfl:=Option.some.inj h
  have cb : (n != -1) = false:=by simpa using c1
  clear c1 h
  go_wp2_with fail
  go_end0
  exact ⟨rfl,HL.o,HS.o⟩
 rw [if_neg c1] at h
 have cb : (n != -1) = true:=by simpa using c1
 clear c1
 by_cases c2 : inR n nd.length ∧ inR n s.ah.length
 ·rw [if_pos c2] at h
  obtain ⟨⟨p,q⟩,⟨p',q'⟩⟩:=c2
  obtain ⟨A0n,c0n,A1n,c1n,nx0,nx1,nx2,nx3,nx4,nx5,nx6,nf2,nf3,nf5,nf6,-⟩:=HS.o.node_at n p q
  have HS2:=qz.mk (HS.o.sn n p q 3 (.int .i64 e) { td' nd n with f3:=e } ba' (fun _ _=>rfl) ⟨rfl,rfl⟩)
  replace p:=eq_true p
  rw [HL.o] at q
  replace q:=eq_true q
  go_upto_region 2 with fail
  clear nx0 nx1 nx2 nx3 nx4 nx5 nx6 nf2 nf3 nf5 nf6 hc HS
  generalize wr.setCell _ _ = W2 at HS2 ⊢
  have hc:=HS2.o.cells
  obtain ⟨ada,e_,ha1⟩:=Kd.at_int (Kd.R_reads' HS2.o.ra).2.2 n p' q'
  subst e_
  replace p':=eq_true p'
  replace q':=eq_true q'
  by_cases c3 : rd s.ah n = -1
  ·rw [if_pos c3] at h
   obtain rfl:=Option.some.inj h
   have cb : (rd s.ah n == -1) = true:=by simpa using c3
   clear c3 h
   go_wp2_with fail
   (try simp only [Exit.inBlock,Exit.then])
   refine bodyPost_ret (results_none rfl _ _ _) rfl ?_
   exact ⟨rfl,lc',HS2.o⟩
  rw [if_neg c3] at h
  have cb : (rd s.ah n == -1) = false:=by simpa using c3
  clear c3
  by_cases c4 : inR (rd s.ah n) nd.length ∧ inR (rd s.ah n) s.ah.length ∧ inR (rd s.ah n) s.bk.length
  ·rw [if_pos c4] at h
   have HT:=qz.mk h
   clear h
   obtain ⟨⟨p1,q1⟩,⟨p2,q2⟩,⟨p3,q3⟩⟩:=c4
   obtain ⟨adb,e_,hb1⟩:=Kd.at_int (Kd.R_reads' HS2.o.rb).2.2 _ p3 q3
   subst e_
   have HL2 : qz ((mateAt nd n e).length = s.nd.length):=⟨lc'⟩
   have q1' : rd s.ah n < ((mateAt nd n e).length : Int):=by rw [HL2.o,← HL.o];exact q1
   obtain ⟨A0n,c0n,A1n,c1n,nx0,nx1,nx2,nx3,nx4,nx5,nx6,nf2,nf3,nf5,nf6,-⟩:=HS2.o.node_at (rd s.ah n) p1 q1'
   have HS3:=qz.mk (HS2.o.sn (rd s.ah n) p1 q1' 3 (.int .i64 (rd s.bk (rd s.ah n))) { td' (mateAt nd n e) (rd s.ah n) with f3:=rd s.bk (rd s.ah n) } ba' (fun _ _=>rfl) ⟨rfl,rfl⟩)
   rw [HL.o] at q1
   clear q1'
   replace p1:=eq_true p1
   replace q1:=eq_true q1
   have p2':=eq_true p2
   have q2':=eq_true q2
   replace p3:=eq_true p3
   replace q3:=eq_true q3
   go_upto_region 6 with fail
   clear nx0 nx1 nx2 nx3 nx4 nx5 nx6 nf2 nf3 nf5 nf6 hc HS2 ha1 hb1
   generalize W2.setCell _ _ = W3 at HS3 ⊢
   have hc:=HS3.o.cells
   obtain ⟨_,e_,ha2⟩:=Kd.at_int (Kd.R_reads' HS3.o.ra).2.2 (rd s.ah n) p2 q2
   obtain rfl:=Option.some.inj e_
   go_wp2_with fail
   go_roundg k1
   case measure=>omega
   case rel=>exact ⟨_,_,_,rfl,rfl,HT,⟨by rw [mateAt,List.length_set];exact HL2.o⟩,HS3⟩
  rw [if_neg c4] at h
  cases h
 rw [if_neg c2] at h
 cases h
end Go.Proofs.YtnffimpoekjkpaaGreat.QFnExactSolve
