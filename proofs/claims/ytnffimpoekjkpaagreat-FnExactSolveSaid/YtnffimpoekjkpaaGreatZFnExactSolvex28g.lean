import Derived.Test.YtnffimpoekjkpaaGreatZFnExactSolvex27
set_option linter.all false
namespace Go.Proofs.YtnffimpoekjkpaaGreat.QFnExactSolve
open Go.RowKit Go.Proofs.YtnffimpoekjkpaaGreatW.PrintWords Go.Proofs.YtnffimpoekjkpaaGreatW.PrintLast Go.Proofs.YtnffimpoekjkpaaGreatW.PrintMore
attribute [local go_sem] Od' Pd' Xd' Yd' Jd' Kd' Qd' Rd'
set_option maxHeartbeats 8000000
set_option maxRecDepth 100000
theorem Kl' {y : List Int} {nd : List (S89)} {lb : List Int} {es : List (S73)} (hw : WFn nd) (ho : EOk es nd.length) : ∀ (k : Nat) (i : Int),0 ≤ i → Mf' y nd lb es k i = (-1,-1,-1) ∨ (inR (Mf' y nd lb es k i).1 es.length ∧ inR (Mf' y nd lb es k i).2.1 nd.length ∧ inR (Mf' y nd lb es k i).2.2 nd.length)
 | 0,_,_=>.inl rfl
 | k + 1,i,hi=>by
  rw [Mf']
  by_cases c : i < (es.length : Int)
  ·have hr : inR i es.length:=⟨hi,c⟩
   have ha:=Nd' hw (ho i hr).1
   have hb:=Nd' hw (ho i hr).2
   have IH:=Kl' (y:=y) (lb:=lb) hw ho k (i + 1) aa'
   rw [if_pos c]
   split
   ·exact IH
   split
   ·exact IH
   split
   ·exact .inr ⟨hr,ha,hb⟩
   split
   ·exact .inr ⟨hr,hb,ha⟩
   exact IH
  rw [if_neg c]
  exact .inl rfl
def Lh' (y : List Int) (nd : List (S89)) (es : List (S73)) : Nat → List Int → List Int → List Int → Option ((Int × Int × Int) × List Int × List Int × List Int)
 | 0,_,_,_=>none
 | k + 1,lb,ah,bk =>
  let r:=Df' y nd lb es
  if r.1 = -1 then some (r,lb,ah,bk) else if rd lb r.2.2 = 1 then some (r,lb,ah,bk)
  else if inR (td' nd r.2.2).f3 es.length then
   Lh' y nd es k ((lb.set r.2.2.toNat 2).set (ze' nd es (td' nd r.2.2).f3 r.2.2).toNat 1) ((ah.set r.2.2.toNat r.2.1).set (ze' nd es (td' nd r.2.2).f3 r.2.2).toNat r.2.2) ((bk.set r.2.2.toNat r.1).set (ze' nd es (td' nd r.2.2).f3 r.2.2).toNat (td' nd r.2.2).f3)
  else none
theorem dp' {nd : List (S89)} {es : List (S73)} (hw : WFn nd) (ho : EOk es nd.length) {i : Int} (hi : inR i es.length) (n : Int) : inR (ze' nd es i n) nd.length:=by
 rw [ze']
 split
 ·exact Nd' hw (ho i hi).2
 exact Nd' hw (ho i hi).1
theorem Go' {w0 W : World} {g : Nat} {N : Int} {Ae : Option Addr} {ce : Nat} {es : List (S73)} {col : Nat → Nat} {vy vn vl va vb : Value} {s : SI} (hS : Sol w0 W g N Ae ce es col vy vn vl va vb s) (hw : WFn s.nd) (ho : EOk es s.nd.length) (hoy : EOk es s.y.length) (hl : s.lb.length = s.nd.length ∧ s.ah.length = s.nd.length ∧ s.bk.length = s.nd.length)
  (k : Nat) (r : Int × Int × Int) (lb' ah' bk' : List Int) (h : Lh' s.y s.nd es k s.lb s.ah s.bk = some (r,lb',ah',bk')) :
  Calls Tryz.prog 64 #[.pointer (some ⟨g,0,none⟩)] W fun e w'=>e = .returned (.tuple #[.int .i64 r.1,.int .i64 r.2.1,.int .i64 r.2.2]) ∧ (lb'.length = s.nd.length ∧ ah'.length = s.nd.length ∧ bk'.length = s.nd.length) ∧ Sol w0 w' g N Ae ce es col vy vn vl va vb { s with lb:=lb',ah:=ah',bk:=bk' }:=by
 have hu87:=Tryz.underlying87
 have hu89:=Tryz.underlying89
 have hu73:=Tryz.underlying73
 have hu35:=Tryz.underlying35
 have HS:=qz.mk hS
 clear hS
 obtain ⟨An,cn,e_⟩:=Kd.R_slice HS.o.rn
 subst e_
 obtain ⟨Al,cl,e_⟩:=Kd.R_slice HS.o.rl
 rw [hl.1] at e_
 subst e_
 obtain ⟨Aa,ca,e_⟩:=Kd.R_slice HS.o.ra
 rw [hl.2.1] at e_
 subst e_
 obtain ⟨Ab,cb,e_⟩:=Kd.R_slice HS.o.rb
 rw [hl.2.2] at e_
 subst e_
 have HW:=qz.mk hw
 have HE:=qz.mk ho
 have HY:=qz.mk hoy
 have HT:=qz.mk h
 have HL:=qz.mk hl
 clear hw ho hoy h hl
 go_enter Tryz.func64,Tryz.ntmps64
 go_wp2_with fail
 go_loopg [5] k (fun kq v5 w'=>∃ (lb ah bk : List Int),qz (Lh' s.y s.nd es kq lb ah bk = some (r,lb',ah',bk')) ∧ qz (lb.length = s.nd.length ∧ ah.length = s.nd.length ∧ bk.length = s.nd.length) ∧ qz (Sol w0 w' g N Ae ce es col vy (.slice An s.nd.length cn) (.slice Al s.nd.length cl) (.slice Aa s.nd.length ca) (.slice Ab s.nd.length cb) { s with lb:=lb,ah:=ah,bk:=bk }))
 case atStart=>exact ⟨_,_,_,HT,HL,HS⟩
 clear HT HL HS
 obtain ⟨lb,ah,bk,HT,HL,HS⟩:=hrel
 have h:=HT.o
 clear HT
 obtain _|k1:=gk
 ·cases h
 rw [Lh'] at h
 have HX:=qz.mk (Kl' (y:=s.y) (lb:=lb) HW.o HE.o (es.length + 1) 0 (Int.le_refl 0))
 have HFW:=qz.mk (Kn' HS.o HW.o HE.o HY.o HL.o.1)
 change qz (Df' s.y s.nd lb es = (-1,-1,-1) ∨ (inR (Df' s.y s.nd lb es).1 es.length ∧ inR (Df' s.y s.nd lb es).2.1 s.nd.length ∧ inR (Df' s.y s.nd lb es).2.2 s.nd.length)) at HX
 change qz (Calls Tryz.prog 83 #[.pointer (some ⟨g,0,none⟩)] wr fun e w'=>e = .returned (.tuple #[.int .i64 (Df' s.y s.nd lb es).1,.int .i64 (Df' s.y s.nd lb es).2.1,.int .i64 (Df' s.y s.nd lb es).2.2]) ∧ Below wr.heap.size wr w') at HFW
 generalize Df' s.y s.nd lb es = q at h HX HFW
 obtain ⟨e,a,b⟩:=q
 dsimp only at h HX HFW
 by_cases c1 : e = -1
 ·rw [if_pos c1] at h
  obtain ⟨rfl,rfl,rfl,rfl⟩ : (e,a,b) = r ∧ lb = lb' ∧ ah = ah' ∧ bk = bk':=by simpa using h
  have cb1 : (e == -1) = true:=by simpa using c1
  clear h c1
  go_wp2_with (first|(go_at_call 83;refine HFW.o.mono ?_;rintro e_ w2 ⟨rfl,hb⟩;have HS2:=qz.mk (HS.o.to hb);clear hb))
  go_ret3
  exact ⟨rfl,HL.o,HS2.o⟩
 rw [if_neg c1] at h
 have cb1 : (e == -1) = false:=by simpa using c1
 obtain ⟨⟨pe,qe⟩,⟨pa,qa⟩,⟨pb,qb⟩⟩:=HX.o.resolve_left (fun h=>c1 (by injection h))
 have hp0 : 0 < s.nd.length:=by omega
 obtain ⟨bn,_,e_,-⟩:=fe' HS.o.rn hp0
 injection e_ with e_ e2_ e3_
 clear e2_ e3_
 subst e_
 obtain ⟨bl,_,e_,-⟩:=fe' HS.o.rl (by show 0 < lb.length;have:=HL.o;omega)
 injection e_ with e_ e2_ e3_
 clear e2_ e3_
 subst e_
 obtain ⟨ba,_,e_,-⟩:=fe' HS.o.ra (by show 0 < ah.length;have:=HL.o;omega)
 injection e_ with e_ e2_ e3_
 clear e2_ e3_
 subst e_
 obtain ⟨bb,_,e_,-⟩:=fe' HS.o.rb (by show 0 < bk.length;have:=HL.o;omega)
 injection e_ with e_ e2_ e3_
 clear e2_ e3_
 subst e_
 clear hp0
 have pbb:=eq_true pb
 have qbb:=eq_true qb
 have qbl : b < (lb.length : Int):=by have:=HL.o.1;omega
 have qba : b < (ah.length : Int):=by have:=HL.o.2.1;omega
 have qbk : b < (bk.length : Int):=by have:=HL.o.2.2;omega
 clear c1
 by_cases c2 : rd lb b = 1
 ·rw [if_pos c2] at h
  obtain ⟨rfl,rfl,rfl,rfl⟩ : (e,a,b) = r ∧ lb = lb' ∧ ah = ah' ∧ bk = bk':=by simpa using h
  have cb2 : (rd lb b == 1) = true:=by simpa using c2
  clear h c2
  go_wp2_with (first|(go_at_call 83;refine HFW.o.mono ?_;rintro e_ w2 ⟨rfl,hb⟩;have HS2:=qz.mk (HS.o.to hb);have hc:=HS2.o.cells;obtain ⟨xl,fl⟩:=Gd' HS2.o.rl b pb qbl;clear hb))
  go_ret3
  exact ⟨rfl,HL.o,HS2.o⟩
 rw [if_neg c2] at h
 have cb2 : (rd lb b == 1) = false:=by simpa using c2
 clear c2
 by_cases c3 : inR (td' s.nd b).f3 es.length
 ·rw [if_pos c3] at h
  have HT:=qz.mk h
  have HM:=qz.mk c3
  clear h c3
  go_wp2_with (first|(go_at_call 83;refine HFW.o.mono ?_;rintro e_ w2 ⟨rfl,hb⟩;have HS2:=qz.mk (HS.o.to hb);have hc:=HS2.o.cells;obtain ⟨xl,fl⟩:=Gd' HS2.o.rl b pb qbl;clear hb))
  have HG1:=qz.mk (HS2.o.sl b (2))
  have HG2:=qz.mk (HG1.o.sa b (a))
  have HG3:=qz.mk (HG2.o.sb b (e))
  obtain ⟨gx1,gf1⟩:=Gd' HS2.o.rl b pb qbl
  obtain ⟨gx2,gf2⟩:=Gd' HG1.o.ra b pb qba
  obtain ⟨gx3,gf3⟩:=Gd' HG2.o.rb b pb qbk
  refine Md' (n:=23) (S:=fun w'=>w'.cell? ⟨g,4,none⟩ = some (.slice (some ⟨bl,0,none⟩) s.nd.length cl) ∧ w'.cell? ⟨g,5,none⟩ = some (.slice (some ⟨ba,0,none⟩) s.nd.length ca) ∧ w'.cell? ⟨g,6,none⟩ = some (.slice (some ⟨bb,0,none⟩) s.nd.length cb)) (ds:=[22]) (Array.replicate 23 false) da' rfl rfl ⟨HS2.o.cells.2.2.2.2.1,HS2.o.cells.2.2.2.2.2.1,HS2.o.cells.2.2.2.2.2.2.1⟩ (fun hHeld=>?_)
  refine pa_ 0 31 (bz_ 23 1) ?_
  refine pa_ 1 32 (bz_ 23 3) ?_
  refine pa_ 2 33 (bz_ 23 7) ?_
  refine pa_ 4 35 (bz_ 23 23) ?_
  refine pa_ 5 36 (bz_ 23 55) ?_
  refine pa_ 6 37 (bz_ 23 119) ?_
  refine pa_ 7 38 (bz_ 23 247) ?_
  refine pa_ 9 40 (bz_ 23 759) ?_
  refine pa_ 10 41 (bz_ 23 1783) ?_
  refine pa_ 11 42 (bz_ 23 3831) ?_
  refine pa_ 12 43 (bz_ 23 7927) ?_
  refine pa_ 14 45 (bz_ 23 24311) ?_
  refine pa_ 15 46 (bz_ 23 57079) ?_
  refine pa_ 16 47 (bz_ 23 122615) ?_
  refine ta_ 3 34 (bz_ 23 122623) hHeld (hy:=Or.inl ⟨ca',ra'⟩) (h:=?_)
  refine ta_ 8 39 (bz_ 23 122879) hHeld (hy:=Or.inl ⟨ca',ra'⟩) (h:=?_)
  refine ta_ 13 44 (bz_ 23 131071) hHeld (hy:=Or.inl ⟨ca',ra'⟩) (h:=?_)
  refine pa_ 17 48 (bz_ 23 262143) ?_
  refine Td' (i:=18) (N:=none) (bz_ 23 524287) rfl rfl da' ba' (fun K hK=>?_)
  refine Id' (w1:=?_) ca' rfl ?_ ?_
  rotate_left
  ·go_simp
   rfl
  refine hK.out _ _ ⟨HG1.o.cells.2.2.2.2.1,HG1.o.cells.2.2.2.2.2.1,HG1.o.cells.2.2.2.2.2.2.1⟩ (fun hHeld=>?_)
  clear hK K
  refine pa_ 19 49 (bz_ 23 1048575) ?_
  refine Td' (i:=20) (N:=none) (bz_ 23 2097151) rfl rfl da' ba' (fun K hK=>?_)
  refine Id' (w1:=?_) ca' rfl ?_ ?_
  rotate_left
  ·go_simp
   rfl
  refine hK.out _ _ ⟨HG2.o.cells.2.2.2.2.1,HG2.o.cells.2.2.2.2.2.1,HG2.o.cells.2.2.2.2.2.2.1⟩ (fun hHeld=>?_)
  clear hK K
  refine pa_ 21 50 (bz_ 23 4194303) ?_
  refine de' (i:=22) (N:=none) (bz_ 23 8388607) rfl rfl da' ba' (fun K hK=>?_)
  refine Id' (w1:=?_) ca' rfl ?_ ?_
  rotate_left
  ·go_simp
   rfl
  refine hK.out _ _ ?_
  clear hK K
  refine Wd' da' ?_
  replace HG3:=qz.mk (HG3.o.to (qh (Below.refl _ _)))
  clear gx1 gf1 gx2 gf2 gx3 gf3 hc HG1 HG2 HS2
  generalize (((w2.setCell _ _).setCell _ _).setCell _ _).drew = w3 at HG3 ⊢
  have HS3:=HG3
  clear HG3
  have hc:=HS3.o.cells
  clear xl fl
  obtain ⟨A0n,c0n,A1n,c1n,nx0,nx1,nx2,nx3,nx4,nx5,nx6,nf2,nf3,nf5,nf6,-⟩:=HS3.o.node_at b pb qb
  have hC:=dp' HW.o HE.o HM.o b
  have HOC:=qz.mk (Jn' HS3.o HW.o HE.o (td' s.nd b).f3 b HM.o)
  go_wp2_with (first|(go_at_call 84;refine HOC.o.mono ?_;rintro e_ w4 ⟨rfl,m,rfl⟩))
  clear HOC
  change qz (Lh' s.y s.nd es k1 ((lb.set b.toNat 2).set (ze' s.nd es (td' s.nd b).f3 b).toNat 1) ((ah.set b.toNat a).set (ze' s.nd es (td' s.nd b).f3 b).toNat b) ((bk.set b.toNat e).set (ze' s.nd es (td' s.nd b).f3 b).toNat (td' s.nd b).f3) = some (r,lb',ah',bk')) at HT
  generalize ze' s.nd es (td' s.nd b).f3 b = c at hC HT ⊢
  have HS4:=qz.mk (HS3.o.to (qd (Below.refl _ _) m))
  clear nx0 nx1 nx2 nx3 nx4 nx5 nx6 nf2 nf3 nf5 nf6 hc HS3
  generalize w3.drewN m = w4 at HS4 ⊢
  have hc:=HS4.o.cells
  obtain ⟨pc,qc⟩:=hC
  have pcb:=eq_true pc
  have qcb:=eq_true qc
  have qcl : c < ((lb.set b.toNat 2).length : Int):=by rw [List.length_set,HL.o.1];exact qc
  have qca : c < ((ah.set b.toNat a).length : Int):=by rw [List.length_set,HL.o.2.1];exact qc
  have qck : c < ((bk.set b.toNat e).length : Int):=by rw [List.length_set,HL.o.2.2];exact qc
  have HG1:=qz.mk (HS4.o.sl c (1))
  have HG2:=qz.mk (HG1.o.sa c (b))
  have HG3:=qz.mk (HG2.o.sb c ((td' s.nd b).f3))
  obtain ⟨gx1,gf1⟩:=Gd' HS4.o.rl c pc qcl
  obtain ⟨gx2,gf2⟩:=Gd' HG1.o.ra c pc qca
  obtain ⟨gx3,gf3⟩:=Gd' HG2.o.rb c pc qck
  refine Md' (n:=23) (S:=fun w'=>w'.cell? ⟨g,4,none⟩ = some (.slice (some ⟨bl,0,none⟩) s.nd.length cl) ∧ w'.cell? ⟨g,5,none⟩ = some (.slice (some ⟨ba,0,none⟩) s.nd.length ca) ∧ w'.cell? ⟨g,6,none⟩ = some (.slice (some ⟨bb,0,none⟩) s.nd.length cb)) (ds:=[22]) (Array.replicate 23 false) da' rfl rfl ⟨HS4.o.cells.2.2.2.2.1,HS4.o.cells.2.2.2.2.2.1,HS4.o.cells.2.2.2.2.2.2.1⟩ (fun hHeld=>?_)
  refine pa_ 0 63 (bz_ 23 1) ?_
  refine pa_ 1 64 (bz_ 23 3) ?_
  refine pa_ 2 65 (bz_ 23 7) ?_
  refine pa_ 4 67 (bz_ 23 23) ?_
  refine pa_ 5 68 (bz_ 23 55) ?_
  refine pa_ 6 69 (bz_ 23 119) ?_
  refine pa_ 7 70 (bz_ 23 247) ?_
  refine pa_ 9 72 (bz_ 23 759) ?_
  refine pa_ 10 73 (bz_ 23 1783) ?_
  refine pa_ 11 74 (bz_ 23 3831) ?_
  refine pa_ 12 75 (bz_ 23 7927) ?_
  refine pa_ 14 77 (bz_ 23 24311) ?_
  refine pa_ 15 78 (bz_ 23 57079) ?_
  refine pa_ 16 79 (bz_ 23 122615) ?_
  refine ta_ 3 66 (bz_ 23 122623) hHeld (hy:=Or.inl ⟨ca',ra'⟩) (h:=?_)
  refine ta_ 8 71 (bz_ 23 122879) hHeld (hy:=Or.inl ⟨ca',ra'⟩) (h:=?_)
  refine ta_ 13 76 (bz_ 23 131071) hHeld (hy:=Or.inl ⟨ca',ra'⟩) (h:=?_)
  refine pa_ 17 80 (bz_ 23 262143) ?_
  refine Td' (i:=18) (N:=none) (bz_ 23 524287) rfl rfl da' ba' (fun K hK=>?_)
  refine Id' (w1:=?_) ca' rfl ?_ ?_
  rotate_left
  ·go_simp
   rfl
  refine hK.out _ _ ⟨HG1.o.cells.2.2.2.2.1,HG1.o.cells.2.2.2.2.2.1,HG1.o.cells.2.2.2.2.2.2.1⟩ (fun hHeld=>?_)
  clear hK K
  refine pa_ 19 81 (bz_ 23 1048575) ?_
  refine Td' (i:=20) (N:=none) (bz_ 23 2097151) rfl rfl da' ba' (fun K hK=>?_)
  refine Id' (w1:=?_) ca' rfl ?_ ?_
  rotate_left
  ·go_simp
   rfl
  refine hK.out _ _ ⟨HG2.o.cells.2.2.2.2.1,HG2.o.cells.2.2.2.2.2.1,HG2.o.cells.2.2.2.2.2.2.1⟩ (fun hHeld=>?_)
  clear hK K
  refine pa_ 21 82 (bz_ 23 4194303) ?_
  refine de' (i:=22) (N:=none) (bz_ 23 8388607) rfl rfl da' ba' (fun K hK=>?_)
  refine Id' (w1:=?_) ca' rfl ?_ ?_
  rotate_left
  ·go_simp
   rfl
  refine hK.out _ _ ?_
  clear hK K
  refine Wd' da' ?_
  replace HG3:=qz.mk (HG3.o.to (qh (Below.refl _ _)))
  clear gx1 gf1 gx2 gf2 gx3 gf3 hc HG1 HG2 HS4
  generalize (((w4.setCell _ _).setCell _ _).setCell _ _).drew = w5 at HG3 ⊢
  have HS5:=HG3
  clear HG3
  have hc:=HS5.o.cells
  go_wp2_with fail
  go_roundg k1
  case measure=>omega
  case rel=>exact ⟨_,_,_,HT,⟨by rw [List.length_set,List.length_set];exact HL.o.1,by rw [List.length_set,List.length_set];exact HL.o.2.1,by rw [List.length_set,List.length_set];exact HL.o.2.2⟩,HS5⟩
 rw [if_neg c3] at h
 cases h
structure UOk (es : List (S73)) (nd : List (S89)) (n : Int) : Prop where
 mate : (td' nd n).f3 = -1 ∨ inR (td' nd n).f3 es.length
 hold : ue' nd es n = -1 ∨ inR (ue' nd es n) nd.length
 mem : ∀ m ∈ (td' nd n).f0,inR m nd.length
 pos : 0 < (td' nd n).f0.length
 lk : (td' nd n).f0.length ≤ (td' nd n).f1.length
 sz : (td' nd n).f0.length ≤ 1000000
def Zd' (nd : List (S89)) (lb : List Int) (label : Int) : Nat → Int → Int
 | 0,_=>-1
 | k + 1,i=>if i < (nd.length : Int) then if Dd' (td' nd i) = true ∧ (td' nd i).f5 = 0 ∧ (label = 0 ∨ rd lb i = label) then i else Zd' nd lb label k (i + 1) else -1
theorem pj' {nd : List (S89)} {lb : List Int} {label : Int} : ∀ (k : Nat) (i : Int),0 ≤ i → Zd' nd lb label k i = -1 ∨ inR (Zd' nd lb label k i) nd.length
 | 0,_,_=>.inl rfl
 | k + 1,i,hi=>by
  rw [Zd']
  split
  ·rename_i c
   split
   ·exact .inr ⟨hi,c⟩
   exact pj' k (i + 1) aa'
  exact .inl rfl
theorem Dg' {w0 W : World} {g : Nat} {N : Int} {Ae : Option Addr} {ce : Nat} {es : List (S73)} {col : Nat → Nat} {vy vn vl va vb : Value} {s : SI} (hS : Sol w0 W g N Ae ce es col vy vn vl va vb s) (hw : WFn s.nd) (ho : EOk es s.nd.length) (hN : 0 ≤ N ∧ N ≤ s.nd.length) (hl : s.lb.length = s.nd.length) (hsz : s.nd.length ≤ 1000000) (label r : Int)
  (h : Zd' s.nd s.lb label (s.nd.length + 1) N = r) (hU : r ≠ -1 → UOk es s.nd r) :
  Calls Tryz.prog 70 #[.pointer (some ⟨g,0,none⟩),.int .i64 label] W fun e w'=>(r = -1 ∧ e = .returned (.bool false) ∧ w' = W) ∨ (r ≠ -1 ∧ e = .returned (.bool true) ∧ Sol w0 w' g N Ae ce es col vy vn vl va vb { s with nd:=Ed' es s.nd r }):=by
 have hu87:=Tryz.underlying87
 have hu89:=Tryz.underlying89
 have hu73:=Tryz.underlying73
 have hu35:=Tryz.underlying35
 have HS:=qz.mk hS
 clear hS
 obtain ⟨An,cn,e_⟩:=Kd.R_slice HS.o.rn
 subst e_
 obtain ⟨Al,cl,e_⟩:=Kd.R_slice HS.o.rl
 rw [hl] at e_
 subst e_
 have HW:=qz.mk hw
 have HE:=qz.mk ho
 have HT:=qz.mk h
 have HL:=qz.mk hl
 have H0:=qz.mk hsz
 have HNN:=qz.mk hN
 have HUU:=qz.mk hU
 have hc:=HS.o.cells
 clear hw ho hN hl h hsz hU
 go_enter Tryz.func70,Tryz.ntmps70
 go_wp2_with fail
 go_loopg [5] (s.nd.length + 1) (fun kq v5 w'=>∃ i : Int,v5 = .int .i64 i ∧ qz (0 ≤ i ∧ s.nd.length + 1 ≤ i + kq ∧ i ≤ s.nd.length) ∧ qz (Zd' s.nd s.lb label kq i = r) ∧ W = w')
 case atStart=>exact ⟨N,rfl,⟨by have:=HNN.o;omega,by have:=HNN.o;omega,by have:=HNN.o;omega⟩,HT,rfl⟩
 clear HT
 obtain ⟨i,rfl,HI,HT,rfl⟩:=hrel
 cases gk with
 | zero =>
  exfalso
  have h1:=HI.o
  omega
 | succ k1 =>
  have h:=HT.o
  clear HT
  rw [Zd'] at h
  by_cases c : i < (s.nd.length : Int)
  ·rw [if_pos c] at h
   have hi0:=HI.o.1
   have HIN : qz (inR i s.nd.length):=⟨hi0,c⟩
   have cl0 : decide (i < (s.nd.length : Int)) = true:=decide_eq_true c
   have pi:=eq_true hi0
   have qi:=eq_true c
   have hp0 : 0 < s.nd.length:=by omega
   obtain ⟨bn,_,e_,-⟩:=fe' HS.o.rn hp0
   injection e_ with e_ e2_ e3_
   clear e2_ e3_
   subst e_
   obtain ⟨bl,_,e_,-⟩:=fe' HS.o.rl db'
   injection e_ with e_ e2_ e3_
   clear e2_ e3_
   subst e_
   clear hp0
   obtain ⟨A0n,c0n,A1n,c1n,nx0,nx1,nx2,nx3,nx4,nx5,nx6,nf2,nf3,nf5,nf6,-⟩:=HS.o.node_at i hi0 c
   obtain ⟨xl,fl⟩:=Gd' HS.o.rl i hi0 Sb'
   clear c
   cases ct1 : Dd' (td' s.nd i) with
   | false =>
    rw [if_neg (fun h=>by rw [ct1] at h;exact absurd h.1 ba')] at h
    have HT:=qz.mk h
    clear h
    go_wp2_with (first|(go_at_call 53;(with_reducible refine (me' HS.o i false HIN.o ct1).mono ?_);rintro e w7 ⟨rfl,h2⟩;replace h2:=h2.symm;subst h2))
    (go_roundg k1;(case measure=>omega);(case rel=>exact ⟨i + 1,gb',⟨fa',fa',ib'⟩,HT,rfl⟩))
   | true =>
    by_cases cz : (td' s.nd i).f5 = 0
    ·have cz1 : ((td' s.nd i).f5 == 0) = true:=by simpa using cz
     by_cases c1 : label = 0
     ·have cb1 : (label == 0) = true:=by simpa using c1
      rw [if_pos ⟨ct1,cz,.inl c1⟩] at h
      subst h
      have HU:=HUU.o aa'
      have HQ:=qz.mk (ei' HS.o HW.o HE.o i HIN.o HU.mate HU.hold HU.mem HU.pos HU.lk HU.sz)
      clear cz c1 HU
      go_wp2_with (first|(first|(go_at_call 53;(with_reducible refine (me' HS.o i true HIN.o ct1).mono ?_);rintro e w7 ⟨rfl,h2⟩;replace h2:=h2.symm;subst h2))|(go_at_call 54;refine HQ.o.mono ?_;rintro e w8 ⟨rfl,hs,-⟩;have HSF:=qz.mk hs;clear hs))
      go_ret
      exact .inr ⟨aa',rfl,HSF.o⟩
     have cb1 : (label == 0) = false:=by simpa using c1
     by_cases c2 : rd s.lb i = label
     ·have cb2 : (rd s.lb i == label) = true:=by simpa using c2
      rw [if_pos ⟨ct1,cz,.inr c2⟩] at h
      subst h
      have HU:=HUU.o aa'
      have HQ:=qz.mk (ei' HS.o HW.o HE.o i HIN.o HU.mate HU.hold HU.mem HU.pos HU.lk HU.sz)
      clear cz c1 c2 HU
      go_wp2_with (first|(first|(go_at_call 53;(with_reducible refine (me' HS.o i true HIN.o ct1).mono ?_);rintro e w7 ⟨rfl,h2⟩;replace h2:=h2.symm;subst h2))|(go_at_call 54;refine HQ.o.mono ?_;rintro e w8 ⟨rfl,hs,-⟩;have HSF:=qz.mk hs;clear hs))
      go_ret
      exact .inr ⟨aa',rfl,HSF.o⟩
     have cb2 : (rd s.lb i == label) = false:=by simpa using c2
     rw [if_neg (fun h=>h.2.2.elim c1 c2)] at h
     have HT:=qz.mk h
     clear h cz c1 c2
     go_wp2_with (first|(go_at_call 53;(with_reducible refine (me' HS.o i true HIN.o ct1).mono ?_);rintro e w7 ⟨rfl,h2⟩;replace h2:=h2.symm;subst h2))
     (go_roundg k1;(case measure=>omega);(case rel=>exact ⟨i + 1,gb',⟨fa',fa',ib'⟩,HT,rfl⟩))
    have cz1 : ((td' s.nd i).f5 == 0) = false:=by simpa using cz
    rw [if_neg (fun h=>cz h.2.1)] at h
    have HT:=qz.mk h
    clear h cz
    go_wp2_with (first|(go_at_call 53;(with_reducible refine (me' HS.o i true HIN.o ct1).mono ?_);rintro e w7 ⟨rfl,h2⟩;replace h2:=h2.symm;subst h2))
    (go_roundg k1;(case measure=>omega);(case rel=>exact ⟨i + 1,gb',⟨fa',fa',ib'⟩,HT,rfl⟩))
  rw [if_neg c] at h
  subst h
  have cl0 : decide (i < (s.nd.length : Int)) = false:=decide_eq_false c
  clear c
  go_wp2_with fail
  go_ret
  first|exact .inl ⟨rfl,rfl,rfl⟩|exact ⟨rfl,rfl⟩
end Go.Proofs.YtnffimpoekjkpaaGreat.QFnExactSolve
