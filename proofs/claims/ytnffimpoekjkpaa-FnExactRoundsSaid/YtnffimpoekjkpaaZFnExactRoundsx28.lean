/- The program's solver: grow. -/
import Derived.Test.YtnffimpoekjkpaaZFnExactRoundsx27
namespace Go.Proofs.Ytnffimpoekjkpaa.QFnExactRounds
open Go.RowKit Go.Proofs.YtnffimpoekjkpaaW.PrintWords Go.Proofs.YtnffimpoekjkpaaW.PrintLast Go.Proofs.YtnffimpoekjkpaaW.PrintMore
attribute [local go_sem] max2_int min2_int max_two min_two max_three min_three max_four min_four
set_option linter.unusedVariables false
set_option linter.unusedSimpArgs false
theorem foundF_in {y : List Int} {nd : List (S60)} {lb : List Int} {es : List (S51)} (hw : WFn nd) (ho : EOk es nd.length) : ∀ (k : Nat) (i : Int),0 ≤ i → foundF y nd lb es k i = (-1,-1,-1) ∨ (inR (foundF y nd lb es k i).1 es.length ∧ inR (foundF y nd lb es k i).2.1 nd.length ∧ inR (foundF y nd lb es k i).2.2 nd.length)
 | 0,_,_=>.inl rfl
 | k + 1,i,hi=>by
  rw [foundF]
  by_cases c : i < (es.length : Int)
  ·have hr : inR i es.length:=⟨hi,c⟩
   have ha:=topI_in hw (ho i hr).1
   have hb:=topI_in hw (ho i hr).2
   have IH:=foundF_in (y:=y) (lb:=lb) hw ho k (i + 1) (by omega)
   rw [if_pos c]
   split
   ·exact IH
   split
   ·exact IH
   split
   ·exact .inr ⟨hr,ha,hb⟩
   split
   ·exact .inr ⟨hr,hb,ha⟩
   exact IH
  rw [if_neg c]
  exact .inl rfl
def growF (y : List Int) (nd : List (S60)) (es : List (S51)) : Nat → List Int → List Int → List Int → Option ((Int × Int × Int) × List Int × List Int × List Int)
 | 0,_,_,_=>none
 | k + 1,lb,ah,bk =>
  let r:=foundI y nd lb es
  if r.1 = -1 then some (r,lb,ah,bk) else if rd lb r.2.2 = 1 then some (r,lb,ah,bk)
  else if inR (rd_T60 nd r.2.2).f3 es.length then
   growF y nd es k ((lb.set r.2.2.toNat 2).set (otherI nd es (rd_T60 nd r.2.2).f3 r.2.2).toNat 1) ((ah.set r.2.2.toNat r.2.1).set (otherI nd es (rd_T60 nd r.2.2).f3 r.2.2).toNat r.2.2) ((bk.set r.2.2.toNat r.1).set (otherI nd es (rd_T60 nd r.2.2).f3 r.2.2).toNat (rd_T60 nd r.2.2).f3)
  else none
theorem otherI_in {nd : List (S60)} {es : List (S51)} (hw : WFn nd) (ho : EOk es nd.length) {i : Int} (hi : inR i es.length) (n : Int) : inR (otherI nd es i n) nd.length:=by
 rw [otherI]
 split
 ·exact topI_in hw (ho i hi).2
 exact topI_in hw (ho i hi).1
set_option maxHeartbeats 8000000 in
set_option maxRecDepth 100000 in
theorem grow_calls {w0 W : World} {g : Nat} {N : Int} {Ae : Option Addr} {ce : Nat} {es : List (S51)} {col : Nat → Nat} {vy vn vl va vb : Value} {s : SI} (hS : Sol w0 W g N Ae ce es col vy vn vl va vb s) (hw : WFn s.nd) (ho : EOk es s.nd.length) (hoy : EOk es s.y.length) (hl : s.lb.length = s.nd.length ∧ s.ah.length = s.nd.length ∧ s.bk.length = s.nd.length)
  (k : Nat) (r : Int × Int × Int) (lb' ah' bk' : List Int) (h : growF s.y s.nd es k s.lb s.ah s.bk = some (r,lb',ah',bk')) :
  Calls Try.prog 32 #[.pointer (some ⟨g,0,none⟩)] W fun e w'=>e = .returned (.tuple #[.int .i64 r.1,.int .i64 r.2.1,.int .i64 r.2.2]) ∧ (lb'.length = s.nd.length ∧ ah'.length = s.nd.length ∧ bk'.length = s.nd.length) ∧ Sol w0 w' g N Ae ce es col vy vn vl va vb { s with lb:=lb',ah:=ah',bk:=bk' }:=by
 have hu47:=Try.underlying47
 have hu60:=Try.underlying60
 have hu51:=Try.underlying51
 have hu29:=Try.underlying29
 have HS:=qy.mk hS
 clear hS
 obtain ⟨An,cn,e_⟩:=Kd.R_slice HS.out.rn
 subst e_
 obtain ⟨Al,cl,e_⟩:=Kd.R_slice HS.out.rl
 rw [hl.1] at e_
 subst e_
 obtain ⟨Aa,ca,e_⟩:=Kd.R_slice HS.out.ra
 rw [hl.2.1] at e_
 subst e_
 obtain ⟨Ab,cb,e_⟩:=Kd.R_slice HS.out.rb
 rw [hl.2.2] at e_
 subst e_
 have HW:=qy.mk hw
 have HE:=qy.mk ho
 have HY:=qy.mk hoy
 have HT:=qy.mk h
 have HL:=qy.mk hl
 clear hw ho hoy h hl
 go_enter Try.func32,Try.ntmps32
 go_wp2_with fail
 go_loopg [5] k (fun kq v5 w'=>∃ (lb ah bk : List Int),qy (growF s.y s.nd es kq lb ah bk = some (r,lb',ah',bk')) ∧ qy (lb.length = s.nd.length ∧ ah.length = s.nd.length ∧ bk.length = s.nd.length) ∧ qy (Sol w0 w' g N Ae ce es col vy (.slice An s.nd.length cn) (.slice Al s.nd.length cl) (.slice Aa s.nd.length ca) (.slice Ab s.nd.length cb) { s with lb:=lb,ah:=ah,bk:=bk }))
 case atStart=>exact ⟨_,_,_,HT,HL,HS⟩
 clear HT HL HS
 obtain ⟨lb,ah,bk,HT,HL,HS⟩:=hrel
 have h:=HT.out
 clear HT
 obtain _|k1:=gk
 ·cases h
 rw [growF] at h
 have HX:=qy.mk (foundF_in (y:=s.y) (lb:=lb) HW.out HE.out (es.length + 1) 0 (Int.le_refl 0))
 have HFW:=qy.mk (found_calls HS.out HW.out HE.out HY.out HL.out.1)
 change qy (foundI s.y s.nd lb es = (-1,-1,-1) ∨ (inR (foundI s.y s.nd lb es).1 es.length ∧ inR (foundI s.y s.nd lb es).2.1 s.nd.length ∧ inR (foundI s.y s.nd lb es).2.2 s.nd.length)) at HX
 change qy (Calls Try.prog 51 #[.pointer (some ⟨g,0,none⟩)] wr fun e w'=>e = .returned (.tuple #[.int .i64 (foundI s.y s.nd lb es).1,.int .i64 (foundI s.y s.nd lb es).2.1,.int .i64 (foundI s.y s.nd lb es).2.2]) ∧ Below wr.heap.size wr w') at HFW
 generalize foundI s.y s.nd lb es = q at h HX HFW
 obtain ⟨e,a,b⟩:=q
 dsimp only at h HX HFW
 by_cases c1 : e = -1
 ·rw [if_pos c1] at h
  obtain ⟨rfl,rfl,rfl,rfl⟩ : (e,a,b) = r ∧ lb = lb' ∧ ah = ah' ∧ bk = bk':=by simpa using h
  have cb1 : (e == -1) = true:=by simpa using c1
  clear h c1
  go_wp2_with (first|(go_at_call 51;refine HFW.out.mono ?_;rintro e_ w2 ⟨rfl,hb⟩;have HS2:=qy.mk (HS.out.to hb);clear hb))
  go_ret3
  exact ⟨rfl,HL.out,HS2.out⟩
 rw [if_neg c1] at h
 have cb1 : (e == -1) = false:=by simpa using c1
 obtain ⟨⟨pe,qe⟩,⟨pa,qa⟩,⟨pb,qb⟩⟩:=HX.out.resolve_left (fun h=>c1 (by injection h))
 have hp0 : 0 < s.nd.length:=by omega
 obtain ⟨bn,_,e_,-⟩:=row_at HS.out.rn hp0
 injection e_ with e_ e2_ e3_
 clear e2_ e3_
 subst e_
 obtain ⟨bl,_,e_,-⟩:=row_at HS.out.rl (by show 0 < lb.length;have:=HL.out;omega)
 injection e_ with e_ e2_ e3_
 clear e2_ e3_
 subst e_
 obtain ⟨ba,_,e_,-⟩:=row_at HS.out.ra (by show 0 < ah.length;have:=HL.out;omega)
 injection e_ with e_ e2_ e3_
 clear e2_ e3_
 subst e_
 obtain ⟨bb,_,e_,-⟩:=row_at HS.out.rb (by show 0 < bk.length;have:=HL.out;omega)
 injection e_ with e_ e2_ e3_
 clear e2_ e3_
 subst e_
 clear hp0
 have pbb:=eq_true pb
 have qbb:=eq_true qb
 have qbl : b < (lb.length : Int):=by have:=HL.out.1;omega
 have qba : b < (ah.length : Int):=by have:=HL.out.2.1;omega
 have qbk : b < (bk.length : Int):=by have:=HL.out.2.2;omega
 clear c1
 by_cases c2 : rd lb b = 1
 ·rw [if_pos c2] at h
  obtain ⟨rfl,rfl,rfl,rfl⟩ : (e,a,b) = r ∧ lb = lb' ∧ ah = ah' ∧ bk = bk':=by simpa using h
  have cb2 : (rd lb b == 1) = true:=by simpa using c2
  clear h c2
  go_wp2_with (first|(go_at_call 51;refine HFW.out.mono ?_;rintro e_ w2 ⟨rfl,hb⟩;have HS2:=qy.mk (HS.out.to hb);have hc:=HS2.out.cells;obtain ⟨xl,fl⟩:=int_at HS2.out.rl b pb qbl;clear hb))
  go_ret3
  exact ⟨rfl,HL.out,HS2.out⟩
 rw [if_neg c2] at h
 have cb2 : (rd lb b == 1) = false:=by simpa using c2
 clear c2
 by_cases c3 : inR (rd_T60 s.nd b).f3 es.length
 ·rw [if_pos c3] at h
  have HT:=qy.mk h
  have HM:=qy.mk c3
  clear h c3
  go_wp2_with (first|(go_at_call 51;refine HFW.out.mono ?_;rintro e_ w2 ⟨rfl,hb⟩;have HS2:=qy.mk (HS.out.to hb);have hc:=HS2.out.cells;obtain ⟨xl,fl⟩:=int_at HS2.out.rl b pb qbl;clear hb))
  have HG1:=qy.mk (HS2.out.sl b (2))
  have HG2:=qy.mk (HG1.out.sa b (a))
  have HG3:=qy.mk (HG2.out.sb b (e))
  obtain ⟨gx1,gf1⟩:=int_at HS2.out.rl b pb qbl
  obtain ⟨gx2,gf2⟩:=int_at HG1.out.ra b pb qba
  obtain ⟨gx3,gf3⟩:=int_at HG2.out.rb b pb qbk
  refine start_ (n:=23) (S:=fun w'=>w'.cell? ⟨g,4,none⟩ = some (.slice (some ⟨bl,0,none⟩) s.nd.length cl) ∧ w'.cell? ⟨g,5,none⟩ = some (.slice (some ⟨ba,0,none⟩) s.nd.length ca) ∧ w'.cell? ⟨g,6,none⟩ = some (.slice (some ⟨bb,0,none⟩) s.nd.length cb)) (ds:=[22]) (Array.replicate 23 false) (by kernel_rfl) rfl rfl ⟨HS2.out.cells.2.2.2.2.1,HS2.out.cells.2.2.2.2.2.1,HS2.out.cells.2.2.2.2.2.2.1⟩ (fun hHeld=>?_)
  refine pa_ 0 31 (bz_ 23 1) ?_
  refine pa_ 1 32 (bz_ 23 3) ?_
  refine pa_ 2 33 (bz_ 23 7) ?_
  refine pa_ 4 35 (bz_ 23 23) ?_
  refine pa_ 5 36 (bz_ 23 55) ?_
  refine pa_ 6 37 (bz_ 23 119) ?_
  refine pa_ 7 38 (bz_ 23 247) ?_
  refine pa_ 9 40 (bz_ 23 759) ?_
  refine pa_ 10 41 (bz_ 23 1783) ?_
  refine pa_ 11 42 (bz_ 23 3831) ?_
  refine pa_ 12 43 (bz_ 23 7927) ?_
  refine pa_ 14 45 (bz_ 23 24311) ?_
  refine pa_ 15 46 (bz_ 23 57079) ?_
  refine pa_ 16 47 (bz_ 23 122615) ?_
  refine ta_ 3 34 (bz_ 23 122623) hHeld (hy:=Or.inl ⟨by rfl,by rintro w' ⟨s0,s1,s2⟩;go_simp;with_reducible rfl⟩) (h:=?_)
  refine ta_ 8 39 (bz_ 23 122879) hHeld (hy:=Or.inl ⟨by rfl,by rintro w' ⟨s0,s1,s2⟩;go_simp;with_reducible rfl⟩) (h:=?_)
  refine ta_ 13 44 (bz_ 23 131071) hHeld (hy:=Or.inl ⟨by rfl,by rintro w' ⟨s0,s1,s2⟩;go_simp;with_reducible rfl⟩) (h:=?_)
  refine pa_ 17 48 (bz_ 23 262143) ?_
  refine one_ (i:=18) (N:=none) (bz_ 23 524287) rfl rfl (by kernel_rfl) (by decide) (fun K hK=>?_)
  refine skip_ (w1:=?_) (by rfl) rfl ?_ ?_
  rotate_left
  ·go_simp
   rfl
  refine hK.out _ _ ⟨HG1.out.cells.2.2.2.2.1,HG1.out.cells.2.2.2.2.2.1,HG1.out.cells.2.2.2.2.2.2.1⟩ (fun hHeld=>?_)
  clear hK K
  refine pa_ 19 49 (bz_ 23 1048575) ?_
  refine one_ (i:=20) (N:=none) (bz_ 23 2097151) rfl rfl (by kernel_rfl) (by decide) (fun K hK=>?_)
  refine skip_ (w1:=?_) (by rfl) rfl ?_ ?_
  rotate_left
  ·go_simp
   rfl
  refine hK.out _ _ ⟨HG2.out.cells.2.2.2.2.1,HG2.out.cells.2.2.2.2.2.1,HG2.out.cells.2.2.2.2.2.2.1⟩ (fun hHeld=>?_)
  clear hK K
  refine pa_ 21 50 (bz_ 23 4194303) ?_
  refine last_ (i:=22) (N:=none) (bz_ 23 8388607) rfl rfl (by kernel_rfl) (by decide) (fun K hK=>?_)
  refine skip_ (w1:=?_) (by rfl) rfl ?_ ?_
  rotate_left
  ·go_simp
   rfl
  refine hK.out _ _ ?_
  clear hK K
  refine done_ (by kernel_rfl) ?_
  replace HG3:=qy.mk (HG3.out.to (qh (Below.refl _ _)))
  clear gx1 gf1 gx2 gf2 gx3 gf3 hc HG1 HG2 HS2
  generalize (((w2.setCell _ _).setCell _ _).setCell _ _).drew = w3 at HG3 ⊢
  have HS3:=HG3
  clear HG3
  have hc:=HS3.out.cells
  clear xl fl
  obtain ⟨A0n,c0n,A1n,c1n,nx0,nx1,nx2,nx3,nx4,nx5,nx6,nf2,nf3,nf5,nf6,-⟩:=HS3.out.node_at b pb qb
  have hC:=otherI_in HW.out HE.out HM.out b
  have HOC:=qy.mk (other_calls HS3.out HW.out HE.out (rd_T60 s.nd b).f3 b HM.out)
  go_wp2_with (first|(go_at_call 52;refine HOC.out.mono ?_;rintro e_ w4 ⟨rfl,m,rfl⟩))
  clear HOC
  change qy (growF s.y s.nd es k1 ((lb.set b.toNat 2).set (otherI s.nd es (rd_T60 s.nd b).f3 b).toNat 1) ((ah.set b.toNat a).set (otherI s.nd es (rd_T60 s.nd b).f3 b).toNat b) ((bk.set b.toNat e).set (otherI s.nd es (rd_T60 s.nd b).f3 b).toNat (rd_T60 s.nd b).f3) = some (r,lb',ah',bk')) at HT
  generalize otherI s.nd es (rd_T60 s.nd b).f3 b = c at hC HT ⊢
  have HS4:=qy.mk (HS3.out.to (qd (Below.refl _ _) m))
  clear nx0 nx1 nx2 nx3 nx4 nx5 nx6 nf2 nf3 nf5 nf6 hc HS3
  generalize w3.drewN m = w4 at HS4 ⊢
  have hc:=HS4.out.cells
  obtain ⟨pc,qc⟩:=hC
  have pcb:=eq_true pc
  have qcb:=eq_true qc
  have qcl : c < ((lb.set b.toNat 2).length : Int):=by rw [List.length_set,HL.out.1];exact qc
  have qca : c < ((ah.set b.toNat a).length : Int):=by rw [List.length_set,HL.out.2.1];exact qc
  have qck : c < ((bk.set b.toNat e).length : Int):=by rw [List.length_set,HL.out.2.2];exact qc
  have HG1:=qy.mk (HS4.out.sl c (1))
  have HG2:=qy.mk (HG1.out.sa c (b))
  have HG3:=qy.mk (HG2.out.sb c ((rd_T60 s.nd b).f3))
  obtain ⟨gx1,gf1⟩:=int_at HS4.out.rl c pc qcl
  obtain ⟨gx2,gf2⟩:=int_at HG1.out.ra c pc qca
  obtain ⟨gx3,gf3⟩:=int_at HG2.out.rb c pc qck
  refine start_ (n:=23) (S:=fun w'=>w'.cell? ⟨g,4,none⟩ = some (.slice (some ⟨bl,0,none⟩) s.nd.length cl) ∧ w'.cell? ⟨g,5,none⟩ = some (.slice (some ⟨ba,0,none⟩) s.nd.length ca) ∧ w'.cell? ⟨g,6,none⟩ = some (.slice (some ⟨bb,0,none⟩) s.nd.length cb)) (ds:=[22]) (Array.replicate 23 false) (by kernel_rfl) rfl rfl ⟨HS4.out.cells.2.2.2.2.1,HS4.out.cells.2.2.2.2.2.1,HS4.out.cells.2.2.2.2.2.2.1⟩ (fun hHeld=>?_)
  refine pa_ 0 63 (bz_ 23 1) ?_
  refine pa_ 1 64 (bz_ 23 3) ?_
  refine pa_ 2 65 (bz_ 23 7) ?_
  refine pa_ 4 67 (bz_ 23 23) ?_
  refine pa_ 5 68 (bz_ 23 55) ?_
  refine pa_ 6 69 (bz_ 23 119) ?_
  refine pa_ 7 70 (bz_ 23 247) ?_
  refine pa_ 9 72 (bz_ 23 759) ?_
  refine pa_ 10 73 (bz_ 23 1783) ?_
  refine pa_ 11 74 (bz_ 23 3831) ?_
  refine pa_ 12 75 (bz_ 23 7927) ?_
  refine pa_ 14 77 (bz_ 23 24311) ?_
  refine pa_ 15 78 (bz_ 23 57079) ?_
  refine pa_ 16 79 (bz_ 23 122615) ?_
  refine ta_ 3 66 (bz_ 23 122623) hHeld (hy:=Or.inl ⟨by rfl,by rintro w' ⟨s0,s1,s2⟩;go_simp;with_reducible rfl⟩) (h:=?_)
  refine ta_ 8 71 (bz_ 23 122879) hHeld (hy:=Or.inl ⟨by rfl,by rintro w' ⟨s0,s1,s2⟩;go_simp;with_reducible rfl⟩) (h:=?_)
  refine ta_ 13 76 (bz_ 23 131071) hHeld (hy:=Or.inl ⟨by rfl,by rintro w' ⟨s0,s1,s2⟩;go_simp;with_reducible rfl⟩) (h:=?_)
  refine pa_ 17 80 (bz_ 23 262143) ?_
  refine one_ (i:=18) (N:=none) (bz_ 23 524287) rfl rfl (by kernel_rfl) (by decide) (fun K hK=>?_)
  refine skip_ (w1:=?_) (by rfl) rfl ?_ ?_
  rotate_left
  ·go_simp
   rfl
  refine hK.out _ _ ⟨HG1.out.cells.2.2.2.2.1,HG1.out.cells.2.2.2.2.2.1,HG1.out.cells.2.2.2.2.2.2.1⟩ (fun hHeld=>?_)
  clear hK K
  refine pa_ 19 81 (bz_ 23 1048575) ?_
  refine one_ (i:=20) (N:=none) (bz_ 23 2097151) rfl rfl (by kernel_rfl) (by decide) (fun K hK=>?_)
  refine skip_ (w1:=?_) (by rfl) rfl ?_ ?_
  rotate_left
  ·go_simp
   rfl
  refine hK.out _ _ ⟨HG2.out.cells.2.2.2.2.1,HG2.out.cells.2.2.2.2.2.1,HG2.out.cells.2.2.2.2.2.2.1⟩ (fun hHeld=>?_)
  clear hK K
  refine pa_ 21 82 (bz_ 23 4194303) ?_
  refine last_ (i:=22) (N:=none) (bz_ 23 8388607) rfl rfl (by kernel_rfl) (by decide) (fun K hK=>?_)
  refine skip_ (w1:=?_) (by rfl) rfl ?_ ?_
  rotate_left
  ·go_simp
   rfl
  refine hK.out _ _ ?_
  clear hK K
  refine done_ (by kernel_rfl) ?_
  replace HG3:=qy.mk (HG3.out.to (qh (Below.refl _ _)))
  clear gx1 gf1 gx2 gf2 gx3 gf3 hc HG1 HG2 HS4
  generalize (((w4.setCell _ _).setCell _ _).setCell _ _).drew = w5 at HG3 ⊢
  have HS5:=HG3
  clear HG3
  have hc:=HS5.out.cells
  go_wp2_with fail
  go_roundg k1
  case measure=>omega
  case rel=>exact ⟨_,_,_,HT,⟨by rw [List.length_set,List.length_set];exact HL.out.1,by rw [List.length_set,List.length_set];exact HL.out.2.1,by rw [List.length_set,List.length_set];exact HL.out.2.2⟩,HS5⟩
 rw [if_neg c3] at h
 cases h
end Go.Proofs.Ytnffimpoekjkpaa.QFnExactRounds
