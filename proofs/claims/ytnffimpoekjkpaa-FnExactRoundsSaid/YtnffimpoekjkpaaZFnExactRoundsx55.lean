/- The reference's solver: l10Without. -/
import Derived.Test.YtnffimpoekjkpaaZFnExactRoundsx54
namespace Go.Proofs.Ytnffimpoekjkpaa.QFnExactRounds
open Go.RowKit Go.Proofs.YtnffimpoekjkpaaW.PrintWords Go.Proofs.YtnffimpoekjkpaaW.PrintLast Go.Proofs.YtnffimpoekjkpaaW.PrintMore
attribute [local go_sem] max2_int min2_int max_two min_two max_three min_three max_four min_four
set_option linter.unusedVariables false
set_option linter.unusedSimpArgs false
theorem info77 : (Try.prog.info? 77).map (fun i=>(i.zero,i.size,i.bytes)) = some (some (.agg #[.int .i64 0,.int .i64 0]),2,16):=by kernel_rfl
theorem info55 : (Try.prog.info? 55).map (fun i=>(i.zero,i.size,i.bytes)) = some (some (.agg #[.slice none 0 0,.slice none 0 0,.int .i64 0,.int .i64 0,.int .i64 0,.bool false]),6,80):=by kernel_rfl
/-- The mate links that touch a top left out. -/
def withF (nd : List S60) (t : Int) : List S77 → List S77
 | []=>[]
 | x :: l=>if topI nd x.f0 ≠ t ∧ topI nd x.f1 ≠ t then x :: withF nd t l else withF nd t l
set_option maxHeartbeats 8000000 in
set_option maxRecDepth 100000 in
theorem l10Without_calls {w0 W : World} {Z : Nat → Prop} {wz : World} {g : Nat} {N : Int} {Ae : Option Addr} {ce : Nat} {es : List (S51)} {col : Nat → Nat} {vy vn vm : Value} {s : RI} (hS : Rn w0 W Z wz g N Ae ce es col vy vn vm s) (hw : WFn (cvs s.nd)) (t : Int) (hm : ∀ x ∈ s.mt,inR x.f0 s.nd.length ∧ inR x.f1 s.nd.length) (hsz : s.mt.length ≤ 1000000) :
  Calls Try.prog 49 #[.pointer (some ⟨g,0,none⟩),.int .i64 t] W fun e w'=>e = .returned (.tuple #[]) ∧ ∃ col' vm',Rn w0 w' Z wz g N Ae ce es col' vy vn vm' { s with mt:=withF (cvs s.nd) t s.mt } ∧ ∀ k,k < W.heap.size → col' k = col k:=by
 have hu39:=Try.underlying39
 have hu55:=Try.underlying55
 have hu77:=Try.underlying77
 have hu51:=Try.underlying51
 have hu29:=Try.underlying29
 have HS:=qy.mk hS
 clear hS
 have hu37:=Try.underlying37
 have HW:=qy.mk hw
 have HM:=qy.mk hm
 have HSZ:=qy.mk hsz
 clear hw hm hsz
 obtain ⟨Am,cm,e_⟩:=Kd.R_slice HS.out.rm
 subst e_
 go_enter Try.func49,Try.ntmps49
 go_upto_region 1 with fail
 have BX1 : qy ((W.alloc (.cells #[] 77)).heap[W.heap.size]? = some (.cells #[] 77 (0,0))):=⟨blk_new W _⟩
 have HB1 : qy (Below W.heap.size W (W.alloc (.cells #[] 77))):=⟨qo (Below.refl _ _) _⟩
 generalize W.alloc (.cells #[] 77) = W1 at *
 have HR0 : qy (Kd.R k77 77 W1 W.heap.size (fun _=>True) (.slice (some ⟨W.heap.size,0,none⟩) 0 0) []):=⟨nil_R k77 (Nat.le_refl _) BX1.out trivial⟩
 clear BX1
 have hc:=(HS.out.to HB1.out).cells
 go_wp2_with fail
 go_loopg [4,5] (s.mt.length + 1) (fun kq v4 v5 w'=>∃ (i : Int) (acc : List S77),v5 = .int .i64 i ∧ qy (Kd.R k77 77 w' W.heap.size (fun _=>True) v4 acc) ∧ qy (0 ≤ i ∧ i + kq = s.mt.length + 1 ∧ i ≤ s.mt.length) ∧ qy (acc ++ withF (cvs s.nd) t (s.mt.drop i.toNat) = withF (cvs s.nd) t s.mt ∧ (acc.length : Int) ≤ i) ∧ qy (Below W.heap.size W w'))
 case atStart=>exact ⟨0,[],rfl,HR0,⟨by omega,by omega,by omega⟩,⟨rfl,by simp⟩,HB1⟩
 clear HR0 HB1 hc
 obtain ⟨i,acc,rfl,HO,HI,HL,HB2⟩:=hrel
 have HS3:=qy.mk (HS.out.to HB2.out)
 have hc:=HS3.out.cells
 have h:=HL.out.1
 cases gk with
 | zero =>
  exfalso
  have h1:=HI.out
  omega
 | succ k1 =>
  by_cases c : i < (s.mt.length : Int)
  ·have hi:=HI.out
   rw [drop_rd77 _ _ hi.1 c,withF] at h
   have cl0 : decide (i < (s.mt.length : Int)) = true:=decide_eq_true c
   have HIL:=qy.mk c
   have hi1 : wrap64 (i + 1) = i + 1:=w64 (by omega) (by have:=HSZ.out;omega)
   obtain ⟨ad,e_,hx0,hx1⟩:=at_T77 (Kd.R_reads' HS3.out.rm).2.2 i hi.1 c
   subst e_
   obtain ⟨m0,m1⟩:=HM.out _ (rd77_mem s.mt i hi.1 c)
   have HX:=qy.mk (And.intro m0 m1)
   obtain ⟨x,hx⟩ : ∃ x,rd_T77 s.mt i = x:=⟨_,rfl⟩
   rw [hx] at h hx0 hx1 HX
   have pi:=eq_true hi.1
   have qi:=eq_true c
   clear c hi m0 m1 hx
   by_cases c1 : topI (cvs s.nd) x.f0 = t
   ·rw [if_neg (by rintro ⟨h,-⟩;exact h c1)] at h
    have cb1 : (topI (cvs s.nd) x.f0 != t) = false:=by simpa using c1
    have HL2:=qy.mk h
    clear c1 h
    go_wp2_with (first|(go_at_call 28;(with_reducible refine (l10Top_is HS3.out x.f0 HW.out HX.out.1).mono ?_);rintro e_ w2 ⟨rfl,h2⟩;replace h2:=h2.symm;subst h2)|(go_at_call 28;(with_reducible refine (l10Top_is HS3.out x.f1 HW.out HX.out.2).mono ?_);rintro e_ w2 ⟨rfl,h2⟩;replace h2:=h2.symm;subst h2))
    go_roundg k1
    case measure=>omega
    case rel=>exact ⟨i + 1,acc,by rw [hi1],HO,⟨by have:=HI.out;omega,by have:=HI.out;omega,by have:=HIL.out;omega⟩,⟨HL2.out,by have:=HL.out.2;omega⟩,HB2⟩
   have cb1 : (topI (cvs s.nd) x.f0 != t) = true:=by simpa using c1
   by_cases c2 : topI (cvs s.nd) x.f1 = t
   ·rw [if_neg (by rintro ⟨-,h⟩;exact h c2)] at h
    have cb2 : (topI (cvs s.nd) x.f1 != t) = false:=by simpa using c2
    have HL2:=qy.mk h
    clear c1 c2 h
    go_wp2_with (first|(go_at_call 28;(with_reducible refine (l10Top_is HS3.out x.f0 HW.out HX.out.1).mono ?_);rintro e_ w2 ⟨rfl,h2⟩;replace h2:=h2.symm;subst h2)|(go_at_call 28;(with_reducible refine (l10Top_is HS3.out x.f1 HW.out HX.out.2).mono ?_);rintro e_ w2 ⟨rfl,h2⟩;replace h2:=h2.symm;subst h2))
    go_roundg k1
    case measure=>omega
    case rel=>exact ⟨i + 1,acc,by rw [hi1],HO,⟨by have:=HI.out;omega,by have:=HI.out;omega,by have:=HIL.out;omega⟩,⟨HL2.out,by have:=HL.out.2;omega⟩,HB2⟩
   rw [if_pos ⟨c1,c2⟩] at h
   have cb2 : (topI (cvs s.nd) x.f1 != t) = true:=by simpa using c2
   have HL2:=qy.mk h
   clear c1 c2 h
   go_wp2_with (first|(go_at_call 28;(with_reducible refine (l10Top_is HS3.out x.f0 HW.out HX.out.1).mono ?_);rintro e_ w2 ⟨rfl,h2⟩;replace h2:=h2.symm;subst h2)|(go_at_call 28;(with_reducible refine (l10Top_is HS3.out x.f1 HW.out HX.out.2).mono ?_);rintro e_ w2 ⟨rfl,h2⟩;replace h2:=h2.symm;subst h2)|((with_reducible refine gate_builtin (b:=.append) (xs:=#[.tmp 42,.tmp 50]) rfl ?_);at_builtin;refine Kd.R_append k77 (w0:=W) W.heap.size rfl (.tmp 42) (.tmp 50) 37 77 (.agg #[.int .i64 0,.int .i64 0]) 16 rfl Try.underlying37 info77 rfl (by decide) (by omega) u4 acc x [.int .i64 x.f0,.int .i64 x.f1] (fun _=>True) (fun _=>False) rfl rfl (k77_mkM _ _ _ x) (fun _ hk=>hk.elim) (fun _ _=>trivial) ?aO ?aB ?aS ?aL ?_;(case aO=>exact (by (with_reducible repeat (first|apply Kd.R_alloc|apply Kd.R_drewN|apply Kd.R_drew));exact HO.out));(case aB=>exact (by repeat (first|exact HB2.out|apply qo|apply qd|apply qh)));(case aS=>exact qu (by repeat (first|exact HB2.out|apply qo|apply qd|apply qh)));(case aL=>have:=HL.out.2;have:=HIL.out;have:=HSZ.out;omega);intro v7 w7 ho hb hg hat;clear HO HB2;have HO:=qy.mk ho;have HB2:=qy.mk hb;clear ho hb hg hat))
   go_roundg k1
   case measure=>omega
   case rel=>exact ⟨i + 1,acc ++ [x],by rw [hi1],HO,⟨by have:=HI.out;omega,by have:=HI.out;omega,by have:=HIL.out;omega⟩,⟨by rw [List.append_assoc];exact HL2.out,by rw [List.length_append,List.length_singleton];have:=HL.out.2;omega⟩,HB2⟩
  have hi:=HI.out
  rw [List.drop_eq_nil_of_le (by omega),withF,List.append_nil] at h
  have cl0 : decide (i < (s.mt.length : Int)) = false:=decide_eq_false c
  have hcol : ∀ k,k < W.heap.size → (if W.heap.size ≤ k then 3 else col k) = col k:=fun k hk=>by rw [if_neg (by omega)]
  have HS4:=qy.mk ((HS.out.recol hcol).to HB2.out)
  have HF:=qy.mk (HS4.out.fm (new_rowK (col:=col) HO.out HS.out.hb.size 3))
  have hf4:=HS3.out.frz.2.2.1
  obtain ⟨A4,c4,e_⟩:=Kd.R_slice HO.out
  subst e_
  clear c hi
  go_wp2_with fail
  go_end0
  rw [h] at HF
  exact ⟨rfl,_,_,HF.out,hcol⟩
end Go.Proofs.Ytnffimpoekjkpaa.QFnExactRounds
