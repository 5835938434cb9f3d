/- Lean functions for the Go functions that the law FnTrees reaches, and that each Go function comes to just its Lean function's answer; by a program of this session. -/
import Derived.Test.YtcnoccefdejphaaZFnTreesx0
import Derived.Test.YtcnoccefdejphaaZFnTreesx2
import Derived.Test.YtcnoccefdejphaaZFnTreesx4
import Derived.Test.YtcnoccefdejphaaZFnTreesx6
namespace Go.Proofs.Ytcnoccefdejphaa.QFnTrees
open Go.RowKit Go.Proofs.YtcnoccefdejphaaW.PrintWords Go.Proofs.YtcnoccefdejphaaW.PrintLast Go.Proofs.YtcnoccefdejphaaW.PrintMore
attribute [local go_sem] max2_int min2_int max_two min_two max_three min_three max_four min_four   -- for this text's walks alone
set_option linter.unusedVariables false
set_option linter.unusedSimpArgs false

/-! ### spec_l01Text: function 78 -/
mutual
def spec_l01Text.j0 : Nat → Int → List Int → Int → Int → Option (ByteArray × Int × Int)
 | 0,_,_,_,_=>none
 | k + 1,x1,x1000,x1001,x1002=>spec_l01Text.l0 k x1 (([] : List Int)) 0 x1000 x1001 x1002
def spec_l01Text.l0 : Nat → Int → List Int → Int → List Int → Int → Int → Option (ByteArray × Int × Int)
 | 0,_,_,_,_,_,_=>none
 | k + 1,x1,x5,x6,x1000,x1001,x1002=>if x6 < x1 then ((spec_l01Byte.f x1000 x1001 x1002).bind fun bt306=>(if x5.length < 140737488355328 then (spec_l01Text.l0 k x1 (x5 ++ [(bt306.1) % 256]) (wrap64 (x6 + 1)) x1000 bt306.2.1 bt306.2.2) else (none))) else (some (strOfNums x5,x1001,x1002))
end
def spec_l01Text.f (k : Nat) (s0_0 : List Int) (s0_1 : Int) (s0_2 : Int) (a1 : Int) : Option (ByteArray × Int × Int):=if a1 > 5000 then (spec_l01Text.j0 k 5000 s0_0 s0_1 s0_2) else (spec_l01Text.j0 k a1 s0_0 s0_1 s0_2)
theorem spec_l01Text.mono_l : ∀ k,(∀ y0 y1 y2 y3,LeO (spec_l01Text.j0 k y0 y1 y2 y3) (spec_l01Text.j0 (k + 1) y0 y1 y2 y3)) ∧ (∀ y0 y1 y2 y3 y4 y5,LeO (spec_l01Text.l0 k y0 y1 y2 y3 y4 y5) (spec_l01Text.l0 (k + 1) y0 y1 y2 y3 y4 y5))
 | 0=>⟨fun _ _ _ _ r h=>by simp [spec_l01Text.j0] at h,fun _ _ _ _ _ _ r h=>by simp [spec_l01Text.l0] at h⟩
 | k + 1=>by
  obtain ⟨ih0,ih1⟩:=spec_l01Text.mono_l k
  refine ⟨?_,?_⟩ <;> intros <;> first|unfold spec_l01Text.j0|unfold spec_l01Text.l0
  all_goals repeat' first|(with_reducible first|exact ih0 _ _ _ _|exact ih1 _ _ _ _ _ _|exact LeO.refl _|exact LeO.none _|refine LeO.ite ?_ ?_|refine LeO.bind ?_ (fun _=>?_))|exact ih0 _ _ _ _|exact ih1 _ _ _ _ _ _|exact LeO.none _|refine LeO.ite ?_ ?_|refine LeO.bind ?_ (fun _=>?_)
theorem spec_l01Text.mono : ∀ a0 a1 a2 a3 k,LeO (spec_l01Text.f k a0 a1 a2 a3) (spec_l01Text.f (k + 1) a0 a1 a2 a3):=by
 intro a0 a1 a2 a3 k
 obtain ⟨ih0,ih1⟩:=spec_l01Text.mono_l k
 unfold spec_l01Text.f
 repeat' first|(with_reducible first|exact ih0 _ _ _ _|exact ih1 _ _ _ _ _ _|exact LeO.refl _|exact LeO.none _|refine LeO.ite ?_ ?_|refine LeO.bind ?_ (fun _=>?_))|exact ih0 _ _ _ _|exact ih1 _ _ _ _ _ _|exact LeO.none _|refine LeO.ite ?_ ?_|refine LeO.bind ?_ (fun _=>?_)
set_option maxHeartbeats 8000000 in
set_option maxRecDepth 100000 in
theorem spec_l01Text.calls (k : Nat) (g : Nat) (s0_0 : List Int) (s0_1 : Int) (s0_2 : Int) (a1 : Int) (r1 : ByteArray) (r2 : Int) (r3 : Int) (w0 w : World) (hI : IsS114 w0 w g s0_0 s0_1 s0_2) (hB : Below w0.heap.size w0 w) (h : spec_l01Text.f k s0_0 s0_1 s0_2 a1 = some (r1,r2,r3)) :
  Calls Try.prog 78 #[.pointer (some ⟨g,0,none⟩),.int .i64 a1] w fun e w'=>e = .returned (.string r1) ∧ IsS114 w0 w' g s0_0 r2 r3 ∧ Below w0.heap.size w0 w' ∧ KeepBut w w' g none:=by
 have HI0:=qo.mk hI
 have HK:=qo.mk (KeepBut.refl w g none)
 have HL:=qo.mk hB.size
 clear hI
 have HW0:=qo.mk hB.size
 have HB:=qo.mk hB
 clear hB
 have H : (if a1 > 5000 then (spec_l01Text.j0 k 5000 s0_0 s0_1 s0_2) else (spec_l01Text.j0 k a1 s0_0 s0_1 s0_2)) = some (r1,r2,r3):=h
 clear h
 have HC3:=qo.mk H
 clear H
 go_enter Try.func78,Try.ntmps78
 go_upto_if 8 with (fail)
 go_cut [1] (fun v1 wc=>∃ (kq : Nat) (x1_2 : Int),v1 = .int .i64 x1_2 ∧ qo (spec_l01Text.j0 kq x1_2 s0_0 s0_1 s0_2 = some (r1,r2,r3)) ∧ qo (kq ≤ k) ∧ qo (IsS114 w0 wc g s0_0 s0_1 s0_2) ∧ qo (KeepBut w wc g none) ∧ qo (Below w0.heap.size w0 wc))
 case first =>
  have H:=HC3.out
  clear HC3
  by_cases c4 : a1 > 5000
  ·rw [if_pos c4] at H
   have c4b0 : decide (5000 < a1) = true:=decide_eq_true c4
   clear c4
   (first|rw [c4b0]|(simp only [i64_w,i32_w];rw [c4b0])|skip)
   have H':=qo.mk H
   clear H
   go_wp2
   go_meet
   case rel=>exact ⟨_,(5000),rs_,H',⟨by first|omega|exact Nat.le_refl _⟩,⟨by repeat (first|(with_reducible first|exact HI0.out|apply IsS114.alloc|apply IsS114.drewN|apply IsS114.drew|apply IsS114.set_1|apply IsS114.set_2)|exact HI0.out)⟩,⟨by repeat (first|(with_reducible first|exact HK.out|apply KeepBut.set_|apply keep_drewN|apply keep_drew|apply keep_alloc)|exact HK.out)⟩,⟨by repeat (first|(with_reducible first|exact HB.out|apply qf|apply qa|apply qd|refine qg ?_ (IsS114.ge HI0.out))|exact HB.out)⟩⟩
  rw [if_neg c4] at H
  have c4b0 : decide (5000 < a1) = false:=decide_eq_false c4
  clear c4
  (first|rw [c4b0]|(simp only [i64_w,i32_w];rw [c4b0])|skip)
  have H':=qo.mk H
  clear H
  go_wp2
  go_meet
  case rel=>exact ⟨_,(a1),rs_,H',⟨by first|omega|exact Nat.le_refl _⟩,⟨by repeat (first|(with_reducible first|exact HI0.out|apply IsS114.alloc|apply IsS114.drewN|apply IsS114.drew|apply IsS114.set_1|apply IsS114.set_2)|exact HI0.out)⟩,⟨by repeat (first|(with_reducible first|exact HK.out|apply KeepBut.set_|apply keep_drewN|apply keep_drew|apply keep_alloc)|exact HK.out)⟩,⟨by repeat (first|(with_reducible first|exact HB.out|apply qf|apply qa|apply qd|refine qg ?_ (IsS114.ge HI0.out))|exact HB.out)⟩⟩
 clear HC3
 try clear p2
 try clear c4
 try clear c4b0
 obtain ⟨kq,x1_2,rfl,HA,HJ2,HI0,HK,HB⟩:=hcut
 obtain _|kj2:=kq
 ·exact absurd HA.out (by simp [spec_l01Text.j0])
 have H:=HA.out
 clear HA
 simp only [spec_l01Text.j0] at H
 obtain ⟨y303,hy303⟩ : ∃ y_ : List Int,y_ = (([] : List Int)):=⟨_,rfl⟩
 replace H : (spec_l01Text.l0 kj2 x1_2 y303 0 s0_0 s0_1 s0_2) = some (r1,r2,r3):=by first|(rw [hy303];with_reducible exact H)|(have H2_:=(Option.bind_some _ _).symm.trans H;rw [hy303];with_reducible exact H2_)|(have H2_:=(Option.bind_some _ _).symm.trans H;with_reducible exact H2_)|with_reducible exact H|(rw [hy303];exact H)|exact H
 have Ny303:=qo.mk hy303
 clear hy303
 have H':=qo.mk H
 clear H
 go_wp2_with (first|((with_reducible refine gate_dst (N:=9) rfl ?_);refine Kd.R_lit (Kd.int .u8) _ 5 ?hg (N:=9) ?hd (xs:=([] : List Int)) (inner:=[]) (ok:=fun _=>True) (okp:=fun _=>True) ?hr ?hp (fun _ hk=>hk) trivial (Below.refl _ _) (Nat.le_refl _) (by simp) ?_;(case hd=>rfl);(case hg=>rfl);(case hr=>first|(go_simp;done)|(go_simp;rfl));(case hp=>exact (Reps.none _ _));intro v304 w5 ho6 hb hg_ hnew_;clear hg_ hnew_;(first|rw [← Ny303.out] at ho6|(simp only [Int.reduceToNat] at ho6;rw [← Ny303.out] at ho6));have n0_:=qo.mk (Kd.R_lower ho6 (keep_size (w:=w) (g:=g) (row:=none) (by repeat (first|(with_reducible first|exact HK.out|apply KeepBut.set_|apply keep_drewN|apply keep_drew|apply keep_alloc)|exact HK.out))));have n1_:=qo.mk (IsS114.below (by repeat (first|(with_reducible first|exact HI0.out|apply IsS114.alloc|apply IsS114.drewN|apply IsS114.drew|apply IsS114.set_1|apply IsS114.set_2)|exact HI0.out)) hb);have n2_:=qo.mk (KeepBut.trans (by repeat (first|(with_reducible first|exact HK.out|apply KeepBut.set_|apply keep_drewN|apply keep_drew|apply keep_alloc)|exact HK.out)) (KeepBut.of_below hb g none) (.inl rfl));have n3_:=qo.mk (qn (by repeat (first|(with_reducible first|exact HB.out|apply qf|apply qa|apply qd|refine qg ?_ (IsS114.ge HI0.out))|exact HB.out)) hb);clear HI0;clear HK;clear HB;have HO305:=n0_;have HI0:=n1_;have HK:=n2_;have HB:=n3_;clear n0_ n1_ n2_ n3_;clear hb ho6))
 go_loopg [5,6] kj2 (fun kq v5 v6 w'=>∃ (x5_2 : List Int) (x6_2 : Int) (x1001_2 : Int) (x1002_2 : Int),v6 = .int .i64 x6_2 ∧ qo (spec_l01Text.l0 kq x1_2 x5_2 x6_2 s0_0 x1001_2 x1002_2 = some (r1,r2,r3)) ∧ qo (kq ≤ kj2) ∧ qo (Kd.R (Kd.int .u8) 5 w' w.heap.size (fun _=>True) v5 x5_2) ∧ qo (IsS114 w0 w' g s0_0 x1001_2 x1002_2) ∧ qo (KeepBut w w' g none) ∧ qo (Below w0.heap.size w0 w'))
 case atStart=>exact ⟨(y303),(0),(s0_1),(s0_2),rs_,H',⟨Nat.le_refl _⟩,⟨by (with_reducible repeat (first|apply Kd.R_alloc|apply Kd.R_drewN|apply Kd.R_drew));exact HO305.out⟩,⟨by repeat (first|(with_reducible first|exact HI0.out|apply IsS114.alloc|apply IsS114.drewN|apply IsS114.drew|apply IsS114.set_1|apply IsS114.set_2)|exact HI0.out)⟩,⟨by repeat (first|(with_reducible first|exact HK.out|apply KeepBut.set_|apply keep_drewN|apply keep_drew|apply keep_alloc)|exact HK.out)⟩,⟨by repeat (first|(with_reducible first|exact HB.out|apply qf|apply qa|apply qd|refine qg ?_ (IsS114.ge HI0.out))|exact HB.out)⟩⟩
 clear H'
 try clear p2
 try clear c4
 try clear c4b0
 try clear p2
 obtain ⟨x5_2,x6_2,x1001_2,x1002_2,rfl,HA,HK2,HO_5,HI0,HK,HB⟩:=hrel
 obtain _|k2:=gk
 ·exact absurd HA.out (by simp [spec_l01Text.l0])
 have H:=HA.out
 clear HA
 simp only [spec_l01Text.l0] at H
 by_cases c7 : x6_2 < x1_2
 ·rw [if_pos c7] at H
  have c7b0 : decide (x6_2 < x1_2) = true:=decide_eq_true c7
  clear c7
  replace H:=Option.bind_eq_some_iff.mp H
  obtain ⟨⟨t306,t307,t308⟩,A80,H⟩:=H
  replace H : (if x5_2.length < 140737488355328 then (spec_l01Text.l0 k2 x1_2 (x5_2 ++ [(t306) % 256]) (wrap64 (x6_2 + 1)) s0_0 t307 t308) else (none)) = some (r1,r2,r3):=H
  have A8:=qo.mk A80
  clear A80
  by_cases c9 : x5_2.length < 140737488355328
  ·rw [if_pos c9] at H
   have LMc9:=qo.mk c9
   clear c9
   obtain ⟨y309,hy309⟩ : ∃ y_ : List Int,y_ = (x5_2 ++ [(t306) % 256]):=⟨_,rfl⟩
   replace H : (spec_l01Text.l0 k2 x1_2 y309 (wrap64 (x6_2 + 1)) s0_0 t307 t308) = some (r1,r2,r3):=by first|(rw [hy309];with_reducible exact H)|(have H2_:=(Option.bind_some _ _).symm.trans H;rw [hy309];with_reducible exact H2_)|(have H2_:=(Option.bind_some _ _).symm.trans H;with_reducible exact H2_)|with_reducible exact H|(rw [hy309];exact H)|exact H
   have Ny309:=qo.mk hy309
   clear hy309
   have H':=qo.mk H
   clear H
   go_wp2_with (first|((with_reducible refine gate_callee (f:=94) rfl ?_);refine goesL_ (some 17) rfl rfl Try.func94 (by kernel_rfl) rfl #[.pointer (some ⟨g,0,none⟩)] rfl sm_ ?_;(with_reducible refine (spec_l01Byte.calls g s0_0 x1001_2 x1002_2 t306 t307 t308 w0 _ ?side1 ?side2 A8.out).mono ?_);(case side1=>repeat (first|(with_reducible first|exact HI0.out|apply IsS114.alloc|apply IsS114.drewN|apply IsS114.drew|apply IsS114.set_1|apply IsS114.set_2)|exact HI0.out));(case side2=>repeat (first|(with_reducible first|exact HB.out|apply qf|apply qa|apply qd|refine qg ?_ (IsS114.ge HI0.out))|exact HB.out));rintro e w10 ⟨rfl,hi,hb,hk⟩;refine ⟨_,rfl,?_⟩;replace HO_5:=qo.mk (Kd.R_mono (Kd.R_keep (IsS114.apart (show IsS114 w0 _ g s0_0 x1001_2 x1002_2 from by repeat (first|(with_reducible first|exact HI0.out|apply IsS114.alloc|apply IsS114.drewN|apply IsS114.drew|apply IsS114.set_1|apply IsS114.set_2)|exact HI0.out)) (by (with_reducible repeat (first|apply Kd.R_alloc|apply Kd.R_drewN|apply Kd.R_drew));exact HO_5.out) (by decide)) hk (fun _ h=>h.2)) (fun _ h=>h.1));replace HK:=qo.mk (KeepBut.trans (by repeat (first|(with_reducible first|exact HK.out|apply KeepBut.set_|apply keep_drewN|apply keep_drew|apply keep_alloc)|exact HK.out)) hk (.inl rfl));replace HB:=qo.mk (hb);replace HI0:=qo.mk (hi);(try clear hb);(try clear hb2);(try clear hk);(try clear hi))|((with_reducible refine gate_builtin (b:=.append) (xs:=#[.tmp 15,.tmp 19]) rfl ?_);at_builtin;refine Kd.R_append (Kd.int .u8) w.heap.size rfl (.tmp 15) (.tmp 19) 46 5 (.int .u8 0) 1 rfl Try.underlying46 info5 rfl (by decide) (by omega) u5 x5_2 ((t306) % 256) [.int .u8 ((t306) % 256)] (fun _=>True) (fun _=>False) rfl rfl ?aP (fun _ hk=>hk.elim) ?aF ?aO (Below.refl _ _) ?aS ?aL ?_;(case aP=>exact rfl);(case aF=>exact (fun _ _=>trivial));(case aO=>exact (by (with_reducible repeat (first|apply Kd.R_alloc|apply Kd.R_drewN|apply Kd.R_drew));exact HO_5.out));(case aS=>exact (keep_size (w:=w) (g:=g) (row:=none) (by repeat (first|(with_reducible first|exact HK.out|apply KeepBut.set_|apply keep_drewN|apply keep_drew|apply keep_alloc)|exact HK.out))));(case aL=>have:=LMc9.out;omega);intro v310 w11 ho hb hg hat;rw [← Ny309.out] at ho;have n0_:=qo.mk (IsS114.grown (by repeat (first|(with_reducible first|exact HI0.out|apply IsS114.alloc|apply IsS114.drewN|apply IsS114.drew|apply IsS114.set_1|apply IsS114.set_2)|exact HI0.out)) hg (IsS114.own_ne HI0.out HO_5.out (by decide)));have n1_:=qo.mk (below_weaken (by repeat (first|(with_reducible first|exact HB.out|apply qf|apply qa|apply qd|refine qg ?_ (IsS114.ge HI0.out))|exact HB.out)) HL.out hb);have n2_:=qo.mk (KeepBut.trans (by repeat (first|(with_reducible first|exact HK.out|apply KeepBut.set_|apply keep_drewN|apply keep_drew|apply keep_alloc)|exact HK.out)) (KeepBut.of_grown hg g) (Kd.R_base2 HO_5.out));have n3_:=qo.mk (ho);clear HI0;clear HB;clear HK;clear HO_5;have HI0:=n0_;have HB:=n1_;have HK:=n2_;have HO311:=n3_;clear n0_ n1_ n2_ n3_;clear ho hb hg hat))
   go_roundg k2
   case measure=>have:=HJ2.out;have:=HK2.out;omega
   case rel=>exact ⟨(y309),(wrap64 (x6_2 + 1)),(t307),(t308),rs_,H',⟨by have:=HJ2.out;have:=HK2.out;omega⟩,⟨by (with_reducible repeat (first|apply Kd.R_alloc|apply Kd.R_drewN|apply Kd.R_drew));exact HO311.out⟩,⟨by repeat (first|(with_reducible first|exact HI0.out|apply IsS114.alloc|apply IsS114.drewN|apply IsS114.drew|apply IsS114.set_1|apply IsS114.set_2)|exact HI0.out)⟩,⟨by repeat (first|(with_reducible first|exact HK.out|apply KeepBut.set_|apply keep_drewN|apply keep_drew|apply keep_alloc)|exact HK.out)⟩,⟨by repeat (first|(with_reducible first|exact HB.out|apply qf|apply qa|apply qd|refine qg ?_ (IsS114.ge HI0.out))|exact HB.out)⟩⟩
  rw [if_neg c9] at H
  exact absurd H (by simp)
 rw [if_neg c7] at H
 have c7b0 : decide (x6_2 < x1_2) = false:=decide_eq_false c7
 clear c7
 simp only [Option.some.injEq,Prod.mk.injEq] at H
 obtain ⟨rfl,rfl,rfl⟩:=H
 have hcv12:=own_string (P:=Try.prog) Try.underlying46 Try.underlying5 Try.underlying9 (Kd.own_of_R HO_5.out)
 go_wp2
 go_ret
 exact ⟨rt_,by repeat (first|(with_reducible first|exact HI0.out|apply IsS114.alloc|apply IsS114.drewN|apply IsS114.drew|apply IsS114.set_1|apply IsS114.set_2)|exact HI0.out),by repeat (first|(with_reducible first|exact HB.out|apply qf|apply qa|apply qd|refine qg ?_ (IsS114.ge HI0.out))|exact HB.out),by repeat (first|(with_reducible first|exact HK.out|apply KeepBut.set_|apply keep_drewN|apply keep_drew|apply keep_alloc)|exact HK.out)⟩

/-! ### spec_l05Map: function 55 -/
def spec_l05Map.l0 : Nat → Int → List (S69) → Int → Int → List Int → Int → Int → Option ((List (S69)) × Int × Int)
 | 0,_,_,_,_,_,_,_=>none
 | k + 1,x1,x5,x6,x7,x1000,x1001,x1002=>(spec_l01Below.f x1000 x1001 x1002 (wrap64 (x1 + 1))).bind fun bt318=>(if x7 < bt318.1 then ((spec_l01Below.f x1000 bt318.2.1 bt318.2.2 4).bind fun bt321=>((spec_Decimal.f k (wrap64 (1000 + (wrap64 ((wrap64 (x6 + 1)) + bt321.1))))).bind fun t324=>(if 1 + t324.size ≤ 9223372036854775807 then ((spec_l01Below.f x1000 bt321.2.1 bt321.2.2 9).bind fun bt325=>((spec_l01Text.f k x1000 bt325.2.1 bt325.2.2 bt325.1).bind fun bt328=>(if x5.length < 4398046511104 then (spec_l05Map.l0 k x1 (x5 ++ [(⟨(⟨#[107]⟩ : ByteArray) ++ t324,bt328.1⟩ : S69)]) (wrap64 ((wrap64 (x6 + 1)) + bt321.1)) (wrap64 (x7 + 1)) x1000 bt328.2.1 bt328.2.2) else (none)))) else (none)))) else (some (x5,bt318.2.1,bt318.2.2)))
def spec_l05Map.f (k : Nat) (s0_0 : List Int) (s0_1 : Int) (s0_2 : Int) (a1 : Int) : Option ((List (S69)) × Int × Int):=(spec_l01Below.f s0_0 s0_1 s0_2 30).bind fun bt315=>(spec_l05Map.l0 k a1 (([] : List (S69))) bt315.1 0 s0_0 bt315.2.1 bt315.2.2)
theorem spec_l05Map.mono_l : ∀ k,(∀ y0 y1 y2 y3 y4 y5 y6,LeO (spec_l05Map.l0 k y0 y1 y2 y3 y4 y5 y6) (spec_l05Map.l0 (k + 1) y0 y1 y2 y3 y4 y5 y6))
 | 0=>fun _ _ _ _ _ _ _ r h=>by simp [spec_l05Map.l0] at h
 | k + 1=>by
  have ih0:=spec_l05Map.mono_l k
  intro y0 y1 y2 y3 y4 y5 y6
  unfold spec_l05Map.l0
  repeat' first|(with_reducible first|exact ih0 _ _ _ _ _ _ _|exact spec_Decimal.mono _ _|exact spec_l01Text.mono _ _ _ _ _|exact LeO.refl _|exact LeO.none _|refine LeO.ite ?_ ?_|refine LeO.bind ?_ (fun _=>?_))|exact ih0 _ _ _ _ _ _ _|exact spec_Decimal.mono _ _|exact spec_l01Text.mono _ _ _ _ _|exact LeO.none _|refine LeO.ite ?_ ?_|refine LeO.bind ?_ (fun _=>?_)
theorem spec_l05Map.mono : ∀ a0 a1 a2 a3 k,LeO (spec_l05Map.f k a0 a1 a2 a3) (spec_l05Map.f (k + 1) a0 a1 a2 a3):=by
 intro a0 a1 a2 a3 k
 have ih0:=spec_l05Map.mono_l k
 unfold spec_l05Map.f
 repeat' first|(with_reducible first|exact ih0 _ _ _ _ _ _ _|exact spec_Decimal.mono _ _|exact spec_l01Text.mono _ _ _ _ _|exact LeO.refl _|exact LeO.none _|refine LeO.ite ?_ ?_|refine LeO.bind ?_ (fun _=>?_))|exact ih0 _ _ _ _ _ _ _|exact spec_Decimal.mono _ _|exact spec_l01Text.mono _ _ _ _ _|exact LeO.none _|refine LeO.ite ?_ ?_|refine LeO.bind ?_ (fun _=>?_)
set_option maxHeartbeats 8000000 in
set_option maxRecDepth 100000 in
theorem spec_l05Map.calls (k : Nat) (g : Nat) (s0_0 : List Int) (s0_1 : Int) (s0_2 : Int) (a1 : Int) (r1 : List (S69)) (r2 : Int) (r3 : Int) (w0 w : World) (hI : IsS114 w0 w g s0_0 s0_1 s0_2) (hB : Below w0.heap.size w0 w) (h : spec_l05Map.f k s0_0 s0_1 s0_2 a1 = some (r1,r2,r3)) :
  Calls Try.prog 55 #[.pointer (some ⟨g,0,none⟩),.int .i64 a1] w fun e w'=>∃ v0_ : Value,e = .returned (v0_) ∧ Kd.R k69 69 w' w.heap.size (fun _=>True) v0_ r1 ∧ IsS114 w0 w' g s0_0 r2 r3 ∧ Below w0.heap.size w0 w' ∧ KeepBut w w' g none:=by
 have hu69:=Try.underlying69
 have HI0:=qo.mk hI
 have HK:=qo.mk (KeepBut.refl w g none)
 have HL:=qo.mk hB.size
 clear hI
 have HW0:=qo.mk hB.size
 have HB:=qo.mk hB
 clear hB
 have H : ((spec_l01Below.f s0_0 s0_1 s0_2 30).bind fun bt315=>(spec_l05Map.l0 k a1 (([] : List (S69))) bt315.1 0 s0_0 bt315.2.1 bt315.2.2)) = some (r1,r2,r3):=h
 clear h
 obtain ⟨y312,hy312⟩ : ∃ y_ : List (S69),y_ = (([] : List (S69))):=⟨_,rfl⟩
 replace H : ((spec_l01Below.f s0_0 s0_1 s0_2 30).bind fun bt315=>(spec_l05Map.l0 k a1 y312 bt315.1 0 s0_0 bt315.2.1 bt315.2.2)) = some (r1,r2,r3):=by first|(rw [hy312];with_reducible exact H)|(have H2_:=(Option.bind_some _ _).symm.trans H;rw [hy312];with_reducible exact H2_)|(have H2_:=(Option.bind_some _ _).symm.trans H;with_reducible exact H2_)|with_reducible exact H|(rw [hy312];exact H)|exact H
 have Ny312:=qo.mk hy312
 clear hy312
 replace H:=Option.bind_eq_some_iff.mp H
 obtain ⟨⟨t315,t316,t317⟩,A30,H⟩:=H
 replace H : (spec_l05Map.l0 k a1 y312 t315 0 s0_0 t316 t317) = some (r1,r2,r3):=H
 have A3:=qo.mk A30
 clear A30
 have H':=qo.mk H
 clear H
 go_enter Try.func55,Try.ntmps55
 go_wp2_with (first|((with_reducible refine gate_dst (N:=8) rfl ?_);refine Kd.R_lit k69 _ 69 ?hg (N:=8) ?hd (xs:=([] : List (S69))) (inner:=[]) (ok:=fun _=>True) (okp:=fun _=>True) ?hr ?hp (fun _ hk=>hk) trivial (Below.refl _ _) (Nat.le_refl _) (by simp) ?_;(case hd=>rfl);(case hg=>rfl);(case hr=>first|(go_simp;done)|(go_simp;rfl));(case hp=>exact (Reps.none _ _));intro v313 w4 ho5 hb hg_ hnew_;clear hg_ hnew_;(first|rw [← Ny312.out] at ho5|(simp only [Int.reduceToNat] at ho5;rw [← Ny312.out] at ho5));have n0_:=qo.mk (Kd.R_lower ho5 (keep_size (w:=w) (g:=g) (row:=none) (by repeat (first|(with_reducible first|exact HK.out|apply KeepBut.set_|apply keep_drewN|apply keep_drew|apply keep_alloc)|exact HK.out))));have n1_:=qo.mk (IsS114.below (by repeat (first|(with_reducible first|exact HI0.out|apply IsS114.alloc|apply IsS114.drewN|apply IsS114.drew|apply IsS114.set_1|apply IsS114.set_2)|exact HI0.out)) hb);have n2_:=qo.mk (KeepBut.trans (by repeat (first|(with_reducible first|exact HK.out|apply KeepBut.set_|apply keep_drewN|apply keep_drew|apply keep_alloc)|exact HK.out)) (KeepBut.of_below hb g none) (.inl rfl));have n3_:=qo.mk (qn (by repeat (first|(with_reducible first|exact HB.out|apply qf|apply qa|apply qd|refine qg ?_ (IsS114.ge HI0.out))|exact HB.out)) hb);clear HI0;clear HK;clear HB;have HO314:=n0_;have HI0:=n1_;have HK:=n2_;have HB:=n3_;clear n0_ n1_ n2_ n3_;clear hb ho5)|((with_reducible refine gate_callee (f:=76) rfl ?_);refine goesL_ (some 10) rfl rfl Try.func76 (by kernel_rfl) rfl #[.pointer (some ⟨g,0,none⟩),.int .i64 30] rfl sm_ ?_;(with_reducible refine (spec_l01Below.calls g s0_0 s0_1 s0_2 30 t315 t316 t317 w0 _ ?side1 ?side2 A3.out).mono ?_);(case side1=>repeat (first|(with_reducible first|exact HI0.out|apply IsS114.alloc|apply IsS114.drewN|apply IsS114.drew|apply IsS114.set_1|apply IsS114.set_2)|exact HI0.out));(case side2=>repeat (first|(with_reducible first|exact HB.out|apply qf|apply qa|apply qd|refine qg ?_ (IsS114.ge HI0.out))|exact HB.out));rintro e w6 ⟨rfl,hi,hb,hk⟩;refine ⟨_,rfl,?_⟩;replace HO314:=qo.mk (Kd.R_mono (Kd.R_keep (IsS114.apart (show IsS114 w0 _ g s0_0 s0_1 s0_2 from by repeat (first|(with_reducible first|exact HI0.out|apply IsS114.alloc|apply IsS114.drewN|apply IsS114.drew|apply IsS114.set_1|apply IsS114.set_2)|exact HI0.out)) (by (with_reducible repeat (first|apply Kd.R_alloc|apply Kd.R_drewN|apply Kd.R_drew));exact HO314.out) (by decide)) hk (fun _ h=>h.2)) (fun _ h=>h.1));replace HK:=qo.mk (KeepBut.trans (by repeat (first|(with_reducible first|exact HK.out|apply KeepBut.set_|apply keep_drewN|apply keep_drew|apply keep_alloc)|exact HK.out)) hk (.inl rfl));replace HB:=qo.mk (hb);replace HI0:=qo.mk (hi);(try clear hb);(try clear hb2);(try clear hk);(try clear hi)))
 go_loopg [5,6,7] k (fun kq v5 v6 v7 w'=>∃ (x5_1 : List (S69)) (x6_1 : Int) (x7_1 : Int) (x1001_1 : Int) (x1002_1 : Int),v6 = .int .i64 x6_1 ∧ v7 = .int .i64 x7_1 ∧ qo (spec_l05Map.l0 kq a1 x5_1 x6_1 x7_1 s0_0 x1001_1 x1002_1 = some (r1,r2,r3)) ∧ qo (kq ≤ k) ∧ qo (Kd.R k69 69 w' w.heap.size (fun _=>True) v5 x5_1) ∧ qo (IsS114 w0 w' g s0_0 x1001_1 x1002_1) ∧ qo (KeepBut w w' g none) ∧ qo (Below w0.heap.size w0 w'))
 case atStart=>exact ⟨(y312),(t315),(0),(t316),(t317),rs_,rs_,H',⟨Nat.le_refl _⟩,⟨by (with_reducible repeat (first|apply Kd.R_alloc|apply Kd.R_drewN|apply Kd.R_drew));exact HO314.out⟩,⟨by repeat (first|(with_reducible first|exact HI0.out|apply IsS114.alloc|apply IsS114.drewN|apply IsS114.drew|apply IsS114.set_1|apply IsS114.set_2)|exact HI0.out)⟩,⟨by repeat (first|(with_reducible first|exact HK.out|apply KeepBut.set_|apply keep_drewN|apply keep_drew|apply keep_alloc)|exact HK.out)⟩,⟨by repeat (first|(with_reducible first|exact HB.out|apply qf|apply qa|apply qd|refine qg ?_ (IsS114.ge HI0.out))|exact HB.out)⟩⟩
 clear H'
 try clear p2
 try clear c5
 obtain ⟨x5_1,x6_1,x7_1,x1001_1,x1002_1,rfl,rfl,HA,HK1,HO_5,HI0,HK,HB⟩:=hrel
 obtain _|k1:=gk
 ·exact absurd HA.out (by simp [spec_l05Map.l0])
 have H:=HA.out
 clear HA
 simp only [spec_l05Map.l0] at H
 replace H:=Option.bind_eq_some_iff.mp H
 obtain ⟨⟨t318,t319,t320⟩,A70,H⟩:=H
 replace H : (if x7_1 < t318 then ((spec_l01Below.f s0_0 t319 t320 4).bind fun bt321=>((spec_Decimal.f k1 (wrap64 (1000 + (wrap64 ((wrap64 (x6_1 + 1)) + bt321.1))))).bind fun t324=>(if 1 + t324.size ≤ 9223372036854775807 then ((spec_l01Below.f s0_0 bt321.2.1 bt321.2.2 9).bind fun bt325=>((spec_l01Text.f k1 s0_0 bt325.2.1 bt325.2.2 bt325.1).bind fun bt328=>(if x5_1.length < 4398046511104 then (spec_l05Map.l0 k1 a1 (x5_1 ++ [(⟨(⟨#[107]⟩ : ByteArray) ++ t324,bt328.1⟩ : S69)]) (wrap64 ((wrap64 (x6_1 + 1)) + bt321.1)) (wrap64 (x7_1 + 1)) s0_0 bt328.2.1 bt328.2.2) else (none)))) else (none)))) else (some (x5_1,t319,t320))) = some (r1,r2,r3):=H
 have A7:=qo.mk A70
 clear A70
 by_cases c8 : x7_1 < t318
 ·rw [if_pos c8] at H
  have c8b0 : decide (x7_1 < t318) = true:=decide_eq_true c8
  clear c8
  replace H:=Option.bind_eq_some_iff.mp H
  obtain ⟨⟨t321,t322,t323⟩,A90,H⟩:=H
  replace H : ((spec_Decimal.f k1 (wrap64 (1000 + (wrap64 ((wrap64 (x6_1 + 1)) + t321))))).bind fun t324=>(if 1 + t324.size ≤ 9223372036854775807 then ((spec_l01Below.f s0_0 t322 t323 9).bind fun bt325=>((spec_l01Text.f k1 s0_0 bt325.2.1 bt325.2.2 bt325.1).bind fun bt328=>(if x5_1.length < 4398046511104 then (spec_l05Map.l0 k1 a1 (x5_1 ++ [(⟨(⟨#[107]⟩ : ByteArray) ++ t324,bt328.1⟩ : S69)]) (wrap64 ((wrap64 (x6_1 + 1)) + t321)) (wrap64 (x7_1 + 1)) s0_0 bt328.2.1 bt328.2.2) else (none)))) else (none))) = some (r1,r2,r3):=H
  have A9:=qo.mk A90
  clear A90
  replace H:=Option.bind_eq_some_iff.mp H
  obtain ⟨t324,A100,H⟩:=H
  replace H : (if 1 + t324.size ≤ 9223372036854775807 then ((spec_l01Below.f s0_0 t322 t323 9).bind fun bt325=>((spec_l01Text.f k1 s0_0 bt325.2.1 bt325.2.2 bt325.1).bind fun bt328=>(if x5_1.length < 4398046511104 then (spec_l05Map.l0 k1 a1 (x5_1 ++ [(⟨(⟨#[107]⟩ : ByteArray) ++ t324,bt328.1⟩ : S69)]) (wrap64 ((wrap64 (x6_1 + 1)) + t321)) (wrap64 (x7_1 + 1)) s0_0 bt328.2.1 bt328.2.2) else (none)))) else (none)) = some (r1,r2,r3):=H
  have A10:=qo.mk A100
  clear A100
  by_cases c11 : 1 + t324.size ≤ 9223372036854775807
  ·rw [if_pos c11] at H
   have c11b0:=eq_true c11
   have c11b1 : decide (1 + t324.size ≤ 9223372036854775807) = true:=decide_eq_true c11
   try have c11b2 : (9223372036854775807 < 1 + t324.size) = False:=eq_false (Nat.not_lt.2 c11)
   replace H:=Option.bind_eq_some_iff.mp H
   obtain ⟨⟨t325,t326,t327⟩,A120,H⟩:=H
   replace H : ((spec_l01Text.f k1 s0_0 t326 t327 t325).bind fun bt328=>(if x5_1.length < 4398046511104 then (spec_l05Map.l0 k1 a1 (x5_1 ++ [(⟨(⟨#[107]⟩ : ByteArray) ++ t324,bt328.1⟩ : S69)]) (wrap64 ((wrap64 (x6_1 + 1)) + t321)) (wrap64 (x7_1 + 1)) s0_0 bt328.2.1 bt328.2.2) else (none))) = some (r1,r2,r3):=H
   have A12:=qo.mk A120
   clear A120
   replace H:=Option.bind_eq_some_iff.mp H
   obtain ⟨⟨t328,t329,t330⟩,A130,H⟩:=H
   replace H : (if x5_1.length < 4398046511104 then (spec_l05Map.l0 k1 a1 (x5_1 ++ [(⟨(⟨#[107]⟩ : ByteArray) ++ t324,t328⟩ : S69)]) (wrap64 ((wrap64 (x6_1 + 1)) + t321)) (wrap64 (x7_1 + 1)) s0_0 t329 t330) else (none)) = some (r1,r2,r3):=H
   have A13:=qo.mk A130
   clear A130
   by_cases c14 : x5_1.length < 4398046511104
   ·rw [if_pos c14] at H
    have LMc14:=qo.mk c14
    clear c14
    obtain ⟨y331,hy331⟩ : ∃ y_ : List (S69),y_ = (x5_1 ++ [(⟨(⟨#[107]⟩ : ByteArray) ++ t324,t328⟩ : S69)]):=⟨_,rfl⟩
    replace H : (spec_l05Map.l0 k1 a1 y331 (wrap64 ((wrap64 (x6_1 + 1)) + t321)) (wrap64 (x7_1 + 1)) s0_0 t329 t330) = some (r1,r2,r3):=by first|(rw [hy331];with_reducible exact H)|(have H2_:=(Option.bind_some _ _).symm.trans H;rw [hy331];with_reducible exact H2_)|(have H2_:=(Option.bind_some _ _).symm.trans H;with_reducible exact H2_)|with_reducible exact H|(rw [hy331];exact H)|exact H
    have Ny331:=qo.mk hy331
    clear hy331
    have H':=qo.mk H
    clear H
    go_wp2_with (first|((with_reducible refine gate_callee (f:=76) rfl ?_);refine goesL_ (some 15) rfl rfl Try.func76 (by kernel_rfl) rfl #[.pointer (some ⟨g,0,none⟩),.int .i64 (wrap64 (a1 + 1))] rfl sm_ ?_;(with_reducible refine (spec_l01Below.calls g s0_0 x1001_1 x1002_1 (wrap64 (a1 + 1)) t318 t319 t320 w0 _ ?side1 ?side2 A7.out).mono ?_);(case side1=>repeat (first|(with_reducible first|exact HI0.out|apply IsS114.alloc|apply IsS114.drewN|apply IsS114.drew|apply IsS114.set_1|apply IsS114.set_2)|exact HI0.out));(case side2=>repeat (first|(with_reducible first|exact HB.out|apply qf|apply qa|apply qd|refine qg ?_ (IsS114.ge HI0.out))|exact HB.out));rintro e w15 ⟨rfl,hi,hb,hk⟩;refine ⟨_,rfl,?_⟩;replace HO_5:=qo.mk (Kd.R_mono (Kd.R_keep (IsS114.apart (show IsS114 w0 _ g s0_0 x1001_1 x1002_1 from by repeat (first|(with_reducible first|exact HI0.out|apply IsS114.alloc|apply IsS114.drewN|apply IsS114.drew|apply IsS114.set_1|apply IsS114.set_2)|exact HI0.out)) (by (with_reducible repeat (first|apply Kd.R_alloc|apply Kd.R_drewN|apply Kd.R_drew));exact HO_5.out) (by decide)) hk (fun _ h=>h.2)) (fun _ h=>h.1));replace HK:=qo.mk (KeepBut.trans (by repeat (first|(with_reducible first|exact HK.out|apply KeepBut.set_|apply keep_drewN|apply keep_drew|apply keep_alloc)|exact HK.out)) hk (.inl rfl));replace HB:=qo.mk (hb);replace HI0:=qo.mk (hi);(try clear hb);(try clear hb2);(try clear hk);(try clear hi))|((with_reducible refine gate_callee (f:=76) rfl ?_);refine goesL_ (some 22) rfl rfl Try.func76 (by kernel_rfl) rfl #[.pointer (some ⟨g,0,none⟩),.int .i64 4] rfl sm_ ?_;(with_reducible refine (spec_l01Below.calls g s0_0 t319 t320 4 t321 t322 t323 w0 _ ?side1 ?side2 A9.out).mono ?_);(case side1=>repeat (first|(with_reducible first|exact HI0.out|apply IsS114.alloc|apply IsS114.drewN|apply IsS114.drew|apply IsS114.set_1|apply IsS114.set_2)|exact HI0.out));(case side2=>repeat (first|(with_reducible first|exact HB.out|apply qf|apply qa|apply qd|refine qg ?_ (IsS114.ge HI0.out))|exact HB.out));rintro e w16 ⟨rfl,hi,hb,hk⟩;refine ⟨_,rfl,?_⟩;replace HO_5:=qo.mk (Kd.R_mono (Kd.R_keep (IsS114.apart (show IsS114 w0 _ g s0_0 t319 t320 from by repeat (first|(with_reducible first|exact HI0.out|apply IsS114.alloc|apply IsS114.drewN|apply IsS114.drew|apply IsS114.set_1|apply IsS114.set_2)|exact HI0.out)) (by (with_reducible repeat (first|apply Kd.R_alloc|apply Kd.R_drewN|apply Kd.R_drew));exact HO_5.out) (by decide)) hk (fun _ h=>h.2)) (fun _ h=>h.1));replace HK:=qo.mk (KeepBut.trans (by repeat (first|(with_reducible first|exact HK.out|apply KeepBut.set_|apply keep_drewN|apply keep_drew|apply keep_alloc)|exact HK.out)) hk (.inl rfl));replace HB:=qo.mk (hb);replace HI0:=qo.mk (hi);(try clear hb);(try clear hb2);(try clear hk);(try clear hi))|((with_reducible refine gate_callee (f:=77) rfl ?_);refine goesL_ (some 27) rfl rfl Try.func77 (by kernel_rfl) rfl #[.int .i64 (wrap64 (1000 + (wrap64 ((wrap64 (x6_1 + 1)) + t321))))] rfl sm_ ?_;(with_reducible refine (spec_Decimal.calls k1 (wrap64 (1000 + (wrap64 ((wrap64 (x6_1 + 1)) + t321)))) t324 _ A10.out).mono ?_);rintro e w17 ⟨rfl,hb⟩;refine ⟨_,rfl,?_⟩;have n0_:=rb_ HO_5 hb;have n1_:=qo.mk (IsS114.below (by repeat (first|(with_reducible first|exact HI0.out|apply IsS114.alloc|apply IsS114.drewN|apply IsS114.drew|apply IsS114.set_1|apply IsS114.set_2)|exact HI0.out)) hb);have n2_:=qo.mk (KeepBut.trans (by repeat (first|(with_reducible first|exact HK.out|apply KeepBut.set_|apply keep_drewN|apply keep_drew|apply keep_alloc)|exact HK.out)) (KeepBut.of_below hb g none) (.inl rfl));have n3_:=qo.mk (qn (by repeat (first|(with_reducible first|exact HB.out|apply qf|apply qa|apply qd|refine qg ?_ (IsS114.ge HI0.out))|exact HB.out)) hb);clear HO_5;clear HI0;clear HK;clear HB;have HO_5:=n0_;have HI0:=n1_;have HK:=n2_;have HB:=n3_;clear n0_ n1_ n2_ n3_;(try clear hb);(try clear hb2);(try clear hk);(try clear hi))|((with_reducible refine gate_callee (f:=76) rfl ?_);refine goesL_ (some 31) rfl rfl Try.func76 (by kernel_rfl) rfl #[.pointer (some ⟨g,0,none⟩),.int .i64 9] rfl sm_ ?_;(with_reducible refine (spec_l01Below.calls g s0_0 t322 t323 9 t325 t326 t327 w0 _ ?side1 ?side2 A12.out).mono ?_);(case side1=>repeat (first|(with_reducible first|exact HI0.out|apply IsS114.alloc|apply IsS114.drewN|apply IsS114.drew|apply IsS114.set_1|apply IsS114.set_2)|exact HI0.out));(case side2=>repeat (first|(with_reducible first|exact HB.out|apply qf|apply qa|apply qd|refine qg ?_ (IsS114.ge HI0.out))|exact HB.out));rintro e w18 ⟨rfl,hi,hb,hk⟩;refine ⟨_,rfl,?_⟩;replace HO_5:=qo.mk (Kd.R_mono (Kd.R_keep (IsS114.apart (show IsS114 w0 _ g s0_0 t322 t323 from by repeat (first|(with_reducible first|exact HI0.out|apply IsS114.alloc|apply IsS114.drewN|apply IsS114.drew|apply IsS114.set_1|apply IsS114.set_2)|exact HI0.out)) (by (with_reducible repeat (first|apply Kd.R_alloc|apply Kd.R_drewN|apply Kd.R_drew));exact HO_5.out) (by decide)) hk (fun _ h=>h.2)) (fun _ h=>h.1));replace HK:=qo.mk (KeepBut.trans (by repeat (first|(with_reducible first|exact HK.out|apply KeepBut.set_|apply keep_drewN|apply keep_drew|apply keep_alloc)|exact HK.out)) hk (.inl rfl));replace HB:=qo.mk (hb);replace HI0:=qo.mk (hi);(try clear hb);(try clear hb2);(try clear hk);(try clear hi))|((with_reducible refine gate_callee (f:=78) rfl ?_);refine goesL_ (some 32) rfl rfl Try.func78 (by kernel_rfl) rfl #[.pointer (some ⟨g,0,none⟩),.int .i64 t325] rfl sm_ ?_;(with_reducible refine (spec_l01Text.calls k1 g s0_0 t326 t327 t325 t328 t329 t330 w0 _ ?side1 ?side2 A13.out).mono ?_);(case side1=>repeat (first|(with_reducible first|exact HI0.out|apply IsS114.alloc|apply IsS114.drewN|apply IsS114.drew|apply IsS114.set_1|apply IsS114.set_2)|exact HI0.out));(case side2=>repeat (first|(with_reducible first|exact HB.out|apply qf|apply qa|apply qd|refine qg ?_ (IsS114.ge HI0.out))|exact HB.out));rintro e w19 ⟨rfl,hi,hb,hk⟩;refine ⟨_,rfl,?_⟩;replace HO_5:=qo.mk (Kd.R_mono (Kd.R_keep (IsS114.apart (show IsS114 w0 _ g s0_0 t326 t327 from by repeat (first|(with_reducible first|exact HI0.out|apply IsS114.alloc|apply IsS114.drewN|apply IsS114.drew|apply IsS114.set_1|apply IsS114.set_2)|exact HI0.out)) (by (with_reducible repeat (first|apply Kd.R_alloc|apply Kd.R_drewN|apply Kd.R_drew));exact HO_5.out) (by decide)) hk (fun _ h=>h.2)) (fun _ h=>h.1));replace HK:=qo.mk (KeepBut.trans (by repeat (first|(with_reducible first|exact HK.out|apply KeepBut.set_|apply keep_drewN|apply keep_drew|apply keep_alloc)|exact HK.out)) hk (.inl rfl));replace HB:=qo.mk (hb);replace HI0:=qo.mk (hi);(try clear hb);(try clear hb2);(try clear hk);(try clear hi))|((with_reducible refine gate_builtin (b:=.append) (xs:=#[.tmp 24,.tmp 34]) rfl ?_);at_builtin;refine Kd.R_append k69 w.heap.size rfl (.tmp 24) (.tmp 34) 37 69 (.agg #[(.string ⟨#[]⟩),(.string ⟨#[]⟩)]) 32 rfl Try.underlying37 info69 rfl (by decide) (by omega) u5 x5_1 (⟨(⟨#[107]⟩ : ByteArray) ++ t324,t328⟩ : S69) [.string ((⟨#[107]⟩ : ByteArray) ++ t324),.string t328] (fun _=>True) (fun _=>False) rfl rfl ?aP (fun _ hk=>hk.elim) ?aF ?aO (Below.refl _ _) ?aS ?aL ?_;(case aP=>exact k69_mkM _ _ _ (⟨(⟨#[107]⟩ : ByteArray) ++ t324,t328⟩ : S69));(case aF=>exact (fun _ _=>trivial));(case aO=>exact (by (with_reducible repeat (first|apply Kd.R_alloc|apply Kd.R_drewN|apply Kd.R_drew));exact HO_5.out));(case aS=>exact (keep_size (w:=w) (g:=g) (row:=none) (by repeat (first|(with_reducible first|exact HK.out|apply KeepBut.set_|apply keep_drewN|apply keep_drew|apply keep_alloc)|exact HK.out))));(case aL=>have:=LMc14.out;omega);intro v332 w20 ho hb hg hat;rw [← Ny331.out] at ho;have n0_:=qo.mk (IsS114.grown (by repeat (first|(with_reducible first|exact HI0.out|apply IsS114.alloc|apply IsS114.drewN|apply IsS114.drew|apply IsS114.set_1|apply IsS114.set_2)|exact HI0.out)) hg (IsS114.own_ne HI0.out HO_5.out (by decide)));have n1_:=qo.mk (below_weaken (by repeat (first|(with_reducible first|exact HB.out|apply qf|apply qa|apply qd|refine qg ?_ (IsS114.ge HI0.out))|exact HB.out)) HL.out hb);have n2_:=qo.mk (KeepBut.trans (by repeat (first|(with_reducible first|exact HK.out|apply KeepBut.set_|apply keep_drewN|apply keep_drew|apply keep_alloc)|exact HK.out)) (KeepBut.of_grown hg g) (Kd.R_base2 HO_5.out));have n3_:=qo.mk (ho);clear HI0;clear HB;clear HK;clear HO_5;have HI0:=n0_;have HB:=n1_;have HK:=n2_;have HO333:=n3_;clear n0_ n1_ n2_ n3_;clear ho hb hg hat))
    go_roundg k1
    case measure=>have:=HK1.out;omega
    case rel=>exact ⟨(y331),(wrap64 ((wrap64 (x6_1 + 1)) + t321)),(wrap64 (x7_1 + 1)),(t329),(t330),rs_,rs_,H',⟨by have:=HK1.out;omega⟩,⟨by (with_reducible repeat (first|apply Kd.R_alloc|apply Kd.R_drewN|apply Kd.R_drew));exact HO333.out⟩,⟨by repeat (first|(with_reducible first|exact HI0.out|apply IsS114.alloc|apply IsS114.drewN|apply IsS114.drew|apply IsS114.set_1|apply IsS114.set_2)|exact HI0.out)⟩,⟨by repeat (first|(with_reducible first|exact HK.out|apply KeepBut.set_|apply keep_drewN|apply keep_drew|apply keep_alloc)|exact HK.out)⟩,⟨by repeat (first|(with_reducible first|exact HB.out|apply qf|apply qa|apply qd|refine qg ?_ (IsS114.ge HI0.out))|exact HB.out)⟩⟩
   rw [if_neg c14] at H
   exact absurd H (by simp)
  rw [if_neg c11] at H
  exact absurd H (by simp)
 rw [if_neg c8] at H
 have c8b0 : decide (x7_1 < t318) = false:=decide_eq_false c8
 clear c8
 simp only [Option.some.injEq,Prod.mk.injEq] at H
 obtain ⟨rfl,rfl,rfl⟩:=H
 go_wp2_with (first|((with_reducible refine gate_callee (f:=76) rfl ?_);refine goesL_ (some 15) rfl rfl Try.func76 (by kernel_rfl) rfl #[.pointer (some ⟨g,0,none⟩),.int .i64 (wrap64 (a1 + 1))] rfl sm_ ?_;(with_reducible refine (spec_l01Below.calls g s0_0 x1001_1 x1002_1 (wrap64 (a1 + 1)) t318 t319 t320 w0 _ ?side1 ?side2 A7.out).mono ?_);(case side1=>repeat (first|(with_reducible first|exact HI0.out|apply IsS114.alloc|apply IsS114.drewN|apply IsS114.drew|apply IsS114.set_1|apply IsS114.set_2)|exact HI0.out));(case side2=>repeat (first|(with_reducible first|exact HB.out|apply qf|apply qa|apply qd|refine qg ?_ (IsS114.ge HI0.out))|exact HB.out));rintro e w21 ⟨rfl,hi,hb,hk⟩;refine ⟨_,rfl,?_⟩;replace HO_5:=qo.mk (Kd.R_mono (Kd.R_keep (IsS114.apart (show IsS114 w0 _ g s0_0 x1001_1 x1002_1 from by repeat (first|(with_reducible first|exact HI0.out|apply IsS114.alloc|apply IsS114.drewN|apply IsS114.drew|apply IsS114.set_1|apply IsS114.set_2)|exact HI0.out)) (by (with_reducible repeat (first|apply Kd.R_alloc|apply Kd.R_drewN|apply Kd.R_drew));exact HO_5.out) (by decide)) hk (fun _ h=>h.2)) (fun _ h=>h.1));replace HK:=qo.mk (KeepBut.trans (by repeat (first|(with_reducible first|exact HK.out|apply KeepBut.set_|apply keep_drewN|apply keep_drew|apply keep_alloc)|exact HK.out)) hk (.inl rfl));replace HB:=qo.mk (hb);replace HI0:=qo.mk (hi);(try clear hb);(try clear hb2);(try clear hk);(try clear hi)))
 go_ret
 exact ⟨_,rt_,by (with_reducible repeat (first|apply Kd.R_alloc|apply Kd.R_drewN|apply Kd.R_drew));exact HO_5.out,by repeat (first|(with_reducible first|exact HI0.out|apply IsS114.alloc|apply IsS114.drewN|apply IsS114.drew|apply IsS114.set_1|apply IsS114.set_2)|exact HI0.out),by repeat (first|(with_reducible first|exact HB.out|apply qf|apply qa|apply qd|refine qg ?_ (IsS114.ge HI0.out))|exact HB.out),by repeat (first|(with_reducible first|exact HK.out|apply KeepBut.set_|apply keep_drewN|apply keep_drew|apply keep_alloc)|exact HK.out)⟩

/-! ### spec_l05Size: function 56 -/
def spec_l05Size.f (l0 : List Int) : Option (Int):=if (wrap64 (4 + (wrap64 ((l0.length : Int) / 8)))) > 40 then (some 40) else (some (wrap64 (4 + (wrap64 ((l0.length : Int) / 8)))))
set_option maxHeartbeats 8000000 in
set_option maxRecDepth 100000 in
theorem spec_l05Size.calls (A0 : Option Addr) (c0 : Nat) (l0 : List Int) (r : Int) (w : World) (hr0 : Kd.C (Kd.int .u8) w A0 l0.length l0) (hc0 : l0.length ≤ c0) (h : spec_l05Size.f l0 = some r) :
  Calls Try.prog 56 #[.slice A0 l0.length c0] w fun e w'=>e = .returned (.int .i64 r) ∧ Drawn0 w w':=by
 have HR0:=qo.mk hr0
 have HC0:=qo.mk hc0
 clear hr0 hc0
 have H : (if (wrap64 (4 + (wrap64 ((l0.length : Int) / 8)))) > 40 then (some 40) else (some (wrap64 (4 + (wrap64 ((l0.length : Int) / 8)))))) = some r:=h
 clear h
 by_cases c2 : (wrap64 (4 + (wrap64 ((l0.length : Int) / 8)))) > 40
 ·rw [if_pos c2] at H
  have c2b0 : decide (40 < (wrap64 (4 + (wrap64 ((l0.length : Int) / 8))))) = true:=decide_eq_true c2
  clear c2
  obtain rfl:=Option.some.inj H
  go_enter Try.func56,Try.ntmps56
  go_wp2
  go_ret
  exact ⟨by first|rfl|(simp;done)|(simp [*];done),by repeat (first|exact Drawn0.refl _|apply Drawn0.step)⟩
 rw [if_neg c2] at H
 have c2b0 : decide (40 < (wrap64 (4 + (wrap64 ((l0.length : Int) / 8))))) = false:=decide_eq_false c2
 clear c2
 obtain rfl:=Option.some.inj H
 go_enter Try.func56,Try.ntmps56
 go_wp2
 go_ret
 exact ⟨by first|rfl|(simp;done)|(simp [*];done),by repeat (first|exact Drawn0.refl _|apply Drawn0.step)⟩

/-! ### spec_l01Once: function 79 -/
def spec_l01Once.f (s0_0 : List Int) (s0_1 : Int) (s0_2 : Int) (a1 : Int) : Option (Bool × Int × Int):=(spec_l01Below.f s0_0 s0_1 s0_2 a1).bind fun bt334=>(some ((bt334.1 == 0),bt334.2.1,bt334.2.2))
set_option maxHeartbeats 8000000 in
set_option maxRecDepth 100000 in
theorem spec_l01Once.calls (g : Nat) (s0_0 : List Int) (s0_1 : Int) (s0_2 : Int) (a1 : Int) (r1 : Bool) (r2 : Int) (r3 : Int) (w0 w : World) (hI : IsS114 w0 w g s0_0 s0_1 s0_2) (hB : Below w0.heap.size w0 w) (h : spec_l01Once.f s0_0 s0_1 s0_2 a1 = some (r1,r2,r3)) :
  Calls Try.prog 79 #[.pointer (some ⟨g,0,none⟩),.int .i64 a1] w fun e w'=>e = .returned (.bool r1) ∧ IsS114 w0 w' g s0_0 r2 r3 ∧ Below w0.heap.size w0 w' ∧ KeepBut w w' g none:=by
 have HI0:=qo.mk hI
 have HK:=qo.mk (KeepBut.refl w g none)
 have HL:=qo.mk hB.size
 clear hI
 have HW0:=qo.mk hB.size
 have HB:=qo.mk hB
 clear hB
 have H : ((spec_l01Below.f s0_0 s0_1 s0_2 a1).bind fun bt334=>(some ((bt334.1 == 0),bt334.2.1,bt334.2.2))) = some (r1,r2,r3):=h
 clear h
 replace H:=Option.bind_eq_some_iff.mp H
 obtain ⟨⟨t334,t335,t336⟩,A30,H⟩:=H
 replace H : (some ((t334 == 0),t335,t336)) = some (r1,r2,r3):=H
 have A3:=qo.mk A30
 clear A30
 simp only [Option.some.injEq,Prod.mk.injEq] at H
 obtain ⟨rfl,rfl,rfl⟩:=H
 go_enter Try.func79,Try.ntmps79
 go_wp2_with (first|((with_reducible refine gate_callee (f:=76) rfl ?_);refine goesL_ (some 7) rfl rfl Try.func76 (by kernel_rfl) rfl #[.pointer (some ⟨g,0,none⟩),.int .i64 a1] rfl sm_ ?_;(with_reducible refine (spec_l01Below.calls g s0_0 s0_1 s0_2 a1 t334 t335 t336 w0 _ ?side1 ?side2 A3.out).mono ?_);(case side1=>repeat (first|(with_reducible first|exact HI0.out|apply IsS114.alloc|apply IsS114.drewN|apply IsS114.drew|apply IsS114.set_1|apply IsS114.set_2)|exact HI0.out));(case side2=>repeat (first|(with_reducible first|exact HB.out|apply qf|apply qa|apply qd|refine qg ?_ (IsS114.ge HI0.out))|exact HB.out));rintro e w4 ⟨rfl,hi,hb,hk⟩;refine ⟨_,rfl,?_⟩;replace HK:=qo.mk (KeepBut.trans (by repeat (first|(with_reducible first|exact HK.out|apply KeepBut.set_|apply keep_drewN|apply keep_drew|apply keep_alloc)|exact HK.out)) hk (.inl rfl));replace HB:=qo.mk (hb);replace HI0:=qo.mk (hi);(try clear hb);(try clear hb2);(try clear hk);(try clear hi)))
 go_ret
 exact ⟨rt_,by repeat (first|(with_reducible first|exact HI0.out|apply IsS114.alloc|apply IsS114.drewN|apply IsS114.drew|apply IsS114.set_1|apply IsS114.set_2)|exact HI0.out),by repeat (first|(with_reducible first|exact HB.out|apply qf|apply qa|apply qd|refine qg ?_ (IsS114.ge HI0.out))|exact HB.out),by repeat (first|(with_reducible first|exact HK.out|apply KeepBut.set_|apply keep_drewN|apply keep_drew|apply keep_alloc)|exact HK.out)⟩

/-! ### spec_l05Near: function 57 -/
def spec_l05Near.l0 : Nat → List (S69) → List (S69) → Int → List Int → Int → Int → Option ((List (S69)) × Int × Int)
 | 0,_,_,_,_,_,_=>none
 | k + 1,x1,x5,x6,x1000,x1001,x1002=>if x6 < (x1.length : Int) then (if 0 ≤ x6 then ((spec_l01Below.f x1000 x1001 x1002 12).bind fun bt342=>(if bt342.1 = 0 then ((spec_l01Text.f k x1000 bt342.2.1 bt342.2.2 3).bind fun bt345=>(if x5.length < 4398046511104 then (spec_l05Near.l0 k x1 (x5 ++ [(⟨(rd_T69 x1 x6).f0,bt345.1⟩ : S69)]) (wrap64 (x6 + 1)) x1000 bt345.2.1 bt345.2.2) else (none))) else (if bt342.1 = 1 then (spec_l05Near.l0 k x1 x5 (wrap64 (x6 + 1)) x1000 bt342.2.1 bt342.2.2) else (if x5.length < 4398046511104 then (spec_l05Near.l0 k x1 (x5 ++ [(⟨(rd_T69 x1 x6).f0,(rd_T69 x1 x6).f1⟩ : S69)]) (wrap64 (x6 + 1)) x1000 bt342.2.1 bt342.2.2) else (none))))) else (none)) else ((spec_l01Once.f x1000 x1001 x1002 2).bind fun bt354=>(if bt354.1 = true then ((spec_l01Text.f k x1000 bt354.2.1 bt354.2.2 2).bind fun bt357=>(if x5.length < 4398046511104 then (some ((x5 ++ [(⟨(⟨#[122]⟩ : ByteArray),bt357.1⟩ : S69)]),bt357.2.1,bt357.2.2)) else (none))) else (some (x5,bt354.2.1,bt354.2.2))))
def spec_l05Near.f (k : Nat) (s0_0 : List Int) (s0_1 : Int) (s0_2 : Int) (l1 : List (S69)) : Option ((List (S69)) × Int × Int):=spec_l05Near.l0 k l1 (([] : List (S69))) 0 s0_0 s0_1 s0_2
theorem spec_l05Near.mono_l : ∀ k,(∀ y0 y1 y2 y3 y4 y5,LeO (spec_l05Near.l0 k y0 y1 y2 y3 y4 y5) (spec_l05Near.l0 (k + 1) y0 y1 y2 y3 y4 y5))
 | 0=>fun _ _ _ _ _ _ r h=>by simp [spec_l05Near.l0] at h
 | k + 1=>by
  have ih0:=spec_l05Near.mono_l k
  intro y0 y1 y2 y3 y4 y5
  unfold spec_l05Near.l0
  repeat' first|(with_reducible first|exact ih0 _ _ _ _ _ _|exact spec_l01Text.mono _ _ _ _ _|exact LeO.refl _|exact LeO.none _|refine LeO.ite ?_ ?_|refine LeO.bind ?_ (fun _=>?_))|exact ih0 _ _ _ _ _ _|exact spec_l01Text.mono _ _ _ _ _|exact LeO.none _|refine LeO.ite ?_ ?_|refine LeO.bind ?_ (fun _=>?_)
theorem spec_l05Near.mono : ∀ a0 a1 a2 a3 k,LeO (spec_l05Near.f k a0 a1 a2 a3) (spec_l05Near.f (k + 1) a0 a1 a2 a3):=by
 intro a0 a1 a2 a3 k
 have ih0:=spec_l05Near.mono_l k
 unfold spec_l05Near.f
 repeat' first|(with_reducible first|exact ih0 _ _ _ _ _ _|exact spec_l01Text.mono _ _ _ _ _|exact LeO.refl _|exact LeO.none _|refine LeO.ite ?_ ?_|refine LeO.bind ?_ (fun _=>?_))|exact ih0 _ _ _ _ _ _|exact spec_l01Text.mono _ _ _ _ _|exact LeO.none _|refine LeO.ite ?_ ?_|refine LeO.bind ?_ (fun _=>?_)
set_option maxHeartbeats 8000000 in
set_option maxRecDepth 100000 in
theorem spec_l05Near.calls (k : Nat) (g : Nat) (s0_0 : List Int) (s0_1 : Int) (s0_2 : Int) (A1 : Option Addr) (c1 : Nat) (l1 : List (S69)) (r1 : List (S69)) (r2 : Int) (r3 : Int) (w0 w : World) (hI : IsS114 w0 w g s0_0 s0_1 s0_2) (hB : Below w0.heap.size w0 w) (hr1 : ∀ W_,KeepBut w W_ g none → Kd.C k69 W_ A1 l1.length l1) (hc1 : l1.length ≤ c1) (h : spec_l05Near.f k s0_0 s0_1 s0_2 l1 = some (r1,r2,r3)) :
  Calls Try.prog 57 #[.pointer (some ⟨g,0,none⟩),.slice A1 l1.length c1] w fun e w'=>∃ v0_ : Value,e = .returned (v0_) ∧ Kd.R k69 69 w' w.heap.size (fun _=>True) v0_ r1 ∧ IsS114 w0 w' g s0_0 r2 r3 ∧ Below w0.heap.size w0 w' ∧ KeepBut w w' g none:=by
 have hu69:=Try.underlying69
 have HR1:=qo.mk hr1
 have HC1:=qo.mk hc1
 clear hr1 hc1
 have HI0:=qo.mk hI
 have HK:=qo.mk (KeepBut.refl w g none)
 have HL:=qo.mk hB.size
 clear hI
 have HW0:=qo.mk hB.size
 have HB:=qo.mk hB
 clear hB
 have H : (spec_l05Near.l0 k l1 (([] : List (S69))) 0 s0_0 s0_1 s0_2) = some (r1,r2,r3):=h
 clear h
 obtain ⟨y337,hy337⟩ : ∃ y_ : List (S69),y_ = (([] : List (S69))):=⟨_,rfl⟩
 replace H : (spec_l05Near.l0 k l1 y337 0 s0_0 s0_1 s0_2) = some (r1,r2,r3):=by first|(rw [hy337];with_reducible exact H)|(have H2_:=(Option.bind_some _ _).symm.trans H;rw [hy337];with_reducible exact H2_)|(have H2_:=(Option.bind_some _ _).symm.trans H;with_reducible exact H2_)|with_reducible exact H|(rw [hy337];exact H)|exact H
 have Ny337:=qo.mk hy337
 clear hy337
 have H':=qo.mk H
 clear H
 go_enter Try.func57,Try.ntmps57
 go_wp2_with (first|((with_reducible refine gate_dst (N:=8) rfl ?_);refine Kd.R_lit k69 _ 69 ?hg (N:=8) ?hd (xs:=([] : List (S69))) (inner:=[]) (ok:=fun _=>True) (okp:=fun _=>True) ?hr ?hp (fun _ hk=>hk) trivial (Below.refl _ _) (Nat.le_refl _) (by simp) ?_;(case hd=>rfl);(case hg=>rfl);(case hr=>first|(go_simp;done)|(go_simp;rfl));(case hp=>exact (Reps.none _ _));intro v338 w3 ho4 hb hg_ hnew_;clear hg_ hnew_;(first|rw [← Ny337.out] at ho4|(simp only [Int.reduceToNat] at ho4;rw [← Ny337.out] at ho4));have n0_:=qo.mk (Kd.R_lower ho4 (keep_size (w:=w) (g:=g) (row:=none) (by repeat (first|(with_reducible first|exact HK.out|apply KeepBut.set_|apply keep_drewN|apply keep_drew|apply keep_alloc)|exact HK.out))));have n1_:=qo.mk (IsS114.below (by repeat (first|(with_reducible first|exact HI0.out|apply IsS114.alloc|apply IsS114.drewN|apply IsS114.drew|apply IsS114.set_1|apply IsS114.set_2)|exact HI0.out)) hb);have n2_:=qo.mk (KeepBut.trans (by repeat (first|(with_reducible first|exact HK.out|apply KeepBut.set_|apply keep_drewN|apply keep_drew|apply keep_alloc)|exact HK.out)) (KeepBut.of_below hb g none) (.inl rfl));have n3_:=qo.mk (qn (by repeat (first|(with_reducible first|exact HB.out|apply qf|apply qa|apply qd|refine qg ?_ (IsS114.ge HI0.out))|exact HB.out)) hb);clear HI0;clear HK;clear HB;have HO339:=n0_;have HI0:=n1_;have HK:=n2_;have HB:=n3_;clear n0_ n1_ n2_ n3_;clear hb ho4))
 go_loopg [5,6] k (fun kq v5 v6 w'=>∃ (x5_1 : List (S69)) (x6_1 : Int) (x1001_1 : Int) (x1002_1 : Int),v6 = .int .i64 x6_1 ∧ qo (spec_l05Near.l0 kq l1 x5_1 x6_1 s0_0 x1001_1 x1002_1 = some (r1,r2,r3)) ∧ qo (kq ≤ k) ∧ qo (Kd.R k69 69 w' w.heap.size (fun _=>True) v5 x5_1) ∧ qo (IsS114 w0 w' g s0_0 x1001_1 x1002_1) ∧ qo (KeepBut w w' g none) ∧ qo (Below w0.heap.size w0 w'))
 case atStart=>exact ⟨(y337),(0),(s0_1),(s0_2),rs_,H',⟨Nat.le_refl _⟩,⟨by (with_reducible repeat (first|apply Kd.R_alloc|apply Kd.R_drewN|apply Kd.R_drew));exact HO339.out⟩,⟨by repeat (first|(with_reducible first|exact HI0.out|apply IsS114.alloc|apply IsS114.drewN|apply IsS114.drew|apply IsS114.set_1|apply IsS114.set_2)|exact HI0.out)⟩,⟨by repeat (first|(with_reducible first|exact HK.out|apply KeepBut.set_|apply keep_drewN|apply keep_drew|apply keep_alloc)|exact HK.out)⟩,⟨by repeat (first|(with_reducible first|exact HB.out|apply qf|apply qa|apply qd|refine qg ?_ (IsS114.ge HI0.out))|exact HB.out)⟩⟩
 clear H'
 try clear c1
 try clear p2
 obtain ⟨x5_1,x6_1,x1001_1,x1002_1,rfl,HA,HK1,HO_5,HI0,HK,HB⟩:=hrel
 obtain _|k1:=gk
 ·exact absurd HA.out (by simp [spec_l05Near.l0])
 have H:=HA.out
 clear HA
 simp only [spec_l05Near.l0] at H
 by_cases c5 : x6_1 < (l1.length : Int)
 ·rw [if_pos c5] at H
  have c5b0 : decide (x6_1 < (l1.length : Int)) = true:=decide_eq_true c5
  clear c5
  by_cases c6 : 0 ≤ x6_1
  ·rw [if_pos c6] at H
   have c6b0 : decide (0 ≤ x6_1) = true:=decide_eq_true c6
   clear c6
   replace H:=Option.bind_eq_some_iff.mp H
   obtain ⟨⟨t342,t343,t344⟩,A70,H⟩:=H
   replace H : (if t342 = 0 then ((spec_l01Text.f k1 s0_0 t343 t344 3).bind fun bt345=>(if x5_1.length < 4398046511104 then (spec_l05Near.l0 k1 l1 (x5_1 ++ [(⟨(rd_T69 l1 x6_1).f0,bt345.1⟩ : S69)]) (wrap64 (x6_1 + 1)) s0_0 bt345.2.1 bt345.2.2) else (none))) else (if t342 = 1 then (spec_l05Near.l0 k1 l1 x5_1 (wrap64 (x6_1 + 1)) s0_0 t343 t344) else (if x5_1.length < 4398046511104 then (spec_l05Near.l0 k1 l1 (x5_1 ++ [(⟨(rd_T69 l1 x6_1).f0,(rd_T69 l1 x6_1).f1⟩ : S69)]) (wrap64 (x6_1 + 1)) s0_0 t343 t344) else (none)))) = some (r1,r2,r3):=H
   have A7:=qo.mk A70
   clear A70
   by_cases c8 : t342 = 0
   ·rw [if_pos c8] at H
    have c8b0 : (t342 == 0) = true:=beq_iff_eq.mpr c8
    have c8b1 : (t342 != 0) = false:=bne_eq_false_iff_eq.mpr c8
    clear c8
    replace H:=Option.bind_eq_some_iff.mp H
    obtain ⟨⟨t345,t346,t347⟩,A90,H⟩:=H
    replace H : (if x5_1.length < 4398046511104 then (spec_l05Near.l0 k1 l1 (x5_1 ++ [(⟨(rd_T69 l1 x6_1).f0,t345⟩ : S69)]) (wrap64 (x6_1 + 1)) s0_0 t346 t347) else (none)) = some (r1,r2,r3):=H
    have A9:=qo.mk A90
    clear A90
    by_cases c10 : x5_1.length < 4398046511104
    ·rw [if_pos c10] at H
     have LMc10:=qo.mk c10
     clear c10
     obtain ⟨y348,hy348⟩ : ∃ y_ : List (S69),y_ = (x5_1 ++ [(⟨(rd_T69 l1 x6_1).f0,t345⟩ : S69)]):=⟨_,rfl⟩
     replace H : (spec_l05Near.l0 k1 l1 y348 (wrap64 (x6_1 + 1)) s0_0 t346 t347) = some (r1,r2,r3):=by first|(rw [hy348];with_reducible exact H)|(have H2_:=(Option.bind_some _ _).symm.trans H;rw [hy348];with_reducible exact H2_)|(have H2_:=(Option.bind_some _ _).symm.trans H;with_reducible exact H2_)|with_reducible exact H|(rw [hy348];exact H)|exact H
     have Ny348:=qo.mk hy348
     clear hy348
     have H':=qo.mk H
     clear H
     have p340 : 0 ≤ (x6_1 : Int):=dt_
     have q340 : x6_1 < (l1.length : Int):=dt_
     obtain ⟨ad340,e340,hx340_0,hx340_1⟩:=at_T69 (Kd.C_foot_now HR1.out HK.out) x6_1 p340 q340
     cases e340
     replace p340:=eq_true p340
     replace q340:=eq_true q340
     go_wp2_with (first|((with_reducible refine gate_dst (N:=7) rfl ?_);refine box_event ?hg (N:=7) ?hd (cs:=#[.string (⟨#[]⟩ : ByteArray),.string (⟨#[]⟩ : ByteArray)]) (t:=69) ?hr ?_;(case hd=>rfl);(case hg=>rfl);(case hr=>first|(go_simp;done)|(go_simp;rfl));intro gb341 hg w11 hbox hb;have n0_:=qo.mk (Kd.R_below (Kd.R_elderB (by (with_reducible repeat (first|apply Kd.R_alloc|apply Kd.R_drewN|apply Kd.R_drew));exact HO_5.out) gb341 (Nat.le_of_eq hg.symm)) hb);have n1_:=qo.mk (IsS114.below (by repeat (first|(with_reducible first|exact HI0.out|apply IsS114.alloc|apply IsS114.drewN|apply IsS114.drew|apply IsS114.set_1|apply IsS114.set_2)|exact HI0.out)) hb);have n2_:=qo.mk (KeepBut.trans (by repeat (first|(with_reducible first|exact HK.out|apply KeepBut.set_|apply keep_drewN|apply keep_drew|apply keep_alloc)|exact HK.out)) (KeepBut.of_below hb g none) (.inl rfl));have n3_:=qo.mk (qn (by repeat (first|(with_reducible first|exact HB.out|apply qf|apply qa|apply qd|refine qg ?_ (IsS114.ge HI0.out))|exact HB.out)) hb);have n4_:=qo.mk (hbox);have n5_:=qo.mk ((by rw [hg];exact (keep_size (w:=w) (g:=g) (row:=none) (by repeat (first|(with_reducible first|exact HK.out|apply KeepBut.set_|apply keep_drewN|apply keep_drew|apply keep_alloc)|exact HK.out))) : w.heap.size ≤ gb341));have n6_:=qo.mk ((Nat.le_trans HW0.out (by rw [hg];exact (keep_size (w:=w) (g:=g) (row:=none) (by repeat (first|(with_reducible first|exact HK.out|apply KeepBut.set_|apply keep_drewN|apply keep_drew|apply keep_alloc)|exact HK.out))) : w.heap.size ≤ gb341) : w0.heap.size ≤ gb341));have n7_:=qo.mk ((by rw [hg];exact Nat.ne_of_lt (IsS114.lt (show IsS114 w0 _ g s0_0 x1001_1 x1002_1 from by repeat (first|(with_reducible first|exact HI0.out|apply IsS114.alloc|apply IsS114.drewN|apply IsS114.drew|apply IsS114.set_1|apply IsS114.set_2)|exact HI0.out))) : g ≠ gb341));have n8_:=qo.mk ((by rw [hg];exact Nat.ne_of_gt (IsS114.lt (show IsS114 w0 _ g s0_0 x1001_1 x1002_1 from by repeat (first|(with_reducible first|exact HI0.out|apply IsS114.alloc|apply IsS114.drewN|apply IsS114.drew|apply IsS114.set_1|apply IsS114.set_2)|exact HI0.out))) : gb341 ≠ g));clear HO_5;clear HI0;clear HK;clear HB;have HO_5:=n0_;have HI0:=n1_;have HK:=n2_;have HB:=n3_;have BK341:=n4_;have GW341:=n5_;have GE341:=n6_;have NB0_341:=n7_;have NB341_0:=n8_;clear n0_ n1_ n2_ n3_ n4_ n5_ n6_ n7_ n8_;clear hb hbox hg;have hnb12:=NB341_0.out;have hnc12:=NB0_341.out;obtain ⟨hcz13_0,hcz13_1,hfz13_0,hfz13_1⟩:=c2f_ BK341.out)|((with_reducible refine gate_callee (f:=76) rfl ?_);refine goesL_ (some 20) rfl rfl Try.func76 (by kernel_rfl) rfl #[.pointer (some ⟨g,0,none⟩),.int .i64 12] rfl sm_ ?_;(with_reducible refine (spec_l01Below.calls g s0_0 x1001_1 x1002_1 12 t342 t343 t344 w0 _ ?side1 ?side2 A7.out).mono ?_);(case side1=>repeat (first|(with_reducible first|exact HI0.out|apply IsS114.alloc|apply IsS114.drewN|apply IsS114.drew|apply IsS114.set_1|apply IsS114.set_2|refine IsS114.far ?_ NB0_341.out _)|exact HI0.out));(case side2=>repeat (first|(with_reducible first|exact HB.out|apply qf|apply qa|apply qd|refine qg ?_ (IsS114.ge HI0.out)|refine qg ?_ GE341.out)|exact HB.out));rintro e w14 ⟨rfl,hi,hb,hk⟩;refine ⟨_,rfl,?_⟩;replace HO_5:=qo.mk (Kd.R_mono (Kd.R_keep (IsS114.apart (show IsS114 w0 _ g s0_0 x1001_1 x1002_1 from by repeat (first|(with_reducible first|exact HI0.out|apply IsS114.alloc|apply IsS114.drewN|apply IsS114.drew|apply IsS114.set_1|apply IsS114.set_2|refine IsS114.far ?_ NB0_341.out _)|exact HI0.out)) (by (with_reducible repeat (first|apply Kd.R_alloc|apply Kd.R_drewN|apply Kd.R_drew));exact (Kd.R_mono (Kd.R_far (p:=⟨gb341,1,none⟩) (Kd.R_far (p:=⟨gb341,0,none⟩) (Kd.R_mono HO_5.out (fun k_ hk=>(⟨hk,hk.2⟩ : _ ∧ k_ ≠ gb341))) (fun _ hk=>hk.2) (.string ((rd_T69 l1 x6_1).f0))) (fun _ hk=>hk.2) (.string ((rd_T69 l1 x6_1).f1))) (fun _ h_=>h_.1))) (by decide)) hk (fun _ h=>h.2)) (fun _ h=>h.1));replace BK341:=qo.mk (KeepBut.blk hk (g':=gb341) (o:=.cells #[.string ((rd_T69 l1 x6_1).f0),.string ((rd_T69 l1 x6_1).f1)] 69 (0,0)) (by (with_reducible repeat (first|refine qb ?_ _|refine qe ?_|refine qc ?_ _));refine blk_put (cs:=#[.string ((rd_T69 l1 x6_1).f0),.string (⟨#[]⟩ : ByteArray)]) ?_ 1 _ rfl;(with_reducible repeat (first|refine qb ?_ _|refine qe ?_|refine qc ?_ _));refine blk_put (cs:=#[.string (⟨#[]⟩ : ByteArray),.string (⟨#[]⟩ : ByteArray)]) ?_ 0 _ rfl;(with_reducible repeat (first|refine qb ?_ _|refine qe ?_|refine qc ?_ _));exact BK341.out) NB341_0.out (by simp));replace HK:=qo.mk (KeepBut.trans (by repeat (first|(with_reducible first|exact HK.out|apply KeepBut.set_|apply keep_drewN|apply keep_drew|apply keep_alloc|refine keep_far ?_ GW341.out _)|exact HK.out)) hk (.inl rfl));replace HB:=qo.mk (hb);replace HI0:=qo.mk (hi);(try clear hb);(try clear hb2);(try clear hk);(try clear hi))|((with_reducible refine gate_callee (f:=78) rfl ?_);refine goesL_ (some 28) rfl rfl Try.func78 (by kernel_rfl) rfl #[.pointer (some ⟨g,0,none⟩),.int .i64 3] rfl sm_ ?_;(with_reducible refine (spec_l01Text.calls k1 g s0_0 t343 t344 3 t345 t346 t347 w0 _ ?side1 ?side2 A9.out).mono ?_);(case side1=>repeat (first|(with_reducible first|exact HI0.out|apply IsS114.alloc|apply IsS114.drewN|apply IsS114.drew|apply IsS114.set_1|apply IsS114.set_2|refine IsS114.far ?_ NB0_341.out _)|exact HI0.out));(case side2=>repeat (first|(with_reducible first|exact HB.out|apply qf|apply qa|apply qd|refine qg ?_ (IsS114.ge HI0.out)|refine qg ?_ GE341.out)|exact HB.out));rintro e w15 ⟨rfl,hi,hb,hk⟩;refine ⟨_,rfl,?_⟩;replace HO_5:=qo.mk (Kd.R_mono (Kd.R_keep (IsS114.apart (show IsS114 w0 _ g s0_0 t343 t344 from by repeat (first|(with_reducible first|exact HI0.out|apply IsS114.alloc|apply IsS114.drewN|apply IsS114.drew|apply IsS114.set_1|apply IsS114.set_2|refine IsS114.far ?_ NB0_341.out _)|exact HI0.out)) (by (with_reducible repeat (first|apply Kd.R_alloc|apply Kd.R_drewN|apply Kd.R_drew));exact HO_5.out) (by decide)) hk (fun _ h=>h.2)) (fun _ h=>h.1));replace BK341:=qo.mk (KeepBut.blk hk (g':=gb341) (o:=.cells #[.string ((rd_T69 l1 x6_1).f0),.string ((rd_T69 l1 x6_1).f1)] 69 (0,0)) (bx_ BK341).out NB341_0.out (by simp));replace HK:=qo.mk (KeepBut.trans (by repeat (first|(with_reducible first|exact HK.out|apply KeepBut.set_|apply keep_drewN|apply keep_drew|apply keep_alloc|refine keep_far ?_ GW341.out _)|exact HK.out)) hk (.inl rfl));replace HB:=qo.mk (hb);replace HI0:=qo.mk (hi);(try clear hb);(try clear hb2);(try clear hk);(try clear hi);obtain ⟨hcz16_0,hcz16_1,hfz16_0,hfz16_1⟩:=c2f_ BK341.out)|((with_reducible refine gate_builtin (b:=.append) (xs:=#[.tmp 30,.tmp 32]) rfl ?_);at_builtin;refine Kd.R_append k69 w.heap.size rfl (.tmp 30) (.tmp 32) 37 69 (.agg #[(.string ⟨#[]⟩),(.string ⟨#[]⟩)]) 32 rfl Try.underlying37 info69 rfl (by decide) (by omega) u5 x5_1 (⟨(rd_T69 l1 x6_1).f0,t345⟩ : S69) [.string ((rd_T69 l1 x6_1).f0),.string t345] (fun k_=>k_ ≠ gb341) (fun _=>False) rfl (by first|(go_simp;done)|(go_simp;rfl)) ?aP (fun _ hk=>hk.elim) ?aF ?aO (Below.refl _ _) ?aS ?aL ?_;(case aP=>exact k69_mkM _ _ _ (⟨(rd_T69 l1 x6_1).f0,t345⟩ : S69));(case aF=>exact (fun k_ hk=>Kd.freshB (g:=gb341) (o:=.cells #[.string ((rd_T69 l1 x6_1).f0),.string t345] 69 (0,0)) (by (with_reducible repeat (first|refine qb ?_ _|refine qe ?_|refine qc ?_ _));refine blk_put (cs:=#[.string ((rd_T69 l1 x6_1).f0),.string ((rd_T69 l1 x6_1).f1)]) ?_ 1 _ rfl;(with_reducible repeat (first|refine qb ?_ _|refine qe ?_|refine qc ?_ _));exact BK341.out) k_ hk));(case aO=>exact (by (with_reducible repeat (first|apply Kd.R_alloc|apply Kd.R_drewN|apply Kd.R_drew));exact Kd.R_mono (Kd.R_far (p:=⟨gb341,1,none⟩) (Kd.R_mono HO_5.out (fun k_ hk=>(⟨hk,hk.2⟩ : _ ∧ k_ ≠ gb341))) (fun _ hk=>hk.2) (.string t345)) (fun _ hk=>hk.1.2)));(case aS=>exact (keep_size (w:=w) (g:=g) (row:=none) (by repeat (first|(with_reducible first|exact HK.out|apply KeepBut.set_|apply keep_drewN|apply keep_drew|apply keep_alloc|refine keep_far ?_ GW341.out _)|exact HK.out))));(case aL=>have:=LMc10.out;omega);intro v349 w17 ho hb hg hat;rw [← Ny348.out] at ho;have n0_:=qo.mk (IsS114.grown (IsS114.far (p:=⟨gb341,1,none⟩) HI0.out NB0_341.out (.string t345)) hg (IsS114.own_ne HI0.out HO_5.out (by decide)));have n1_:=qo.mk (blk_grown (g:=gb341) (o:=.cells #[.string ((rd_T69 l1 x6_1).f0),.string t345] 69 (0,0)) (by (with_reducible repeat (first|refine qb ?_ _|refine qe ?_|refine qc ?_ _));refine blk_put (cs:=#[.string ((rd_T69 l1 x6_1).f0),.string ((rd_T69 l1 x6_1).f1)]) ?_ 1 _ rfl;(with_reducible repeat (first|refine qb ?_ _|refine qe ?_|refine qc ?_ _));exact BK341.out) hg (Kd.R_away HO_5.out (fun _ hk=>hk.2)));have n2_:=qo.mk (below_weaken (by repeat (first|(with_reducible first|exact HB.out|apply qf|apply qa|apply qd|refine qg ?_ (IsS114.ge HI0.out)|refine qg ?_ GE341.out)|exact HB.out)) HL.out hb);have n3_:=qo.mk (KeepBut.trans (by repeat (first|(with_reducible first|exact HK.out|apply KeepBut.set_|apply keep_drewN|apply keep_drew|apply keep_alloc|refine keep_far ?_ GW341.out _)|exact HK.out)) (KeepBut.of_grown hg g) (Kd.R_base2 HO_5.out));have n4_:=qo.mk (ho);clear HI0;clear BK341;clear HB;clear HK;clear HO_5;have HI0:=n0_;have BK341:=n1_;have HB:=n2_;have HK:=n3_;have HO350:=n4_;clear n0_ n1_ n2_ n3_ n4_;clear ho hb hg hat))
     go_roundg k1
     case measure=>have:=HK1.out;omega
     case rel=>exact ⟨(y348),(wrap64 (x6_1 + 1)),(t346),(t347),rs_,H',⟨by have:=HK1.out;omega⟩,⟨by (with_reducible repeat (first|apply Kd.R_alloc|apply Kd.R_drewN|apply Kd.R_drew));exact Kd.R_mono HO350.out (fun _ hk=>trivial)⟩,⟨by repeat (first|(with_reducible first|exact HI0.out|apply IsS114.alloc|apply IsS114.drewN|apply IsS114.drew|apply IsS114.set_1|apply IsS114.set_2|refine IsS114.far ?_ NB0_341.out _)|exact HI0.out)⟩,⟨by repeat (first|(with_reducible first|exact HK.out|apply KeepBut.set_|apply keep_drewN|apply keep_drew|apply keep_alloc|refine keep_far ?_ GW341.out _)|exact HK.out)⟩,⟨by repeat (first|(with_reducible first|exact HB.out|apply qf|apply qa|apply qd|refine qg ?_ (IsS114.ge HI0.out)|refine qg ?_ GE341.out)|exact HB.out)⟩⟩
    rw [if_neg c10] at H
    exact absurd H (by simp)
   rw [if_neg c8] at H
   have c8b0 : (t342 == 0) = false:=beq_eq_false_iff_ne.mpr c8
   have c8b1 : (t342 != 0) = true:=bne_iff_ne.mpr c8
   by_cases c18 : t342 = 1
   ·rw [if_pos c18] at H
    have c18b0 : (t342 == 1) = true:=beq_iff_eq.mpr c18
    have c18b1 : (t342 != 1) = false:=bne_eq_false_iff_eq.mpr c18
    clear c18
    have H':=qo.mk H
    clear H
    have p340 : 0 ≤ (x6_1 : Int):=dt_
    have q340 : x6_1 < (l1.length : Int):=dt_
    obtain ⟨ad340,e340,hx340_0,hx340_1⟩:=at_T69 (Kd.C_foot_now HR1.out HK.out) x6_1 p340 q340
    cases e340
    replace p340:=eq_true p340
    replace q340:=eq_true q340
    go_wp2_with (first|((with_reducible refine gate_dst (N:=7) rfl ?_);refine box_event ?hg (N:=7) ?hd (cs:=#[.string (⟨#[]⟩ : ByteArray),.string (⟨#[]⟩ : ByteArray)]) (t:=69) ?hr ?_;(case hd=>rfl);(case hg=>rfl);(case hr=>first|(go_simp;done)|(go_simp;rfl));intro gb341 hg w19 hbox hb;have n0_:=qo.mk (Kd.R_below (Kd.R_elderB (by (with_reducible repeat (first|apply Kd.R_alloc|apply Kd.R_drewN|apply Kd.R_drew));exact HO_5.out) gb341 (Nat.le_of_eq hg.symm)) hb);have n1_:=qo.mk (IsS114.below (by repeat (first|(with_reducible first|exact HI0.out|apply IsS114.alloc|apply IsS114.drewN|apply IsS114.drew|apply IsS114.set_1|apply IsS114.set_2)|exact HI0.out)) hb);have n2_:=qo.mk (KeepBut.trans (by repeat (first|(with_reducible first|exact HK.out|apply KeepBut.set_|apply keep_drewN|apply keep_drew|apply keep_alloc)|exact HK.out)) (KeepBut.of_below hb g none) (.inl rfl));have n3_:=qo.mk (qn (by repeat (first|(with_reducible first|exact HB.out|apply qf|apply qa|apply qd|refine qg ?_ (IsS114.ge HI0.out))|exact HB.out)) hb);have n4_:=qo.mk (hbox);have n5_:=qo.mk ((by rw [hg];exact (keep_size (w:=w) (g:=g) (row:=none) (by repeat (first|(with_reducible first|exact HK.out|apply KeepBut.set_|apply keep_drewN|apply keep_drew|apply keep_alloc)|exact HK.out))) : w.heap.size ≤ gb341));have n6_:=qo.mk ((Nat.le_trans HW0.out (by rw [hg];exact (keep_size (w:=w) (g:=g) (row:=none) (by repeat (first|(with_reducible first|exact HK.out|apply KeepBut.set_|apply keep_drewN|apply keep_drew|apply keep_alloc)|exact HK.out))) : w.heap.size ≤ gb341) : w0.heap.size ≤ gb341));have n7_:=qo.mk ((by rw [hg];exact Nat.ne_of_lt (IsS114.lt (show IsS114 w0 _ g s0_0 x1001_1 x1002_1 from by repeat (first|(with_reducible first|exact HI0.out|apply IsS114.alloc|apply IsS114.drewN|apply IsS114.drew|apply IsS114.set_1|apply IsS114.set_2)|exact HI0.out))) : g ≠ gb341));have n8_:=qo.mk ((by rw [hg];exact Nat.ne_of_gt (IsS114.lt (show IsS114 w0 _ g s0_0 x1001_1 x1002_1 from by repeat (first|(with_reducible first|exact HI0.out|apply IsS114.alloc|apply IsS114.drewN|apply IsS114.drew|apply IsS114.set_1|apply IsS114.set_2)|exact HI0.out))) : gb341 ≠ g));clear HO_5;clear HI0;clear HK;clear HB;have HO_5:=n0_;have HI0:=n1_;have HK:=n2_;have HB:=n3_;have BK341:=n4_;have GW341:=n5_;have GE341:=n6_;have NB0_341:=n7_;have NB341_0:=n8_;clear n0_ n1_ n2_ n3_ n4_ n5_ n6_ n7_ n8_;clear hb hbox hg;have hnb20:=NB341_0.out;have hnc20:=NB0_341.out;obtain ⟨hcz21_0,hcz21_1,hfz21_0,hfz21_1⟩:=c2f_ BK341.out)|((with_reducible refine gate_callee (f:=76) rfl ?_);refine goesL_ (some 20) rfl rfl Try.func76 (by kernel_rfl) rfl #[.pointer (some ⟨g,0,none⟩),.int .i64 12] rfl sm_ ?_;(with_reducible refine (spec_l01Below.calls g s0_0 x1001_1 x1002_1 12 t342 t343 t344 w0 _ ?side1 ?side2 A7.out).mono ?_);(case side1=>repeat (first|(with_reducible first|exact HI0.out|apply IsS114.alloc|apply IsS114.drewN|apply IsS114.drew|apply IsS114.set_1|apply IsS114.set_2|refine IsS114.far ?_ NB0_341.out _)|exact HI0.out));(case side2=>repeat (first|(with_reducible first|exact HB.out|apply qf|apply qa|apply qd|refine qg ?_ (IsS114.ge HI0.out)|refine qg ?_ GE341.out)|exact HB.out));rintro e w22 ⟨rfl,hi,hb,hk⟩;refine ⟨_,rfl,?_⟩;replace HO_5:=qo.mk (Kd.R_mono (Kd.R_keep (IsS114.apart (show IsS114 w0 _ g s0_0 x1001_1 x1002_1 from by repeat (first|(with_reducible first|exact HI0.out|apply IsS114.alloc|apply IsS114.drewN|apply IsS114.drew|apply IsS114.set_1|apply IsS114.set_2|refine IsS114.far ?_ NB0_341.out _)|exact HI0.out)) (by (with_reducible repeat (first|apply Kd.R_alloc|apply Kd.R_drewN|apply Kd.R_drew));exact (Kd.R_mono (Kd.R_far (p:=⟨gb341,1,none⟩) (Kd.R_far (p:=⟨gb341,0,none⟩) (Kd.R_mono HO_5.out (fun k_ hk=>(⟨hk,hk.2⟩ : _ ∧ k_ ≠ gb341))) (fun _ hk=>hk.2) (.string ((rd_T69 l1 x6_1).f0))) (fun _ hk=>hk.2) (.string ((rd_T69 l1 x6_1).f1))) (fun _ h_=>h_.1))) (by decide)) hk (fun _ h=>h.2)) (fun _ h=>h.1));replace BK341:=qo.mk (KeepBut.blk hk (g':=gb341) (o:=.cells #[.string ((rd_T69 l1 x6_1).f0),.string ((rd_T69 l1 x6_1).f1)] 69 (0,0)) (by (with_reducible repeat (first|refine qb ?_ _|refine qe ?_|refine qc ?_ _));refine blk_put (cs:=#[.string ((rd_T69 l1 x6_1).f0),.string (⟨#[]⟩ : ByteArray)]) ?_ 1 _ rfl;(with_reducible repeat (first|refine qb ?_ _|refine qe ?_|refine qc ?_ _));refine blk_put (cs:=#[.string (⟨#[]⟩ : ByteArray),.string (⟨#[]⟩ : ByteArray)]) ?_ 0 _ rfl;(with_reducible repeat (first|refine qb ?_ _|refine qe ?_|refine qc ?_ _));exact BK341.out) NB341_0.out (by simp));replace HK:=qo.mk (KeepBut.trans (by repeat (first|(with_reducible first|exact HK.out|apply KeepBut.set_|apply keep_drewN|apply keep_drew|apply keep_alloc|refine keep_far ?_ GW341.out _)|exact HK.out)) hk (.inl rfl));replace HB:=qo.mk (hb);replace HI0:=qo.mk (hi);(try clear hb);(try clear hb2);(try clear hk);(try clear hi)))
    go_roundg k1
    case measure=>have:=HK1.out;omega
    case rel=>exact ⟨(x5_1),(wrap64 (x6_1 + 1)),(t343),(t344),rs_,H',⟨by have:=HK1.out;omega⟩,⟨by (with_reducible repeat (first|apply Kd.R_alloc|apply Kd.R_drewN|apply Kd.R_drew));exact Kd.R_mono HO_5.out (fun _ hk=>trivial)⟩,⟨by repeat (first|(with_reducible first|exact HI0.out|apply IsS114.alloc|apply IsS114.drewN|apply IsS114.drew|apply IsS114.set_1|apply IsS114.set_2|refine IsS114.far ?_ NB0_341.out _)|exact HI0.out)⟩,⟨by repeat (first|(with_reducible first|exact HK.out|apply KeepBut.set_|apply keep_drewN|apply keep_drew|apply keep_alloc|refine keep_far ?_ GW341.out _)|exact HK.out)⟩,⟨by repeat (first|(with_reducible first|exact HB.out|apply qf|apply qa|apply qd|refine qg ?_ (IsS114.ge HI0.out)|refine qg ?_ GE341.out)|exact HB.out)⟩⟩
   rw [if_neg c18] at H
   have c18b0 : (t342 == 1) = false:=beq_eq_false_iff_ne.mpr c18
   have c18b1 : (t342 != 1) = true:=bne_iff_ne.mpr c18
   by_cases c23 : x5_1.length < 4398046511104
   ·rw [if_pos c23] at H
    have LMc23:=qo.mk c23
    clear c23
    obtain ⟨y351,hy351⟩ : ∃ y_ : List (S69),y_ = (x5_1 ++ [(⟨(rd_T69 l1 x6_1).f0,(rd_T69 l1 x6_1).f1⟩ : S69)]):=⟨_,rfl⟩
    replace H : (spec_l05Near.l0 k1 l1 y351 (wrap64 (x6_1 + 1)) s0_0 t343 t344) = some (r1,r2,r3):=by first|(rw [hy351];with_reducible exact H)|(have H2_:=(Option.bind_some _ _).symm.trans H;rw [hy351];with_reducible exact H2_)|(have H2_:=(Option.bind_some _ _).symm.trans H;with_reducible exact H2_)|with_reducible exact H|(rw [hy351];exact H)|exact H
    have Ny351:=qo.mk hy351
    clear hy351
    have H':=qo.mk H
    clear H
    have p340 : 0 ≤ (x6_1 : Int):=dt_
    have q340 : x6_1 < (l1.length : Int):=dt_
    obtain ⟨ad340,e340,hx340_0,hx340_1⟩:=at_T69 (Kd.C_foot_now HR1.out HK.out) x6_1 p340 q340
    cases e340
    replace p340:=eq_true p340
    replace q340:=eq_true q340
    go_wp2_with (first|((with_reducible refine gate_dst (N:=7) rfl ?_);refine box_event ?hg (N:=7) ?hd (cs:=#[.string (⟨#[]⟩ : ByteArray),.string (⟨#[]⟩ : ByteArray)]) (t:=69) ?hr ?_;(case hd=>rfl);(case hg=>rfl);(case hr=>first|(go_simp;done)|(go_simp;rfl));intro gb341 hg w24 hbox hb;have n0_:=qo.mk (Kd.R_below (Kd.R_elderB (by (with_reducible repeat (first|apply Kd.R_alloc|apply Kd.R_drewN|apply Kd.R_drew));exact HO_5.out) gb341 (Nat.le_of_eq hg.symm)) hb);have n1_:=qo.mk (IsS114.below (by repeat (first|(with_reducible first|exact HI0.out|apply IsS114.alloc|apply IsS114.drewN|apply IsS114.drew|apply IsS114.set_1|apply IsS114.set_2)|exact HI0.out)) hb);have n2_:=qo.mk (KeepBut.trans (by repeat (first|(with_reducible first|exact HK.out|apply KeepBut.set_|apply keep_drewN|apply keep_drew|apply keep_alloc)|exact HK.out)) (KeepBut.of_below hb g none) (.inl rfl));have n3_:=qo.mk (qn (by repeat (first|(with_reducible first|exact HB.out|apply qf|apply qa|apply qd|refine qg ?_ (IsS114.ge HI0.out))|exact HB.out)) hb);have n4_:=qo.mk (hbox);have n5_:=qo.mk ((by rw [hg];exact (keep_size (w:=w) (g:=g) (row:=none) (by repeat (first|(with_reducible first|exact HK.out|apply KeepBut.set_|apply keep_drewN|apply keep_drew|apply keep_alloc)|exact HK.out))) : w.heap.size ≤ gb341));have n6_:=qo.mk ((Nat.le_trans HW0.out (by rw [hg];exact (keep_size (w:=w) (g:=g) (row:=none) (by repeat (first|(with_reducible first|exact HK.out|apply KeepBut.set_|apply keep_drewN|apply keep_drew|apply keep_alloc)|exact HK.out))) : w.heap.size ≤ gb341) : w0.heap.size ≤ gb341));have n7_:=qo.mk ((by rw [hg];exact Nat.ne_of_lt (IsS114.lt (show IsS114 w0 _ g s0_0 x1001_1 x1002_1 from by repeat (first|(with_reducible first|exact HI0.out|apply IsS114.alloc|apply IsS114.drewN|apply IsS114.drew|apply IsS114.set_1|apply IsS114.set_2)|exact HI0.out))) : g ≠ gb341));have n8_:=qo.mk ((by rw [hg];exact Nat.ne_of_gt (IsS114.lt (show IsS114 w0 _ g s0_0 x1001_1 x1002_1 from by repeat (first|(with_reducible first|exact HI0.out|apply IsS114.alloc|apply IsS114.drewN|apply IsS114.drew|apply IsS114.set_1|apply IsS114.set_2)|exact HI0.out))) : gb341 ≠ g));clear HO_5;clear HI0;clear HK;clear HB;have HO_5:=n0_;have HI0:=n1_;have HK:=n2_;have HB:=n3_;have BK341:=n4_;have GW341:=n5_;have GE341:=n6_;have NB0_341:=n7_;have NB341_0:=n8_;clear n0_ n1_ n2_ n3_ n4_ n5_ n6_ n7_ n8_;clear hb hbox hg;have hnb25:=NB341_0.out;have hnc25:=NB0_341.out;obtain ⟨hcz26_0,hcz26_1,hfz26_0,hfz26_1⟩:=c2f_ BK341.out)|((with_reducible refine gate_callee (f:=76) rfl ?_);refine goesL_ (some 20) rfl rfl Try.func76 (by kernel_rfl) rfl #[.pointer (some ⟨g,0,none⟩),.int .i64 12] rfl sm_ ?_;(with_reducible refine (spec_l01Below.calls g s0_0 x1001_1 x1002_1 12 t342 t343 t344 w0 _ ?side1 ?side2 A7.out).mono ?_);(case side1=>repeat (first|(with_reducible first|exact HI0.out|apply IsS114.alloc|apply IsS114.drewN|apply IsS114.drew|apply IsS114.set_1|apply IsS114.set_2|refine IsS114.far ?_ NB0_341.out _)|exact HI0.out));(case side2=>repeat (first|(with_reducible first|exact HB.out|apply qf|apply qa|apply qd|refine qg ?_ (IsS114.ge HI0.out)|refine qg ?_ GE341.out)|exact HB.out));rintro e w27 ⟨rfl,hi,hb,hk⟩;refine ⟨_,rfl,?_⟩;replace HO_5:=qo.mk (Kd.R_mono (Kd.R_keep (IsS114.apart (show IsS114 w0 _ g s0_0 x1001_1 x1002_1 from by repeat (first|(with_reducible first|exact HI0.out|apply IsS114.alloc|apply IsS114.drewN|apply IsS114.drew|apply IsS114.set_1|apply IsS114.set_2|refine IsS114.far ?_ NB0_341.out _)|exact HI0.out)) (by (with_reducible repeat (first|apply Kd.R_alloc|apply Kd.R_drewN|apply Kd.R_drew));exact (Kd.R_mono (Kd.R_far (p:=⟨gb341,1,none⟩) (Kd.R_far (p:=⟨gb341,0,none⟩) (Kd.R_mono HO_5.out (fun k_ hk=>(⟨hk,hk.2⟩ : _ ∧ k_ ≠ gb341))) (fun _ hk=>hk.2) (.string ((rd_T69 l1 x6_1).f0))) (fun _ hk=>hk.2) (.string ((rd_T69 l1 x6_1).f1))) (fun _ h_=>h_.1))) (by decide)) hk (fun _ h=>h.2)) (fun _ h=>h.1));replace BK341:=qo.mk (KeepBut.blk hk (g':=gb341) (o:=.cells #[.string ((rd_T69 l1 x6_1).f0),.string ((rd_T69 l1 x6_1).f1)] 69 (0,0)) (by (with_reducible repeat (first|refine qb ?_ _|refine qe ?_|refine qc ?_ _));refine blk_put (cs:=#[.string ((rd_T69 l1 x6_1).f0),.string (⟨#[]⟩ : ByteArray)]) ?_ 1 _ rfl;(with_reducible repeat (first|refine qb ?_ _|refine qe ?_|refine qc ?_ _));refine blk_put (cs:=#[.string (⟨#[]⟩ : ByteArray),.string (⟨#[]⟩ : ByteArray)]) ?_ 0 _ rfl;(with_reducible repeat (first|refine qb ?_ _|refine qe ?_|refine qc ?_ _));exact BK341.out) NB341_0.out (by simp));replace HK:=qo.mk (KeepBut.trans (by repeat (first|(with_reducible first|exact HK.out|apply KeepBut.set_|apply keep_drewN|apply keep_drew|apply keep_alloc|refine keep_far ?_ GW341.out _)|exact HK.out)) hk (.inl rfl));replace HB:=qo.mk (hb);replace HI0:=qo.mk (hi);(try clear hb);(try clear hb2);(try clear hk);(try clear hi);obtain ⟨hcz28_0,hcz28_1,hfz28_0,hfz28_1⟩:=c2f_ BK341.out)|((with_reducible refine gate_builtin (b:=.append) (xs:=#[.tmp 21,.tmp 23]) rfl ?_);at_builtin;refine Kd.R_append k69 w.heap.size rfl (.tmp 21) (.tmp 23) 37 69 (.agg #[(.string ⟨#[]⟩),(.string ⟨#[]⟩)]) 32 rfl Try.underlying37 info69 rfl (by decide) (by omega) u5 x5_1 (⟨(rd_T69 l1 x6_1).f0,(rd_T69 l1 x6_1).f1⟩ : S69) [.string ((rd_T69 l1 x6_1).f0),.string ((rd_T69 l1 x6_1).f1)] (fun k_=>k_ ≠ gb341) (fun _=>False) rfl rfl ?aP (fun _ hk=>hk.elim) ?aF ?aO (Below.refl _ _) ?aS ?aL ?_;(case aP=>exact k69_mkM _ _ _ (⟨(rd_T69 l1 x6_1).f0,(rd_T69 l1 x6_1).f1⟩ : S69));(case aF=>exact (fun k_ hk=>Kd.freshB (g:=gb341) (o:=.cells #[.string ((rd_T69 l1 x6_1).f0),.string ((rd_T69 l1 x6_1).f1)] 69 (0,0)) (bx_ BK341).out k_ hk));(case aO=>exact (by (with_reducible repeat (first|apply Kd.R_alloc|apply Kd.R_drewN|apply Kd.R_drew));exact Kd.R_mono HO_5.out (fun _ hk=>hk.2)));(case aS=>exact (keep_size (w:=w) (g:=g) (row:=none) (by repeat (first|(with_reducible first|exact HK.out|apply KeepBut.set_|apply keep_drewN|apply keep_drew|apply keep_alloc|refine keep_far ?_ GW341.out _)|exact HK.out))));(case aL=>have:=LMc23.out;omega);intro v352 w29 ho hb hg hat;rw [← Ny351.out] at ho;have n0_:=qo.mk (IsS114.grown (by repeat (first|(with_reducible first|exact HI0.out|apply IsS114.alloc|apply IsS114.drewN|apply IsS114.drew|apply IsS114.set_1|apply IsS114.set_2|refine IsS114.far ?_ NB0_341.out _)|exact HI0.out)) hg (IsS114.own_ne HI0.out HO_5.out (by decide)));have n1_:=qo.mk (blk_grown (g:=gb341) (o:=.cells #[.string ((rd_T69 l1 x6_1).f0),.string ((rd_T69 l1 x6_1).f1)] 69 (0,0)) (bx_ BK341).out hg (Kd.R_away HO_5.out (fun _ hk=>hk.2)));have n2_:=qo.mk (below_weaken (by repeat (first|(with_reducible first|exact HB.out|apply qf|apply qa|apply qd|refine qg ?_ (IsS114.ge HI0.out)|refine qg ?_ GE341.out)|exact HB.out)) HL.out hb);have n3_:=qo.mk (KeepBut.trans (by repeat (first|(with_reducible first|exact HK.out|apply KeepBut.set_|apply keep_drewN|apply keep_drew|apply keep_alloc|refine keep_far ?_ GW341.out _)|exact HK.out)) (KeepBut.of_grown hg g) (Kd.R_base2 HO_5.out));have n4_:=qo.mk (ho);clear HI0;clear BK341;clear HB;clear HK;clear HO_5;have HI0:=n0_;have BK341:=n1_;have HB:=n2_;have HK:=n3_;have HO353:=n4_;clear n0_ n1_ n2_ n3_ n4_;clear ho hb hg hat))
    go_roundg k1
    case measure=>have:=HK1.out;omega
    case rel=>exact ⟨(y351),(wrap64 (x6_1 + 1)),(t343),(t344),rs_,H',⟨by have:=HK1.out;omega⟩,⟨by (with_reducible repeat (first|apply Kd.R_alloc|apply Kd.R_drewN|apply Kd.R_drew));exact Kd.R_mono HO353.out (fun _ hk=>trivial)⟩,⟨by repeat (first|(with_reducible first|exact HI0.out|apply IsS114.alloc|apply IsS114.drewN|apply IsS114.drew|apply IsS114.set_1|apply IsS114.set_2|refine IsS114.far ?_ NB0_341.out _)|exact HI0.out)⟩,⟨by repeat (first|(with_reducible first|exact HK.out|apply KeepBut.set_|apply keep_drewN|apply keep_drew|apply keep_alloc|refine keep_far ?_ GW341.out _)|exact HK.out)⟩,⟨by repeat (first|(with_reducible first|exact HB.out|apply qf|apply qa|apply qd|refine qg ?_ (IsS114.ge HI0.out)|refine qg ?_ GE341.out)|exact HB.out)⟩⟩
   rw [if_neg c23] at H
   exact absurd H (by simp)
  rw [if_neg c6] at H
  exact absurd H (by simp)
 rw [if_neg c5] at H
 have c5b0 : decide (x6_1 < (l1.length : Int)) = false:=decide_eq_false c5
 clear c5
 replace H:=Option.bind_eq_some_iff.mp H
 obtain ⟨⟨t354,t355,t356⟩,A300,H⟩:=H
 replace H : (if t354 = true then ((spec_l01Text.f k1 s0_0 t355 t356 2).bind fun bt357=>(if x5_1.length < 4398046511104 then (some ((x5_1 ++ [(⟨(⟨#[122]⟩ : ByteArray),bt357.1⟩ : S69)]),bt357.2.1,bt357.2.2)) else (none))) else (some (x5_1,t355,t356))) = some (r1,r2,r3):=H
 have A30:=qo.mk A300
 clear A300
 by_cases c31 : t354 = true
 ·subst c31
  have H1 : ((spec_l01Text.f k1 s0_0 t355 t356 2).bind fun bt357=>(if x5_1.length < 4398046511104 then (some ((x5_1 ++ [(⟨(⟨#[122]⟩ : ByteArray),bt357.1⟩ : S69)]),bt357.2.1,bt357.2.2)) else (none))) = some (r1,r2,r3):=by rw [if_pos rfl] at H;exact H
  clear H
  have H:=H1
  clear H1
  replace H:=Option.bind_eq_some_iff.mp H
  obtain ⟨⟨t357,t358,t359⟩,A320,H⟩:=H
  replace H : (if x5_1.length < 4398046511104 then (some ((x5_1 ++ [(⟨(⟨#[122]⟩ : ByteArray),t357⟩ : S69)]),t358,t359)) else (none)) = some (r1,r2,r3):=H
  have A32:=qo.mk A320
  clear A320
  by_cases c33 : x5_1.length < 4398046511104
  ·rw [if_pos c33] at H
   have LMc33:=qo.mk c33
   clear c33
   obtain ⟨y360,hy360⟩ : ∃ y_ : List (S69),y_ = (x5_1 ++ [(⟨(⟨#[122]⟩ : ByteArray),t357⟩ : S69)]):=⟨_,rfl⟩
   replace H : (some (y360,t358,t359)) = some (r1,r2,r3):=by first|(rw [hy360];with_reducible exact H)|(have H2_:=(Option.bind_some _ _).symm.trans H;rw [hy360];with_reducible exact H2_)|(have H2_:=(Option.bind_some _ _).symm.trans H;with_reducible exact H2_)|with_reducible exact H|(rw [hy360];exact H)|exact H
   have Ny360:=qo.mk hy360
   clear hy360
   simp only [Option.some.injEq,Prod.mk.injEq] at H
   obtain ⟨rfl,rfl,rfl⟩:=H
   go_wp2_with (first|((with_reducible refine gate_callee (f:=79) rfl ?_);refine goesL_ (some 37) rfl rfl Try.func79 (by kernel_rfl) rfl #[.pointer (some ⟨g,0,none⟩),.int .i64 2] rfl sm_ ?_;(with_reducible refine (spec_l01Once.calls g s0_0 x1001_1 x1002_1 2 true t355 t356 w0 _ ?side1 ?side2 A30.out).mono ?_);(case side1=>repeat (first|(with_reducible first|exact HI0.out|apply IsS114.alloc|apply IsS114.drewN|apply IsS114.drew|apply IsS114.set_1|apply IsS114.set_2)|exact HI0.out));(case side2=>repeat (first|(with_reducible first|exact HB.out|apply qf|apply qa|apply qd|refine qg ?_ (IsS114.ge HI0.out))|exact HB.out));rintro e w34 ⟨rfl,hi,hb,hk⟩;refine ⟨_,rfl,?_⟩;replace HO_5:=qo.mk (Kd.R_mono (Kd.R_keep (IsS114.apart (show IsS114 w0 _ g s0_0 x1001_1 x1002_1 from by repeat (first|(with_reducible first|exact HI0.out|apply IsS114.alloc|apply IsS114.drewN|apply IsS114.drew|apply IsS114.set_1|apply IsS114.set_2)|exact HI0.out)) (by (with_reducible repeat (first|apply Kd.R_alloc|apply Kd.R_drewN|apply Kd.R_drew));exact HO_5.out) (by decide)) hk (fun _ h=>h.2)) (fun _ h=>h.1));replace HK:=qo.mk (KeepBut.trans (by repeat (first|(with_reducible first|exact HK.out|apply KeepBut.set_|apply keep_drewN|apply keep_drew|apply keep_alloc)|exact HK.out)) hk (.inl rfl));replace HB:=qo.mk (hb);replace HI0:=qo.mk (hi);(try clear hb);(try clear hb2);(try clear hk);(try clear hi))|((with_reducible refine gate_callee (f:=78) rfl ?_);refine goesL_ (some 40) rfl rfl Try.func78 (by kernel_rfl) rfl #[.pointer (some ⟨g,0,none⟩),.int .i64 2] rfl sm_ ?_;(with_reducible refine (spec_l01Text.calls k1 g s0_0 t355 t356 2 t357 t358 t359 w0 _ ?side1 ?side2 A32.out).mono ?_);(case side1=>repeat (first|(with_reducible first|exact HI0.out|apply IsS114.alloc|apply IsS114.drewN|apply IsS114.drew|apply IsS114.set_1|apply IsS114.set_2)|exact HI0.out));(case side2=>repeat (first|(with_reducible first|exact HB.out|apply qf|apply qa|apply qd|refine qg ?_ (IsS114.ge HI0.out))|exact HB.out));rintro e w35 ⟨rfl,hi,hb,hk⟩;refine ⟨_,rfl,?_⟩;replace HO_5:=qo.mk (Kd.R_mono (Kd.R_keep (IsS114.apart (show IsS114 w0 _ g s0_0 t355 t356 from by repeat (first|(with_reducible first|exact HI0.out|apply IsS114.alloc|apply IsS114.drewN|apply IsS114.drew|apply IsS114.set_1|apply IsS114.set_2)|exact HI0.out)) (by (with_reducible repeat (first|apply Kd.R_alloc|apply Kd.R_drewN|apply Kd.R_drew));exact HO_5.out) (by decide)) hk (fun _ h=>h.2)) (fun _ h=>h.1));replace HK:=qo.mk (KeepBut.trans (by repeat (first|(with_reducible first|exact HK.out|apply KeepBut.set_|apply keep_drewN|apply keep_drew|apply keep_alloc)|exact HK.out)) hk (.inl rfl));replace HB:=qo.mk (hb);replace HI0:=qo.mk (hi);(try clear hb);(try clear hb2);(try clear hk);(try clear hi))|((with_reducible refine gate_builtin (b:=.append) (xs:=#[.tmp 38,.tmp 42]) rfl ?_);at_builtin;refine Kd.R_append k69 w.heap.size rfl (.tmp 38) (.tmp 42) 37 69 (.agg #[(.string ⟨#[]⟩),(.string ⟨#[]⟩)]) 32 rfl Try.underlying37 info69 rfl (by decide) (by omega) u5 x5_1 (⟨(⟨#[122]⟩ : ByteArray),t357⟩ : S69) [.string (⟨#[122]⟩ : ByteArray),.string t357] (fun _=>True) (fun _=>False) rfl rfl ?aP (fun _ hk=>hk.elim) ?aF ?aO (Below.refl _ _) ?aS ?aL ?_;(case aP=>exact k69_mkM _ _ _ (⟨(⟨#[122]⟩ : ByteArray),t357⟩ : S69));(case aF=>exact (fun _ _=>trivial));(case aO=>exact (by (with_reducible repeat (first|apply Kd.R_alloc|apply Kd.R_drewN|apply Kd.R_drew));exact HO_5.out));(case aS=>exact (keep_size (w:=w) (g:=g) (row:=none) (by repeat (first|(with_reducible first|exact HK.out|apply KeepBut.set_|apply keep_drewN|apply keep_drew|apply keep_alloc)|exact HK.out))));(case aL=>have:=LMc33.out;omega);intro v361 w36 ho hb hg hat;rw [← Ny360.out] at ho;have n0_:=qo.mk (IsS114.grown (by repeat (first|(with_reducible first|exact HI0.out|apply IsS114.alloc|apply IsS114.drewN|apply IsS114.drew|apply IsS114.set_1|apply IsS114.set_2)|exact HI0.out)) hg (IsS114.own_ne HI0.out HO_5.out (by decide)));have n1_:=qo.mk (below_weaken (by repeat (first|(with_reducible first|exact HB.out|apply qf|apply qa|apply qd|refine qg ?_ (IsS114.ge HI0.out))|exact HB.out)) HL.out hb);have n2_:=qo.mk (KeepBut.trans (by repeat (first|(with_reducible first|exact HK.out|apply KeepBut.set_|apply keep_drewN|apply keep_drew|apply keep_alloc)|exact HK.out)) (KeepBut.of_grown hg g) (Kd.R_base2 HO_5.out));have n3_:=qo.mk (ho);clear HI0;clear HB;clear HK;clear HO_5;have HI0:=n0_;have HB:=n1_;have HK:=n2_;have HO362:=n3_;clear n0_ n1_ n2_ n3_;clear ho hb hg hat))
   go_ret
   exact ⟨_,rt_,by (with_reducible repeat (first|apply Kd.R_alloc|apply Kd.R_drewN|apply Kd.R_drew));exact HO362.out,by repeat (first|(with_reducible first|exact HI0.out|apply IsS114.alloc|apply IsS114.drewN|apply IsS114.drew|apply IsS114.set_1|apply IsS114.set_2)|exact HI0.out),by repeat (first|(with_reducible first|exact HB.out|apply qf|apply qa|apply qd|refine qg ?_ (IsS114.ge HI0.out))|exact HB.out),by repeat (first|(with_reducible first|exact HK.out|apply KeepBut.set_|apply keep_drewN|apply keep_drew|apply keep_alloc)|exact HK.out)⟩
  rw [if_neg c33] at H
  exact absurd H (by simp)
 replace c31:=Bool.eq_false_iff.mpr c31
 subst c31
 have H1 : (some (x5_1,t355,t356)) = some (r1,r2,r3):=by rw [if_neg (show ¬ (false = true) by decide)] at H;exact H
 clear H
 have H:=H1
 clear H1
 simp only [Option.some.injEq,Prod.mk.injEq] at H
 obtain ⟨rfl,rfl,rfl⟩:=H
 go_wp2_with (first|((with_reducible refine gate_callee (f:=79) rfl ?_);refine goesL_ (some 37) rfl rfl Try.func79 (by kernel_rfl) rfl #[.pointer (some ⟨g,0,none⟩),.int .i64 2] rfl sm_ ?_;(with_reducible refine (spec_l01Once.calls g s0_0 x1001_1 x1002_1 2 false t355 t356 w0 _ ?side1 ?side2 A30.out).mono ?_);(case side1=>repeat (first|(with_reducible first|exact HI0.out|apply IsS114.alloc|apply IsS114.drewN|apply IsS114.drew|apply IsS114.set_1|apply IsS114.set_2)|exact HI0.out));(case side2=>repeat (first|(with_reducible first|exact HB.out|apply qf|apply qa|apply qd|refine qg ?_ (IsS114.ge HI0.out))|exact HB.out));rintro e w37 ⟨rfl,hi,hb,hk⟩;refine ⟨_,rfl,?_⟩;replace HO_5:=qo.mk (Kd.R_mono (Kd.R_keep (IsS114.apart (show IsS114 w0 _ g s0_0 x1001_1 x1002_1 from by repeat (first|(with_reducible first|exact HI0.out|apply IsS114.alloc|apply IsS114.drewN|apply IsS114.drew|apply IsS114.set_1|apply IsS114.set_2)|exact HI0.out)) (by (with_reducible repeat (first|apply Kd.R_alloc|apply Kd.R_drewN|apply Kd.R_drew));exact HO_5.out) (by decide)) hk (fun _ h=>h.2)) (fun _ h=>h.1));replace HK:=qo.mk (KeepBut.trans (by repeat (first|(with_reducible first|exact HK.out|apply KeepBut.set_|apply keep_drewN|apply keep_drew|apply keep_alloc)|exact HK.out)) hk (.inl rfl));replace HB:=qo.mk (hb);replace HI0:=qo.mk (hi);(try clear hb);(try clear hb2);(try clear hk);(try clear hi)))
 go_ret
 exact ⟨_,rt_,by (with_reducible repeat (first|apply Kd.R_alloc|apply Kd.R_drewN|apply Kd.R_drew));exact HO_5.out,by repeat (first|(with_reducible first|exact HI0.out|apply IsS114.alloc|apply IsS114.drewN|apply IsS114.drew|apply IsS114.set_1|apply IsS114.set_2)|exact HI0.out),by repeat (first|(with_reducible first|exact HB.out|apply qf|apply qa|apply qd|refine qg ?_ (IsS114.ge HI0.out))|exact HB.out),by repeat (first|(with_reducible first|exact HK.out|apply KeepBut.set_|apply keep_drewN|apply keep_drew|apply keep_alloc)|exact HK.out)⟩

/-! ### spec_DrawRightMap: function 21 -/
def spec_DrawRightMap.f (k : Nat) (l0 : List Int) : Option ((List (S69)) × (List (S69))):=(spec_l01New.f k l0).bind fun bt363=>((spec_l05Size.f l0).bind fun t367=>((spec_l05Map.f k bt363.1 bt363.2.1 bt363.2.2 t367).bind fun bt368=>((spec_l05Near.f k bt363.1 bt368.2.1 bt368.2.2 bt368.1).bind fun bt373=>(some (bt368.1,bt373.1)))))
theorem spec_DrawRightMap.mono : ∀ a0 k,LeO (spec_DrawRightMap.f k a0) (spec_DrawRightMap.f (k + 1) a0):=by
 intro a0 k
 unfold spec_DrawRightMap.f
 repeat' first|(with_reducible first|exact spec_l01New.mono _ _|exact spec_l05Map.mono _ _ _ _ _|exact spec_l05Near.mono _ _ _ _ _|exact LeO.refl _|exact LeO.none _|refine LeO.ite ?_ ?_|refine LeO.bind ?_ (fun _=>?_))|exact spec_l01New.mono _ _|exact spec_l05Map.mono _ _ _ _ _|exact spec_l05Near.mono _ _ _ _ _|exact LeO.none _|refine LeO.ite ?_ ?_|refine LeO.bind ?_ (fun _=>?_)
set_option maxHeartbeats 8000000 in
set_option maxRecDepth 100000 in
theorem spec_DrawRightMap.calls (k : Nat) (A0 : Option Addr) (c0 : Nat) (l0 : List Int) (r1 : List (S69)) (r2 : List (S69)) (w : World) (hr0 : Kd.C (Kd.int .u8) w A0 l0.length l0) (hc0 : l0.length ≤ c0) (h : spec_DrawRightMap.f k l0 = some (r1,r2)) :
  Calls Try.prog 21 #[.slice A0 l0.length c0] w fun e w'=>∃ v0_ v1_ : Value,e = .returned (.tuple #[v0_,v1_]) ∧ Kd.R k69 69 w' w.heap.size (fun k_=>some k_ ≠ (v1_ : Value).ownBlock) v0_ r1 ∧ Kd.R k69 69 w' w.heap.size (fun k_=>some k_ ≠ (v0_ : Value).ownBlock) v1_ r2 ∧ Below w.heap.size w w':=by
 have HR0:=qo.mk hr0
 have HC0:=qo.mk hc0
 clear hr0 hc0
 have HB:=qo.mk (Below.refl w.heap.size w)
 have H : ((spec_l01New.f k l0).bind fun bt363=>((spec_l05Size.f l0).bind fun t367=>((spec_l05Map.f k bt363.1 bt363.2.1 bt363.2.2 t367).bind fun bt368=>((spec_l05Near.f k bt363.1 bt368.2.1 bt368.2.2 bt368.1).bind fun bt373=>(some (bt368.1,bt373.1)))))) = some (r1,r2):=h
 clear h
 replace H:=Option.bind_eq_some_iff.mp H
 obtain ⟨⟨t363,t364,t365⟩,A20,H⟩:=H
 replace H : ((spec_l05Size.f l0).bind fun t367=>((spec_l05Map.f k t363 t364 t365 t367).bind fun bt368=>((spec_l05Near.f k t363 bt368.2.1 bt368.2.2 bt368.1).bind fun bt373=>(some (bt368.1,bt373.1))))) = some (r1,r2):=H
 have A2:=qo.mk A20
 clear A20
 replace H:=Option.bind_eq_some_iff.mp H
 obtain ⟨t367,A30,H⟩:=H
 replace H : ((spec_l05Map.f k t363 t364 t365 t367).bind fun bt368=>((spec_l05Near.f k t363 bt368.2.1 bt368.2.2 bt368.1).bind fun bt373=>(some (bt368.1,bt373.1)))) = some (r1,r2):=H
 have A3:=qo.mk A30
 clear A30
 replace H:=Option.bind_eq_some_iff.mp H
 obtain ⟨⟨t368,t371,t372⟩,A40,H⟩:=H
 replace H : ((spec_l05Near.f k t363 t371 t372 t368).bind fun bt373=>(some (t368,bt373.1))) = some (r1,r2):=H
 have A4:=qo.mk A40
 clear A40
 replace H:=Option.bind_eq_some_iff.mp H
 obtain ⟨⟨t373,t376,t377⟩,A50,H⟩:=H
 replace H : (some (t368,t373)) = some (r1,r2):=H
 have A5:=qo.mk A50
 clear A50
 simp only [Option.some.injEq,Prod.mk.injEq] at H
 obtain ⟨rfl,rfl⟩:=H
 go_enter Try.func21,Try.ntmps21
 go_wp2_with (first|((with_reducible refine gate_callee (f:=54) rfl ?_);refine goesL_ (some 7) rfl rfl Try.func54 (by kernel_rfl) rfl #[.slice A0 l0.length c0] rfl sm_ ?_;(with_reducible refine (spec_l01New.calls k _ _ l0 t363 t364 t365 w _ ?side1 ?side2 ?side3 A2.out).mono ?_);(case side1=>repeat (first|(with_reducible first|exact HB.out|apply qf|apply qa|apply qd)|exact HB.out));(case side2=>exact HR0.out);(case side3=>exact HC0.out);rintro e w6 ⟨g366,rfl,hi,hb,hb2⟩;refine ⟨_,rfl,?_⟩;replace HB:=qo.mk (hb);have HI366:=qo.mk (hi);(try clear hb);(try clear hb2);(try clear hk);(try clear hi))|((with_reducible refine gate_callee (f:=56) rfl ?_);refine goesL_ (some 10) rfl rfl Try.func56 (by kernel_rfl) rfl #[.slice A0 l0.length c0] rfl sm_ ?_;(with_reducible refine (spec_l05Size.calls _ _ l0 t367 _ ?side1 ?side2 A3.out).mono ?_);(case side1=>repeat (first|exact (Kd.C_below HR0.out HB.out)|(with_reducible refine Kd.C_alloc ?_ _)|(with_reducible refine Kd.C_drewN ?_ _)|(with_reducible refine Kd.C_drew ?_)));(case side2=>exact HC0.out);rintro e w' ⟨rfl,⟨nd,rfl⟩⟩;refine ⟨_,rfl,?_⟩)|((with_reducible refine gate_callee (f:=55) rfl ?_);refine goesL_ (some 11) rfl rfl Try.func55 (by kernel_rfl) rfl #[.pointer (some ⟨g366,0,none⟩),.int .i64 t367] rfl sm_ ?_;(with_reducible refine (spec_l05Map.calls k g366 t363 t364 t365 t367 t368 t371 t372 w _ ?side1 ?side2 A4.out).mono ?_);(case side1=>repeat (first|(with_reducible first|exact HI366.out|apply IsS114.alloc|apply IsS114.drewN|apply IsS114.drew|apply IsS114.set_1|apply IsS114.set_2)|exact HI366.out));(case side2=>repeat (first|(with_reducible first|exact HB.out|apply qf|apply qa|apply qd|refine qg ?_ (IsS114.ge HI366.out))|exact HB.out));rintro e w7 ⟨v369,rfl,ho0,hi,hb,hk⟩;refine ⟨_,rfl,?_⟩;have HO370:=qo.mk (Kd.R_lower ho0 (qk (by repeat (first|(with_reducible first|exact HB.out|apply qf|apply qa|apply qd|refine qg ?_ (IsS114.ge HI366.out))|exact HB.out))));replace HB:=qo.mk (hb);replace HI366:=qo.mk (hi);(try clear hb);(try clear hb2);(try clear hk);(try clear hi);(try clear ho0);obtain ⟨Ao8,co8,eo8⟩:=Kd.R_slice HO370.out;subst eo8)|((with_reducible refine gate_callee (f:=57) rfl ?_);refine goesL_ (some 15) rfl rfl Try.func57 (by kernel_rfl) rfl #[.pointer (some ⟨g366,0,none⟩),.slice Ao8 t368.length co8] rfl sm_ ?_;(with_reducible refine (spec_l05Near.calls k g366 t363 t371 t372 _ _ t368 t373 t376 t377 w _ ?side1 ?side2 ?side3 ?side4 A5.out).mono ?_);(case side1=>repeat (first|(with_reducible first|exact HI366.out|apply IsS114.alloc|apply IsS114.drewN|apply IsS114.drew|apply IsS114.set_1|apply IsS114.set_2)|exact HI366.out));(case side2=>repeat (first|(with_reducible first|exact HB.out|apply qf|apply qa|apply qd|refine qg ?_ (IsS114.ge HI366.out))|exact HB.out));(case side3=>exact Kd.C_foot_own (IsS114.apart (show IsS114 w _ g366 t363 t371 t372 from by repeat (first|(with_reducible first|exact HI366.out|apply IsS114.alloc|apply IsS114.drewN|apply IsS114.drew|apply IsS114.set_1|apply IsS114.set_2)|exact HI366.out)) (by (with_reducible repeat (first|apply Kd.R_alloc|apply Kd.R_drewN|apply Kd.R_drew));exact HO370.out) (by decide)) (fun _ h_=>h_.2));(case side4=>exact (Kd.R_reads' HO370.out).2.1);rintro e w9 ⟨v374,rfl,ho0,hi,hb,hk⟩;refine ⟨_,rfl,?_⟩;have HO375:=qo.mk (Kd.R_lower (Kd.R_new' ho0 (Kd.R_lt (by (with_reducible repeat (first|apply Kd.R_alloc|apply Kd.R_drewN|apply Kd.R_drew));exact HO370.out))) (qk (by repeat (first|(with_reducible first|exact HB.out|apply qf|apply qa|apply qd|refine qg ?_ (IsS114.ge HI366.out))|exact HB.out))));replace HO370:=qo.mk (Kd.R_mono (Kd.R_told (Kd.R_oldK (IsS114.apart (show IsS114 w _ g366 t363 t371 t372 from by repeat (first|(with_reducible first|exact HI366.out|apply IsS114.alloc|apply IsS114.drewN|apply IsS114.drew|apply IsS114.set_1|apply IsS114.set_2)|exact HI366.out)) (by (with_reducible repeat (first|apply Kd.R_alloc|apply Kd.R_drewN|apply Kd.R_drew));exact HO370.out) (by decide)) hk) (Kd.R_base ho0)) (fun _ h_=>h_.1));replace HB:=qo.mk (hb);replace HI366:=qo.mk (hi);(try clear hb);(try clear hb2);(try clear hk);(try clear hi);(try clear ho0)))
 go_ret2
 exact ⟨_,_,rt_,by (with_reducible repeat (first|apply Kd.R_alloc|apply Kd.R_drewN|apply Kd.R_drew));exact Kd.R_mono HO370.out (fun _ hk=>hk.2),by (with_reducible repeat (first|apply Kd.R_alloc|apply Kd.R_drewN|apply Kd.R_drew));exact Kd.R_mono HO375.out (fun _ hk=>hk.2),by repeat (first|(with_reducible first|exact HB.out|apply qf|apply qa|apply qd|refine qg ?_ (IsS114.ge HI366.out))|exact HB.out)⟩

/-! ### impl_DeviceNew: function 22 -/
def impl_DeviceNew.f (a0 : Int) : Option (List ByteArray × (List (S96)) × Bool):=(impl_in.f a0 1 400).bind fun t379=>(if t379 = true then (if 0 ≤ a0 then (if (a0 : Int).toNat ≤ 17592186044416 then (some ((List.replicate (a0 : Int).toNat (⟨#[]⟩ : ByteArray)),([] : List (S96)),true)) else (none)) else (none)) else (some (([] : List ByteArray),([] : List (S96)),false)))
set_option maxHeartbeats 8000000 in
set_option maxRecDepth 100000 in
theorem impl_DeviceNew.calls (a0 : Int) (r1 : List ByteArray) (r2 : List (S96)) (r3 : Bool) (w : World) (h : impl_DeviceNew.f a0 = some (r1,r2,r3)) :
  Calls Try.prog 22 #[.int .i64 a0] w fun e w'=>∃ v0_ v1_ : Value,e = .returned (.tuple #[.agg #[v0_,v1_],.bool r3]) ∧ Kd.R Kd.string 9 w' w.heap.size (fun _=>True) v0_ r1 ∧ Kd.R k96 96 w' w.heap.size (fun _=>True) v1_ r2 ∧ Below w.heap.size w w':=by
 have hu32:=Try.underlying32
 have HB:=qo.mk (Below.refl w.heap.size w)
 have H : ((impl_in.f a0 1 400).bind fun t379=>(if t379 = true then (if 0 ≤ a0 then (if (a0 : Int).toNat ≤ 17592186044416 then (some ((List.replicate (a0 : Int).toNat (⟨#[]⟩ : ByteArray)),([] : List (S96)),true)) else (none)) else (none)) else (some (([] : List ByteArray),([] : List (S96)),false)))) = some (r1,r2,r3):=h
 clear h
 replace H:=Option.bind_eq_some_iff.mp H
 obtain ⟨t379,A20,H⟩:=H
 replace H : (if t379 = true then (if 0 ≤ a0 then (if (a0 : Int).toNat ≤ 17592186044416 then (some ((List.replicate (a0 : Int).toNat (⟨#[]⟩ : ByteArray)),([] : List (S96)),true)) else (none)) else (none)) else (some (([] : List ByteArray),([] : List (S96)),false))) = some (r1,r2,r3):=H
 have A2:=qo.mk A20
 clear A20
 by_cases c3 : t379 = true
 ·subst c3
  have H1 : (if 0 ≤ a0 then (if (a0 : Int).toNat ≤ 17592186044416 then (some ((List.replicate (a0 : Int).toNat (⟨#[]⟩ : ByteArray)),([] : List (S96)),true)) else (none)) else (none)) = some (r1,r2,r3):=by rw [if_pos rfl] at H;exact H
  clear H
  have H:=H1
  clear H1
  by_cases c4 : 0 ≤ a0
  ·rw [if_pos c4] at H
   have c4b0:=eq_true c4
   have c4b1 : decide (0 ≤ a0) = true:=decide_eq_true c4
   clear c4
   by_cases c5 : (a0 : Int).toNat ≤ 17592186044416
   ·rw [if_pos c5] at H
    have c5b0:=eq_true c5
    have c5b1 : decide ((a0 : Int).toNat ≤ 17592186044416) = true:=decide_eq_true c5
    clear c5
    obtain ⟨y380,hy380⟩ : ∃ y_ : List ByteArray,y_ = (List.replicate (a0 : Int).toNat (⟨#[]⟩ : ByteArray)):=⟨_,rfl⟩
    replace H : (some (y380,([] : List (S96)),true)) = some (r1,r2,r3):=by first|(rw [hy380];with_reducible exact H)|(have H2_:=(Option.bind_some _ _).symm.trans H;rw [hy380];with_reducible exact H2_)|(have H2_:=(Option.bind_some _ _).symm.trans H;with_reducible exact H2_)|with_reducible exact H|(rw [hy380];exact H)|exact H
    have Ny380:=qo.mk hy380
    clear hy380
    simp only [Option.some.injEq,Prod.mk.injEq] at H
    obtain ⟨rfl,rfl,rfl⟩:=H
    go_enter Try.func22,Try.ntmps22
    go_wp2_with (first|((with_reducible refine gate_dst (N:=2) rfl ?_);refine box_event ?hg (N:=2) ?hd (cs:=#[.slice none 0 0,.slice none 0 0]) (t:=32) ?hr ?_;(case hd=>rfl);(case hg=>rfl);(case hr=>first|(go_simp;done)|(go_simp;rfl));intro gb378 hg w6 hbox hb;have BK378:=qo.mk (hbox);have GW378:=hl_ (w:=w) hg;have GE378:=hl_ (w:=w) hg;replace HB:=hs_ HB hb;clear hb hbox hg)|((with_reducible refine gate_callee (f:=42) rfl ?_);refine goesL_ (some 5) rfl rfl Try.func42 (by kernel_rfl) rfl #[.int .i64 a0,.int .i64 1,.int .i64 400] rfl sm_ ?_;(with_reducible refine (impl_in.calls a0 1 400 true _ A2.out).mono ?_);rintro e w' ⟨rfl,⟨nd,rfl⟩⟩;refine ⟨_,rfl,?_⟩;(try (rw [drewN_self w6];generalize hq_ : World.drewN w6 _ = w6;replace BK378 : qo (w6.heap[gb378]? = some (.cells #[.slice none 0 0,.slice none 0 0] 32 (0,0))):=⟨by rw [← hq_];exact (bx_ BK378).out⟩;replace HB : qo (Below w.heap.size w w6):=⟨by rw [← hq_];exact hx_⟩;clear hq_)))|((with_reducible refine gate_dst (N:=9) rfl ?_);refine Kd.R_make Kd.string _ 9 rfl (N:=9) rfl 22 _ _ rfl a0 rfl rfl Try.underlying22 (.string ⟨#[]⟩) 16 info9 rfl (by decide) (by omega) (⟨#[]⟩ : ByteArray) (ok:=fun _=>True) (okp:=fun _=>True) rfl (fun _ hk=>hk) trivial (dt_) (Nat.le_trans (Nat.mul_le_mul_right _ (dt_ : a0.toNat ≤ 17592186044416)) (by omega)) (Below.refl _ _) (Nat.le_refl _) ?_;intro v381 w7 ho8 hb hg_ hnew_;clear hg_ hnew_;(first|rw [← Ny380.out] at ho8|(simp only [Int.reduceToNat] at ho8;rw [← Ny380.out] at ho8));have HO382:=qo.mk (Kd.R_lower ho8 (qk hx_));replace BK378:=bb_ BK378 hb;replace HB:=hs_ HB hb;clear hb ho8;obtain ⟨Ao9,co9,eo9⟩:=Kd.R_slice HO382.out;subst eo9;obtain ⟨hcz10_0,hcz10_1,hfz10_0,hfz10_1⟩:=c2f_ BK378.out))
    refine bodyPost_ret (results_ct rfl _ _ gb378 32 #[.slice Ao9 y380.length co9,.slice none 0 0] (0,0) _ rfl (by (with_reducible repeat (first|refine qb ?_ _|refine qe ?_|refine qc ?_ _));refine blk_put (cs:=#[.slice Ao9 y380.length co9,.slice none 0 0]) ?_ 1 _ rfl;(with_reducible repeat (first|refine qb ?_ _|refine qe ?_|refine qc ?_ _));refine blk_put (cs:=#[.slice none 0 0,.slice none 0 0]) ?_ 0 _ rfl;(with_reducible repeat (first|refine qb ?_ _|refine qe ?_|refine qc ?_ _));exact BK378.out) Try.underlying32 rfl (by kernel_rfl)) rfl ?_
    exact ⟨_,_,rt_,by (with_reducible repeat (first|apply Kd.R_alloc|apply Kd.R_drewN|apply Kd.R_drew));exact Kd.R_mono (Kd.R_far (p:=⟨gb378,1,none⟩) (Kd.R_far (p:=⟨gb378,0,none⟩) (Kd.R_types HO382.out BK378.out (by decide)) (fun _ hk=>hk.2) (.slice Ao9 y380.length co9)) (fun _ hk=>hk.2) (.slice none 0 0)) (fun _ hk=>trivial),by first|exact Kd.R_nil _ _ _ _ _|exact Kd.N_nil _ _ _ _ _|exact Kd.V_nil _ _ _ _ _|exact Kd.Q_nil _ _ _ _ _|exact Kd.S_nil _ _ _ _ _,hx_⟩
   rw [if_neg c5] at H
   exact absurd H (by simp)
  rw [if_neg c4] at H
  exact absurd H (by simp)
 replace c3:=Bool.eq_false_iff.mpr c3
 subst c3
 have H1 : (some (([] : List ByteArray),([] : List (S96)),false)) = some (r1,r2,r3):=by rw [if_neg (show ¬ (false = true) by decide)] at H;exact H
 clear H
 have H:=H1
 clear H1
 simp only [Option.some.injEq,Prod.mk.injEq] at H
 obtain ⟨rfl,rfl,rfl⟩:=H
 go_enter Try.func22,Try.ntmps22
 go_wp2_with (first|((with_reducible refine gate_dst (N:=2) rfl ?_);refine box_event ?hg (N:=2) ?hd (cs:=#[.slice none 0 0,.slice none 0 0]) (t:=32) ?hr ?_;(case hd=>rfl);(case hg=>rfl);(case hr=>first|(go_simp;done)|(go_simp;rfl));intro gb378 hg w11 hbox hb;have BK378:=qo.mk (hbox);have GW378:=hl_ (w:=w) hg;have GE378:=hl_ (w:=w) hg;replace HB:=hs_ HB hb;clear hb hbox hg)|((with_reducible refine gate_callee (f:=42) rfl ?_);refine goesL_ (some 5) rfl rfl Try.func42 (by kernel_rfl) rfl #[.int .i64 a0,.int .i64 1,.int .i64 400] rfl sm_ ?_;(with_reducible refine (impl_in.calls a0 1 400 false _ A2.out).mono ?_);rintro e w' ⟨rfl,⟨nd,rfl⟩⟩;refine ⟨_,rfl,?_⟩;(try (rw [drewN_self w11];generalize hq_ : World.drewN w11 _ = w11;replace BK378 : qo (w11.heap[gb378]? = some (.cells #[.slice none 0 0,.slice none 0 0] 32 (0,0))):=⟨by rw [← hq_];exact (bx_ BK378).out⟩;replace HB : qo (Below w.heap.size w w11):=⟨by rw [← hq_];exact hx_⟩;clear hq_));obtain ⟨hcz12_0,hcz12_1,hfz12_0,hfz12_1⟩:=c2f_ BK378.out))
 refine bodyPost_ret (results_ct rfl _ _ gb378 32 #[.slice none 0 0,.slice none 0 0] (0,0) _ rfl (by (with_reducible repeat (first|refine qb ?_ _|refine qe ?_|refine qc ?_ _));refine blk_put (cs:=#[.slice none 0 0,.slice none 0 0]) ?_ 1 _ rfl;(with_reducible repeat (first|refine qb ?_ _|refine qe ?_|refine qc ?_ _));refine blk_put (cs:=#[.slice none 0 0,.slice none 0 0]) ?_ 0 _ rfl;(with_reducible repeat (first|refine qb ?_ _|refine qe ?_|refine qc ?_ _));exact BK378.out) Try.underlying32 rfl (by kernel_rfl)) rfl ?_
 exact ⟨_,_,rt_,by first|exact Kd.R_nil _ _ _ _ _|exact Kd.N_nil _ _ _ _ _|exact Kd.V_nil _ _ _ _ _|exact Kd.Q_nil _ _ _ _ _|exact Kd.S_nil _ _ _ _ _,by first|exact Kd.R_nil _ _ _ _ _|exact Kd.N_nil _ _ _ _ _|exact Kd.V_nil _ _ _ _ _|exact Kd.Q_nil _ _ _ _ _|exact Kd.S_nil _ _ _ _ _,hx_⟩

/-! ### impl_FreeOf: function 23 -/
def impl_FreeOf.l0 : Nat → List Int → List Int → Int → List ByteArray → List (S96) → Option (List Int)
 | 0,_,_,_,_,_=>none
 | k + 1,x1,x5,x6,x384000,x384001=>if x6 < (x384000.length : Int) then ((impl_hasInt.f k x1 x6).bind fun t385=>(if t385 = true then (impl_FreeOf.l0 k x1 x5 (wrap64 (x6 + 1)) x384000 x384001) else (if x5.length < 17592186044416 then (impl_FreeOf.l0 k x1 (x5 ++ [x6]) (wrap64 (x6 + 1)) x384000 x384001) else (none)))) else (some x5)
def impl_FreeOf.f (k : Nat) (l0_0 : List ByteArray) (l0_1 : List (S96)) (l1 : List Int) : Option (List Int):=(impl_DeviceOk.f k l0_0 l0_1).bind fun t384=>(if t384 = true then (impl_FreeOf.l0 k l1 ([] : List Int) 2 l0_0 l0_1) else (some ([] : List Int)))
theorem impl_FreeOf.mono_l : ∀ k,(∀ y0 y1 y2 y3 y4,LeO (impl_FreeOf.l0 k y0 y1 y2 y3 y4) (impl_FreeOf.l0 (k + 1) y0 y1 y2 y3 y4))
 | 0=>fun _ _ _ _ _ r h=>by simp [impl_FreeOf.l0] at h
 | k + 1=>by
  have ih0:=impl_FreeOf.mono_l k
  intro y0 y1 y2 y3 y4
  unfold impl_FreeOf.l0
  repeat' first|(with_reducible first|exact ih0 _ _ _ _ _|exact impl_DeviceOk.mono _ _ _|exact impl_hasInt.mono _ _ _|exact LeO.refl _|exact LeO.none _|refine LeO.ite ?_ ?_|refine LeO.bind ?_ (fun _=>?_))|exact ih0 _ _ _ _ _|exact impl_DeviceOk.mono _ _ _|exact impl_hasInt.mono _ _ _|exact LeO.none _|refine LeO.ite ?_ ?_|refine LeO.bind ?_ (fun _=>?_)
theorem impl_FreeOf.mono : ∀ a0 a1 a2 k,LeO (impl_FreeOf.f k a0 a1 a2) (impl_FreeOf.f (k + 1) a0 a1 a2):=by
 intro a0 a1 a2 k
 have ih0:=impl_FreeOf.mono_l k
 unfold impl_FreeOf.f
 repeat' first|(with_reducible first|exact ih0 _ _ _ _ _|exact impl_DeviceOk.mono _ _ _|exact impl_hasInt.mono _ _ _|exact LeO.refl _|exact LeO.none _|refine LeO.ite ?_ ?_|refine LeO.bind ?_ (fun _=>?_))|exact ih0 _ _ _ _ _|exact impl_DeviceOk.mono _ _ _|exact impl_hasInt.mono _ _ _|exact LeO.none _|refine LeO.ite ?_ ?_|refine LeO.bind ?_ (fun _=>?_)
set_option maxHeartbeats 8000000 in
set_option maxRecDepth 100000 in
theorem impl_FreeOf.calls (k : Nat) (A0_0 : Option Addr) (c0_0 : Nat) (l0_0 : List ByteArray) (A0_1 : Option Addr) (c0_1 : Nat) (l0_1 : List (S96)) (A1 : Option Addr) (c1 : Nat) (l1 : List Int) (r : List Int) (w : World) (hr0_0 : Kd.C Kd.string w A0_0 l0_0.length l0_0) (hc0_0 : l0_0.length ≤ c0_0) (hr0_1 : Kd.C k96 w A0_1 l0_1.length l0_1) (hc0_1 : l0_1.length ≤ c0_1) (hr1 : Kd.C (Kd.int .i64) w A1 l1.length l1) (hc1 : l1.length ≤ c1) (h : impl_FreeOf.f k l0_0 l0_1 l1 = some r) :
  Calls Try.prog 23 #[.agg #[.slice A0_0 l0_0.length c0_0,.slice A0_1 l0_1.length c0_1],.slice A1 l1.length c1] w fun e w'=>∃ v0_ : Value,e = .returned (v0_) ∧ Kd.R (Kd.int .i64) 3 w' w.heap.size (fun _=>True) v0_ r ∧ Below w.heap.size w w':=by
 have hu32:=Try.underlying32
 have HR0_0:=qo.mk hr0_0
 have HC0_0:=qo.mk hc0_0
 clear hr0_0 hc0_0
 have HR0_1:=qo.mk hr0_1
 have HC0_1:=qo.mk hc0_1
 clear hr0_1 hc0_1
 have HR1:=qo.mk hr1
 have HC1:=qo.mk hc1
 clear hr1 hc1
 have HB:=qo.mk (Below.refl w.heap.size w)
 have H : ((impl_DeviceOk.f k l0_0 l0_1).bind fun t384=>(if t384 = true then (impl_FreeOf.l0 k l1 ([] : List Int) 2 l0_0 l0_1) else (some ([] : List Int)))) = some r:=h
 clear h
 replace H:=Option.bind_eq_some_iff.mp H
 obtain ⟨t384,A30,H⟩:=H
 replace H : (if t384 = true then (impl_FreeOf.l0 k l1 ([] : List Int) 2 l0_0 l0_1) else (some ([] : List Int))) = some r:=H
 have A3:=qo.mk A30
 clear A30
 by_cases c4 : t384 = true
 ·subst c4
  have H1 : (impl_FreeOf.l0 k l1 ([] : List Int) 2 l0_0 l0_1) = some r:=by rw [if_pos rfl] at H;exact H
  clear H
  have H:=H1
  clear H1
  have H':=qo.mk H
  clear H
  go_enter Try.func23,Try.ntmps23
  go_wp2_with (first|((with_reducible refine gate_dst (N:=2) rfl ?_);refine box_event ?hg (N:=2) ?hd (cs:=#[.slice A0_0 l0_0.length c0_0,.slice A0_1 l0_1.length c0_1]) (t:=32) ?hr ?_;(case hd=>rfl);(case hg=>rfl);(case hr=>first|(go_simp;done)|(go_simp;rfl));intro gb383 hg w5 hbox hb;have BK383:=qo.mk (hbox);have GW383:=hl_ (w:=w) hg;have GE383:=hl_ (w:=w) hg;replace HB:=hs_ HB hb;clear hb hbox hg;obtain ⟨hcz6_0,hcz6_1,hfz6_0,hfz6_1⟩:=c2f_ BK383.out)|((with_reducible refine gate_callee (f:=40) rfl ?_);refine goesL_ (some 8) rfl rfl Try.func40 (by kernel_rfl) rfl #[.agg #[.slice A0_0 l0_0.length c0_0,.slice A0_1 l0_1.length c0_1]] rfl sm_ ?_;(with_reducible refine (impl_DeviceOk.calls k _ _ l0_0 _ _ l0_1 true _ ?side1 ?side2 ?side3 ?side4 A3.out).mono ?_);(case side1=>repeat (first|exact (Kd.C_below HR0_0.out HB.out)|(with_reducible refine Kd.C_alloc ?_ _)|(with_reducible refine Kd.C_drewN ?_ _)|(with_reducible refine Kd.C_drew ?_)));(case side2=>exact HC0_0.out);(case side3=>repeat (first|exact (Kd.C_below HR0_1.out HB.out)|(with_reducible refine Kd.C_alloc ?_ _)|(with_reducible refine Kd.C_drewN ?_ _)|(with_reducible refine Kd.C_drew ?_)));(case side4=>exact HC0_1.out);rintro e w7 ⟨rfl,hb⟩;refine ⟨_,rfl,?_⟩;replace BK383:=bb_ BK383 hb;replace HB:=hs_ HB hb;(try clear hb);(try clear hb2);(try clear hk);(try clear hi)))
  go_loopg [5,6] k (fun kq v5 v6 w'=>∃ (x5_1 : List Int) (x6_1 : Int),v6 = .int .i64 x6_1 ∧ qo (impl_FreeOf.l0 kq l1 x5_1 x6_1 l0_0 l0_1 = some r) ∧ qo (kq ≤ k) ∧ qo (Kd.R (Kd.int .i64) 3 w' w.heap.size (fun _=>True) v5 x5_1) ∧ qo (w'.heap[gb383]? = some (.cells #[(.slice A0_0 l0_0.length c0_0),(.slice A0_1 l0_1.length c0_1)] 32 (0,0))) ∧ qo (Below w.heap.size w w'))
  case atStart=>exact ⟨(([] : List Int)),(2),rs_,H',⟨Nat.le_refl _⟩,⟨by first|exact Kd.R_nil _ _ _ _ _|exact Kd.N_nil _ _ _ _ _|exact Kd.V_nil _ _ _ _ _|exact Kd.Q_nil _ _ _ _ _|exact Kd.S_nil _ _ _ _ _⟩,(bx_ BK383),⟨hx_⟩⟩
  clear H'
  try clear c1
  try clear c2
  try clear p2
  try clear c4
  try clear hcz6_0
  try clear hcz6_1
  try clear hfz6_0
  try clear hfz6_1
  obtain ⟨x5_1,x6_1,rfl,HA,HK1,HO_5,BK383,HB⟩:=hrel
  obtain _|k1:=gk
  ·exact absurd HA.out (by simp [impl_FreeOf.l0])
  have H:=HA.out
  clear HA
  simp only [impl_FreeOf.l0] at H
  by_cases c8 : x6_1 < (l0_0.length : Int)
  ·rw [if_pos c8] at H
   have c8b0 : decide (x6_1 < (l0_0.length : Int)) = true:=decide_eq_true c8
   clear c8
   replace H:=Option.bind_eq_some_iff.mp H
   obtain ⟨t385,A90,H⟩:=H
   replace H : (if t385 = true then (impl_FreeOf.l0 k1 l1 x5_1 (wrap64 (x6_1 + 1)) l0_0 l0_1) else (if x5_1.length < 17592186044416 then (impl_FreeOf.l0 k1 l1 (x5_1 ++ [x6_1]) (wrap64 (x6_1 + 1)) l0_0 l0_1) else (none))) = some r:=H
   have A9:=qo.mk A90
   clear A90
   by_cases c10 : t385 = true
   ·subst c10
    have H1 : (impl_FreeOf.l0 k1 l1 x5_1 (wrap64 (x6_1 + 1)) l0_0 l0_1) = some r:=by rw [if_pos rfl] at H;exact H
    clear H
    have H:=H1
    clear H1
    have H':=qo.mk H
    clear H
    obtain ⟨hcz11_0,hcz11_1,hfz11_0,hfz11_1⟩:=c2f_ BK383.out
    go_wp2_with (first|((with_reducible refine gate_callee (f:=58) rfl ?_);refine goesL_ (some 20) rfl rfl Try.func58 (by kernel_rfl) rfl #[.slice A1 l1.length c1,.int .i64 x6_1] rfl sm_ ?_;(with_reducible refine (impl_hasInt.calls k1 _ _ l1 x6_1 true _ ?side1 ?side2 A9.out).mono ?_);(case side1=>repeat (first|exact (Kd.C_below HR1.out HB.out)|(with_reducible refine Kd.C_alloc ?_ _)|(with_reducible refine Kd.C_drewN ?_ _)|(with_reducible refine Kd.C_drew ?_)));(case side2=>exact HC1.out);rintro e w' ⟨rfl,⟨nd,rfl⟩⟩;refine ⟨_,rfl,?_⟩))
    go_roundg k1
    case measure=>have:=HK1.out;omega
    case rel=>exact ⟨(x5_1),(wrap64 (x6_1 + 1)),rs_,H',⟨by have:=HK1.out;omega⟩,⟨by (with_reducible repeat (first|apply Kd.R_alloc|apply Kd.R_drewN|apply Kd.R_drew));exact HO_5.out⟩,(bx_ BK383),⟨hx_⟩⟩
   replace c10:=Bool.eq_false_iff.mpr c10
   subst c10
   have H1 : (if x5_1.length < 17592186044416 then (impl_FreeOf.l0 k1 l1 (x5_1 ++ [x6_1]) (wrap64 (x6_1 + 1)) l0_0 l0_1) else (none)) = some r:=by rw [if_neg (show ¬ (false = true) by decide)] at H;exact H
   clear H
   have H:=H1
   clear H1
   by_cases c12 : x5_1.length < 17592186044416
   ·rw [if_pos c12] at H
    have LMc12:=qo.mk c12
    clear c12
    obtain ⟨y386,hy386⟩ : ∃ y_ : List Int,y_ = (x5_1 ++ [x6_1]):=⟨_,rfl⟩
    replace H : (impl_FreeOf.l0 k1 l1 y386 (wrap64 (x6_1 + 1)) l0_0 l0_1) = some r:=by first|(rw [hy386];with_reducible exact H)|(have H2_:=(Option.bind_some _ _).symm.trans H;rw [hy386];with_reducible exact H2_)|(have H2_:=(Option.bind_some _ _).symm.trans H;with_reducible exact H2_)|with_reducible exact H|(rw [hy386];exact H)|exact H
    have Ny386:=qo.mk hy386
    clear hy386
    have H':=qo.mk H
    clear H
    obtain ⟨hcz13_0,hcz13_1,hfz13_0,hfz13_1⟩:=c2f_ BK383.out
    go_wp2_with (first|((with_reducible refine gate_callee (f:=58) rfl ?_);refine goesL_ (some 20) rfl rfl Try.func58 (by kernel_rfl) rfl #[.slice A1 l1.length c1,.int .i64 x6_1] rfl sm_ ?_;(with_reducible refine (impl_hasInt.calls k1 _ _ l1 x6_1 false _ ?side1 ?side2 A9.out).mono ?_);(case side1=>repeat (first|exact (Kd.C_below HR1.out HB.out)|(with_reducible refine Kd.C_alloc ?_ _)|(with_reducible refine Kd.C_drewN ?_ _)|(with_reducible refine Kd.C_drew ?_)));(case side2=>exact HC1.out);rintro e w' ⟨rfl,⟨nd,rfl⟩⟩;refine ⟨_,rfl,?_⟩)|((with_reducible refine gate_builtin (b:=.append) (xs:=#[.tmp 22,.tmp 24]) rfl ?_);at_builtin;refine Kd.R_append (Kd.int .i64) (w0:=w) w.heap.size rfl (.tmp 22) (.tmp 24) 26 3 (.int .i64 0) 8 rfl Try.underlying26 info3 rfl (by decide) (by omega) u5 x5_1 x6_1 [.int .i64 x6_1] (fun _=>True) (fun _=>False) rfl rfl ?aP (fun _ hk=>hk.elim) ?aF ?aO ?aB ?aS ?aL ?_;(case aP=>exact rfl);(case aB=>exact hx_);(case aF=>exact (fun _ _=>trivial));(case aO=>exact (by (with_reducible repeat (first|apply Kd.R_alloc|apply Kd.R_drewN|apply Kd.R_drew));exact HO_5.out));(case aS=>exact (qk hx_));(case aL=>have:=LMc12.out;omega);intro v387 w14 ho hb hg hat;rw [← Ny386.out] at ho;replace BK383:=qo.mk (blk_grown (g:=gb383) (o:=.cells #[.slice A0_0 l0_0.length c0_0,.slice A0_1 l0_1.length c0_1] 32 (0,0)) (bx_ BK383).out hg (Kd.R_ne HO_5.out BK383.out (by decide)));replace HB:=qo.mk (hb);have HO388:=qo.mk (ho);clear HO_5;clear ho hb hg hat))
    go_roundg k1
    case measure=>have:=HK1.out;omega
    case rel=>exact ⟨(y386),(wrap64 (x6_1 + 1)),rs_,H',⟨by have:=HK1.out;omega⟩,⟨by (with_reducible repeat (first|apply Kd.R_alloc|apply Kd.R_drewN|apply Kd.R_drew));exact HO388.out⟩,(bx_ BK383),⟨hx_⟩⟩
   rw [if_neg c12] at H
   exact absurd H (by simp)
  rw [if_neg c8] at H
  have c8b0 : decide (x6_1 < (l0_0.length : Int)) = false:=decide_eq_false c8
  clear c8
  obtain rfl:=Option.some.inj H
  obtain ⟨hcz15_0,hcz15_1,hfz15_0,hfz15_1⟩:=c2f_ BK383.out
  go_wp2
  go_ret
  exact ⟨_,rt_,by (with_reducible repeat (first|apply Kd.R_alloc|apply Kd.R_drewN|apply Kd.R_drew));exact HO_5.out,hx_⟩
 replace c4:=Bool.eq_false_iff.mpr c4
 subst c4
 have H1 : (some ([] : List Int)) = some r:=by rw [if_neg (show ¬ (false = true) by decide)] at H;exact H
 clear H
 have H:=H1
 clear H1
 obtain rfl:=Option.some.inj H
 go_enter Try.func23,Try.ntmps23
 go_wp2_with (first|((with_reducible refine gate_dst (N:=2) rfl ?_);refine box_event ?hg (N:=2) ?hd (cs:=#[.slice A0_0 l0_0.length c0_0,.slice A0_1 l0_1.length c0_1]) (t:=32) ?hr ?_;(case hd=>rfl);(case hg=>rfl);(case hr=>first|(go_simp;done)|(go_simp;rfl));intro gb383 hg w16 hbox hb;have BK383:=qo.mk (hbox);have GW383:=hl_ (w:=w) hg;have GE383:=hl_ (w:=w) hg;replace HB:=hs_ HB hb;clear hb hbox hg;obtain ⟨hcz17_0,hcz17_1,hfz17_0,hfz17_1⟩:=c2f_ BK383.out)|((with_reducible refine gate_callee (f:=40) rfl ?_);refine goesL_ (some 8) rfl rfl Try.func40 (by kernel_rfl) rfl #[.agg #[.slice A0_0 l0_0.length c0_0,.slice A0_1 l0_1.length c0_1]] rfl sm_ ?_;(with_reducible refine (impl_DeviceOk.calls k _ _ l0_0 _ _ l0_1 false _ ?side1 ?side2 ?side3 ?side4 A3.out).mono ?_);(case side1=>repeat (first|exact (Kd.C_below HR0_0.out HB.out)|(with_reducible refine Kd.C_alloc ?_ _)|(with_reducible refine Kd.C_drewN ?_ _)|(with_reducible refine Kd.C_drew ?_)));(case side2=>exact HC0_0.out);(case side3=>repeat (first|exact (Kd.C_below HR0_1.out HB.out)|(with_reducible refine Kd.C_alloc ?_ _)|(with_reducible refine Kd.C_drewN ?_ _)|(with_reducible refine Kd.C_drew ?_)));(case side4=>exact HC0_1.out);rintro e w18 ⟨rfl,hb⟩;refine ⟨_,rfl,?_⟩;replace BK383:=bb_ BK383 hb;replace HB:=hs_ HB hb;(try clear hb);(try clear hb2);(try clear hk);(try clear hi)))
 go_ret
 exact ⟨_,rt_,by first|exact Kd.R_nil _ _ _ _ _|exact Kd.N_nil _ _ _ _ _|exact Kd.V_nil _ _ _ _ _|exact Kd.Q_nil _ _ _ _ _|exact Kd.S_nil _ _ _ _ _,hx_⟩

end Go.Proofs.Ytcnoccefdejphaa.QFnTrees
