/- Lean functions for the Go functions that the law FnExactPlaceTree reaches, and that each Go function comes to just its Lean function's answer; by a program of this session. -/
import Derived.Test.YtcnoccefdejphaaZFnExactPlaceTreex0
import Derived.Test.YtcnoccefdejphaaZFnExactPlaceTreex4
namespace Go.Proofs.Ytcnoccefdejphaa.QFnExactPlaceTree
open Go.RowKit Go.Proofs.YtcnoccefdejphaaW.PrintWords Go.Proofs.YtcnoccefdejphaaW.PrintLast Go.Proofs.YtcnoccefdejphaaW.PrintMore
attribute [local go_sem] max2_int min2_int max_two min_two max_three min_three max_four min_four   -- for this text's walks alone
set_option linter.unusedVariables false
set_option linter.unusedSimpArgs false

/-! ### spec_SumMore: function 101 -/
mutual
def spec_SumMore.l0 : Nat → Int → ByteArray → Int → Option (Int)
 | 0,_,_,_=>none
 | k + 1,x0,x1,x5=>if x5 < (x1.size : Int) then (if 0 ≤ x5 then (spec_SumMore.l1 k (Go.bits .xor .u32 x0 ((bt x1 x5) % 4294967296)) x1 x5 0) else (none)) else (some x0)
def spec_SumMore.l1 : Nat → Int → ByteArray → Int → Int → Option (Int)
 | 0,_,_,_,_=>none
 | k + 1,x0,x1,x5,x6=>if x6 < 8 then (if (Int.tmod x0 2) = 1 then (spec_SumMore.l1 k (Go.bits .xor .u32 ((Int.tdiv x0 2) % 4294967296) 3558460437) x1 x5 (wrap64 (x6 + 1))) else (spec_SumMore.l1 k ((Int.tdiv x0 2) % 4294967296) x1 x5 (wrap64 (x6 + 1)))) else (spec_SumMore.l0 k x0 x1 (wrap64 (x5 + 1)))
end
def spec_SumMore.f (k : Nat) (a0 : Int) (a1 : ByteArray) : Option (Int):=spec_SumMore.l0 k a0 a1 0
theorem spec_SumMore.mono_l : ∀ k,(∀ y0 y1 y2,LeO (spec_SumMore.l0 k y0 y1 y2) (spec_SumMore.l0 (k + 1) y0 y1 y2)) ∧ (∀ y0 y1 y2 y3,LeO (spec_SumMore.l1 k y0 y1 y2 y3) (spec_SumMore.l1 (k + 1) y0 y1 y2 y3))
 | 0=>⟨fun _ _ _ r h=>by simp [spec_SumMore.l0] at h,fun _ _ _ _ r h=>by simp [spec_SumMore.l1] at h⟩
 | k + 1=>by
  obtain ⟨ih0,ih1⟩:=spec_SumMore.mono_l k
  refine ⟨?_,?_⟩ <;> intros <;> first|unfold spec_SumMore.l0|unfold spec_SumMore.l1
  all_goals repeat' first|(with_reducible first|exact ih0 _ _ _|exact ih1 _ _ _ _|exact LeO.refl _|exact LeO.none _|refine LeO.ite ?_ ?_|refine LeO.bind ?_ (fun _=>?_))|exact ih0 _ _ _|exact ih1 _ _ _ _|exact LeO.none _|refine LeO.ite ?_ ?_|refine LeO.bind ?_ (fun _=>?_)
theorem spec_SumMore.mono : ∀ a0 a1 k,LeO (spec_SumMore.f k a0 a1) (spec_SumMore.f (k + 1) a0 a1):=by
 intro a0 a1 k
 obtain ⟨ih0,ih1⟩:=spec_SumMore.mono_l k
 unfold spec_SumMore.f
 repeat' first|(with_reducible first|exact ih0 _ _ _|exact ih1 _ _ _ _|exact LeO.refl _|exact LeO.none _|refine LeO.ite ?_ ?_|refine LeO.bind ?_ (fun _=>?_))|exact ih0 _ _ _|exact ih1 _ _ _ _|exact LeO.none _|refine LeO.ite ?_ ?_|refine LeO.bind ?_ (fun _=>?_)
set_option maxHeartbeats 8000000 in
set_option maxRecDepth 100000 in
theorem spec_SumMore.calls (k : Nat) (a0 : Int) (a1 : ByteArray) (r : Int) (w : World) (h : spec_SumMore.f k a0 a1 = some r) :
  Calls Try.prog 101 #[.int .u32 a0,.string a1] w fun e w'=>e = .returned (.int .u32 r) ∧ Drawn0 w w':=by
 have H : (spec_SumMore.l0 k a0 a1 0) = some r:=h
 clear h
 have H':=qo.mk H
 clear H
 go_enter Try.func101,Try.ntmps101
 go_wp2
 go_loopg [0,5] k (fun kq v0 v5 w'=>∃ (x0_1 : Int) (x5_1 : Int),v0 = .int .u32 x0_1 ∧ v5 = .int .i64 x5_1 ∧ qo (spec_SumMore.l0 kq x0_1 a1 x5_1 = some r) ∧ qo (kq ≤ k) ∧ Drawn0 w w')
 case atStart=>exact ⟨(a0),(0),rs_,rs_,H',⟨Nat.le_refl _⟩,by repeat (first|exact Drawn0.refl _|apply Drawn0.step)⟩
 clear H'
 try clear c1
 try clear p2
 obtain ⟨x0_1,x5_1,rfl,rfl,HA,HK1,⟨m1,rfl⟩⟩:=hrel
 obtain _|k1:=gk
 ·exact absurd HA.out (by simp [spec_SumMore.l0])
 have H:=HA.out
 clear HA
 simp only [spec_SumMore.l0] at H
 by_cases c3 : x5_1 < (a1.size : Int)
 ·rw [if_pos c3] at H
  have c3b0 : decide (x5_1 < (a1.size : Int)) = true:=decide_eq_true c3
  clear c3
  by_cases c4 : 0 ≤ x5_1
  ·rw [if_pos c4] at H
   have c4b0 : decide (0 ≤ x5_1) = true:=decide_eq_true c4
   clear c4
   have H':=qo.mk H
   clear H
   have p5 : 0 ≤ (x5_1 : Int):=dt_
   have q5 : x5_1 < (a1.size : Int):=dt_
   have hx5:=bt_at a1 x5_1
   replace p5:=eq_true p5
   replace q5:=eq_true q5
   go_wp2
   go_loopg [0,6] k1 (fun kq v0 v6 w'=>∃ (x0_2 : Int) (x6_2 : Int),v0 = .int .u32 x0_2 ∧ v6 = .int .i64 x6_2 ∧ qo (spec_SumMore.l1 kq x0_2 a1 x5_1 x6_2 = some r) ∧ qo (kq ≤ k1) ∧ Drawn0 w w')
   case atStart=>exact ⟨(Go.bits .xor .u32 x0_1 ((bt a1 x5_1) % 4294967296)),(0),rs_,rs_,H',⟨Nat.le_refl _⟩,by repeat (first|exact Drawn0.refl _|apply Drawn0.step)⟩
   clear H'
   try clear c1
   try clear p2
   try clear c3
   try clear c3b0
   try clear c4
   try clear c4b0
   try clear p5
   try clear q5
   try clear hx5
   try clear p2
   try clear p5
   try clear q5
   obtain ⟨x0_2,x6_2,rfl,rfl,HA,HK2,⟨m2,rfl⟩⟩:=hrel
   obtain _|k2:=gk
   ·exact absurd HA.out (by simp [spec_SumMore.l1])
   have H:=HA.out
   clear HA
   simp only [spec_SumMore.l1] at H
   by_cases c6 : x6_2 < 8
   ·rw [if_pos c6] at H
    have c6b0 : decide (x6_2 < 8) = true:=decide_eq_true c6
    clear c6
    by_cases c7 : (Int.tmod x0_2 2) = 1
    ·rw [if_pos c7] at H
     have c7b0 : ((Int.tmod x0_2 2) == 1) = true:=beq_iff_eq.mpr c7
     have c7b1 : ((Int.tmod x0_2 2) != 1) = false:=bne_eq_false_iff_eq.mpr c7
     clear c7
     have H':=qo.mk H
     clear H
     go_wp2
     go_roundg k2
     case measure=>have:=HK1.out;have:=HK2.out;omega
     case rel=>exact ⟨(Go.bits .xor .u32 ((Int.tdiv x0_2 2) % 4294967296) 3558460437),(wrap64 (x6_2 + 1)),rs_,rs_,H',⟨by have:=HK1.out;have:=HK2.out;omega⟩,by repeat (first|exact Drawn0.refl _|apply Drawn0.step)⟩
    rw [if_neg c7] at H
    have c7b0 : ((Int.tmod x0_2 2) == 1) = false:=beq_eq_false_iff_ne.mpr c7
    have c7b1 : ((Int.tmod x0_2 2) != 1) = true:=bne_iff_ne.mpr c7
    have H':=qo.mk H
    clear H
    go_wp2
    go_roundg k2
    case measure=>have:=HK1.out;have:=HK2.out;omega
    case rel=>exact ⟨((Int.tdiv x0_2 2) % 4294967296),(wrap64 (x6_2 + 1)),rs_,rs_,H',⟨by have:=HK1.out;have:=HK2.out;omega⟩,by repeat (first|exact Drawn0.refl _|apply Drawn0.step)⟩
   rw [if_neg c6] at H
   have c6b0 : decide (x6_2 < 8) = false:=decide_eq_false c6
   clear c6
   have H':=qo.mk H
   clear H
   go_wp2
   go_roundg k2
   case measure=>have:=HK1.out;have:=HK2.out;omega
   case rel=>exact ⟨(x0_2),(wrap64 (x5_1 + 1)),rs_,rs_,H',⟨by have:=HK1.out;have:=HK2.out;omega⟩,by repeat (first|exact Drawn0.refl _|apply Drawn0.step)⟩
  rw [if_neg c4] at H
  exact absurd H (by simp)
 rw [if_neg c3] at H
 have c3b0 : decide (x5_1 < (a1.size : Int)) = false:=decide_eq_false c3
 clear c3
 obtain rfl:=Option.some.inj H
 go_wp2
 go_ret
 exact ⟨by first|rfl|(simp;done)|(simp [*];done),by repeat (first|exact Drawn0.refl _|apply Drawn0.step)⟩

/-! ### spec_SumOf: function 84 -/
def spec_SumOf.f (k : Nat) (a0 : ByteArray) : Option (Int):=(spec_SumMore.f k 4294967295 a0).bind fun t157=>(some t157)
theorem spec_SumOf.mono : ∀ a0 k,LeO (spec_SumOf.f k a0) (spec_SumOf.f (k + 1) a0):=by
 intro a0 k
 unfold spec_SumOf.f
 repeat' first|(with_reducible first|exact spec_SumMore.mono _ _ _|exact LeO.refl _|exact LeO.none _|refine LeO.ite ?_ ?_|refine LeO.bind ?_ (fun _=>?_))|exact spec_SumMore.mono _ _ _|exact LeO.none _|refine LeO.ite ?_ ?_|refine LeO.bind ?_ (fun _=>?_)
set_option maxHeartbeats 8000000 in
set_option maxRecDepth 100000 in
theorem spec_SumOf.calls (k : Nat) (a0 : ByteArray) (r : Int) (w : World) (h : spec_SumOf.f k a0 = some r) :
  Calls Try.prog 84 #[.string a0] w fun e w'=>e = .returned (.int .u32 r) ∧ Drawn0 w w':=by
 have H : ((spec_SumMore.f k 4294967295 a0).bind fun t157=>(some t157)) = some r:=h
 clear h
 replace H:=Option.bind_eq_some_iff.mp H
 obtain ⟨t157,A20,H⟩:=H
 replace H : (some t157) = some r:=H
 have A2:=qo.mk A20
 clear A20
 obtain rfl:=Option.some.inj H
 go_enter Try.func84,Try.ntmps84
 go_wp2_with (first|((with_reducible refine gate_callee (f:=101) rfl ?_);refine goesL_ (some 4) rfl rfl Try.func101 (by kernel_rfl) rfl #[.int .u32 4294967295,.string a0] rfl sm_ ?_;(with_reducible refine (spec_SumMore.calls k 4294967295 a0 t157 _ A2.out).mono ?_);rintro e w' ⟨rfl,⟨nd,rfl⟩⟩;refine ⟨_,rfl,?_⟩))
 go_ret
 exact ⟨by first|rfl|(simp;done)|(simp [*];done),by repeat (first|exact Drawn0.refl _|apply Drawn0.step)⟩

/-! ### spec_EndsPage: function 63 -/
def spec_EndsPage.f (k : Nat) (a0 : ByteArray) : Option (Bool):=(spec_SumOf.f k a0).bind fun t158=>(some ((Int.tmod t158 4) == 0))
theorem spec_EndsPage.mono : ∀ a0 k,LeO (spec_EndsPage.f k a0) (spec_EndsPage.f (k + 1) a0):=by
 intro a0 k
 unfold spec_EndsPage.f
 repeat' first|(with_reducible first|exact spec_SumOf.mono _ _|exact LeO.refl _|exact LeO.none _|refine LeO.ite ?_ ?_|refine LeO.bind ?_ (fun _=>?_))|exact spec_SumOf.mono _ _|exact LeO.none _|refine LeO.ite ?_ ?_|refine LeO.bind ?_ (fun _=>?_)
set_option maxHeartbeats 8000000 in
set_option maxRecDepth 100000 in
theorem spec_EndsPage.calls (k : Nat) (a0 : ByteArray) (r : Bool) (w : World) (h : spec_EndsPage.f k a0 = some r) :
  Calls Try.prog 63 #[.string a0] w fun e w'=>e = .returned (.bool r) ∧ Drawn0 w w':=by
 have H : ((spec_SumOf.f k a0).bind fun t158=>(some ((Int.tmod t158 4) == 0))) = some r:=h
 clear h
 replace H:=Option.bind_eq_some_iff.mp H
 obtain ⟨t158,A20,H⟩:=H
 replace H : (some ((Int.tmod t158 4) == 0)) = some r:=H
 have A2:=qo.mk A20
 clear A20
 obtain rfl:=Option.some.inj H
 go_enter Try.func63,Try.ntmps63
 go_wp2_with (first|((with_reducible refine gate_callee (f:=84) rfl ?_);refine goesL_ (some 4) rfl rfl Try.func84 (by kernel_rfl) rfl #[.string a0] rfl sm_ ?_;(with_reducible refine (spec_SumOf.calls k a0 t158 _ A2.out).mono ?_);rintro e w' ⟨rfl,⟨nd,rfl⟩⟩;refine ⟨_,rfl,?_⟩))
 go_ret
 exact ⟨by first|rfl|(simp;done)|(simp [*];done),by repeat (first|exact Drawn0.refl _|apply Drawn0.step)⟩

/-! ### spec_CutItems: function 35 -/
mutual
def spec_CutItems.l0 : Nat → Int → List (S71) → List (List (S71)) → List (S71) → Int → Int → Option ((List (List (S71))))
 | 0,_,_,_,_,_,_=>none
 | k + 1,x0,x1,x5,x6,x7,x8=>if x8 < (x1.length : Int) then (if 0 ≤ x8 then ((spec_ItemSize.f k x0 ((rd_T71 x1 x8).f0) ((rd_T71 x1 x8).f1) ((rd_T71 x1 x8).f2)).bind fun t169=>(if (x6.length : Int) > 0 then (spec_CutItems.j1 k x0 x1 x5 x6 x7 x8 t169 (decide ((wrap64 (x7 + t169)) > 54))) else (spec_CutItems.j1 k x0 x1 x5 x6 x7 x8 t169 false))) else (none)) else (if (x6.length : Int) > 0 then (if x5.length < 5864062014805 then (some (x5 ++ [x6])) else (none)) else (some x5))
def spec_CutItems.j1 : Nat → Int → List (S71) → List (List (S71)) → List (S71) → Int → Int → Int → Bool → Option ((List (List (S71))))
 | 0,_,_,_,_,_,_,_,_=>none
 | k + 1,x0,x1,x5,x6,x7,x8,x9,x32=>if x32 = true then (if x5.length < 5864062014805 then ((some (x5 ++ [x6] : List (List (S71)))).bind fun y170=>((some (([] : List (S71)) : List (S71))).bind fun y173=>(if 0 ≤ x8 then (if x8 < (x1.length : Int) then (if y173.length < 3518437208883 then ((some (y173 ++ [(⟨(rd_T71 x1 x8).f0,(rd_T71 x1 x8).f1,(rd_T71 x1 x8).f2⟩ : S71)] : List (S71))).bind fun y177=>(if x0 = 1 then ((spec_EndsPage.f k ((rd_T71 x1 x8).f0)).bind fun t181=>(if t181 = true then (if y170.length < 5864062014805 then (spec_CutItems.l0 k x0 x1 (y170 ++ [y177]) (([] : List (S71))) 0 (wrap64 (x8 + 1))) else (none)) else (spec_CutItems.l0 k x0 x1 y170 y177 (wrap64 (0 + x9)) (wrap64 (x8 + 1))))) else (spec_CutItems.l0 k x0 x1 y170 y177 (wrap64 (0 + x9)) (wrap64 (x8 + 1))))) else (none)) else (none)) else (none)))) else (none)) else (if 0 ≤ x8 then (if x8 < (x1.length : Int) then (if x6.length < 3518437208883 then ((some (x6 ++ [(⟨(rd_T71 x1 x8).f0,(rd_T71 x1 x8).f1,(rd_T71 x1 x8).f2⟩ : S71)] : List (S71))).bind fun y189=>(if x0 = 1 then ((spec_EndsPage.f k ((rd_T71 x1 x8).f0)).bind fun t193=>(if t193 = true then (if x5.length < 5864062014805 then (spec_CutItems.l0 k x0 x1 (x5 ++ [y189]) (([] : List (S71))) 0 (wrap64 (x8 + 1))) else (none)) else (spec_CutItems.l0 k x0 x1 x5 y189 (wrap64 (x7 + x9)) (wrap64 (x8 + 1))))) else (spec_CutItems.l0 k x0 x1 x5 y189 (wrap64 (x7 + x9)) (wrap64 (x8 + 1))))) else (none)) else (none)) else (none))
end
def spec_CutItems.f (k : Nat) (a0 : Int) (l1 : List (S71)) : Option ((List (List (S71)))):=spec_CutItems.l0 k a0 l1 (([] : List (List (S71)))) (([] : List (S71))) 0 0
theorem spec_CutItems.mono_l : ∀ k,(∀ y0 y1 y2 y3 y4 y5,LeO (spec_CutItems.l0 k y0 y1 y2 y3 y4 y5) (spec_CutItems.l0 (k + 1) y0 y1 y2 y3 y4 y5)) ∧ (∀ y0 y1 y2 y3 y4 y5 y6 y7,LeO (spec_CutItems.j1 k y0 y1 y2 y3 y4 y5 y6 y7) (spec_CutItems.j1 (k + 1) y0 y1 y2 y3 y4 y5 y6 y7))
 | 0=>⟨fun _ _ _ _ _ _ r h=>by simp [spec_CutItems.l0] at h,fun _ _ _ _ _ _ _ _ r h=>by simp [spec_CutItems.j1] at h⟩
 | k + 1=>by
  obtain ⟨ih0,ih1⟩:=spec_CutItems.mono_l k
  refine ⟨?_,?_⟩ <;> intros <;> first|unfold spec_CutItems.l0|unfold spec_CutItems.j1
  all_goals repeat' first|(with_reducible first|exact ih0 _ _ _ _ _ _|exact ih1 _ _ _ _ _ _ _ _|exact spec_EndsPage.mono _ _|exact spec_ItemSize.mono _ _ _ _ _|exact LeO.refl _|exact LeO.none _|refine LeO.ite ?_ ?_|refine LeO.bind ?_ (fun _=>?_))|exact ih0 _ _ _ _ _ _|exact ih1 _ _ _ _ _ _ _ _|exact spec_EndsPage.mono _ _|exact spec_ItemSize.mono _ _ _ _ _|exact LeO.none _|refine LeO.ite ?_ ?_|refine LeO.bind ?_ (fun _=>?_)
theorem spec_CutItems.mono : ∀ a0 a1 k,LeO (spec_CutItems.f k a0 a1) (spec_CutItems.f (k + 1) a0 a1):=by
 intro a0 a1 k
 obtain ⟨ih0,ih1⟩:=spec_CutItems.mono_l k
 unfold spec_CutItems.f
 repeat' first|(with_reducible first|exact ih0 _ _ _ _ _ _|exact ih1 _ _ _ _ _ _ _ _|exact spec_EndsPage.mono _ _|exact spec_ItemSize.mono _ _ _ _ _|exact LeO.refl _|exact LeO.none _|refine LeO.ite ?_ ?_|refine LeO.bind ?_ (fun _=>?_))|exact ih0 _ _ _ _ _ _|exact ih1 _ _ _ _ _ _ _ _|exact spec_EndsPage.mono _ _|exact spec_ItemSize.mono _ _ _ _ _|exact LeO.none _|refine LeO.ite ?_ ?_|refine LeO.bind ?_ (fun _=>?_)
set_option maxHeartbeats 8000000 in
set_option maxRecDepth 100000 in
theorem spec_CutItems.calls (k : Nat) (a0 : Int) (A1 : Option Addr) (c1 : Nat) (l1 : List (S71)) (r : List (List (S71))) (w : World) (hr1 : Kd.C k71 w A1 l1.length l1) (hc1 : l1.length ≤ c1) (h : spec_CutItems.f k a0 l1 = some r) :
  Calls Try.prog 35 #[.int .i64 a0,.slice A1 l1.length c1] w fun e w'=>∃ v0_ : Value,e = .returned (v0_) ∧ Kd.S (Kd.slice 71 k71) 68 w' w.heap.size (fun _=>True) v0_ r ∧ Below w.heap.size w w':=by
 have hu71:=Try.underlying71
 have HR1:=qo.mk hr1
 have HC1:=qo.mk hc1
 clear hr1 hc1
 have HB:=qo.mk (Below.refl w.heap.size w)
 have H : (spec_CutItems.l0 k a0 l1 (([] : List (List (S71)))) (([] : List (S71))) 0 0) = some r:=h
 clear h
 obtain ⟨y159,hy159⟩ : ∃ y_ : List (List (S71)),y_ = (([] : List (List (S71)))):=⟨_,rfl⟩
 replace H : (spec_CutItems.l0 k a0 l1 y159 (([] : List (S71))) 0 0) = some r:=by first|(rw [hy159];with_reducible exact H)|(have H2_:=(Option.bind_some _ _).symm.trans H;rw [hy159];with_reducible exact H2_)|(have H2_:=(Option.bind_some _ _).symm.trans H;with_reducible exact H2_)|with_reducible exact H|(rw [hy159];exact H)|exact H
 have Ny159:=qo.mk hy159
 clear hy159
 obtain ⟨y162,hy162⟩ : ∃ y_ : List (S71),y_ = (([] : List (S71))):=⟨_,rfl⟩
 replace H : (spec_CutItems.l0 k a0 l1 y159 y162 0 0) = some r:=by first|(rw [hy162];with_reducible exact H)|(have H2_:=(Option.bind_some _ _).symm.trans H;rw [hy162];with_reducible exact H2_)|(have H2_:=(Option.bind_some _ _).symm.trans H;with_reducible exact H2_)|with_reducible exact H|(rw [hy162];exact H)|exact H
 have Ny162:=qo.mk hy162
 clear hy162
 have H':=qo.mk H
 clear H
 go_enter Try.func35,Try.ntmps35
 go_wp2_with (first|((with_reducible refine gate_dst (N:=10) rfl ?_);refine Kd.S_lit (Kd.slice 71 k71) _ 68 ?hg (N:=10) ?hd (xs:=([] : List (List (S71)))) (inner:=[]) (ok:=fun _=>True) (okp:=fun _=>True) ?hr ?hp (fun _ hk=>hk) trivial (Below.refl _ _) (Nat.le_refl _) (by simp) ?_;(case hd=>rfl);(case hg=>rfl);(case hr=>first|(go_simp;done)|(go_simp;rfl));(case hp=>exact (Reps.none _ _));intro v160 w3 ho4 hb hg_ hnew_;clear hg_ hnew_;(first|rw [← Ny159.out] at ho4|(simp only [Int.reduceToNat] at ho4;rw [← Ny159.out] at ho4));have HO161:=qo.mk (Kd.S_lower ho4 (qk hx_));replace HB:=hs_ HB hb;clear hb ho4)|((with_reducible refine gate_dst (N:=11) rfl ?_);refine Kd.R_lit k71 _ 71 ?hg (N:=11) ?hd (xs:=([] : List (S71))) (inner:=[]) (ok:=fun _=>True) (okp:=fun _=>True) ?hr ?hp (fun _ hk=>hk) trivial (Below.refl _ _) (Nat.le_refl _) (by simp) ?_;(case hd=>rfl);(case hg=>rfl);(case hr=>first|(go_simp;done)|(go_simp;rfl));(case hp=>exact (Reps.none _ _));intro v163 w5 ho6 hb hg_ hnew_;clear hg_ hnew_;(first|rw [← Ny162.out] at ho6|(simp only [Int.reduceToNat] at ho6;rw [← Ny162.out] at ho6));replace HO161:=qo.mk (Kd.S_elder' (by (with_reducible repeat (first|apply Kd.S_alloc|apply Kd.S_drewN|apply Kd.S_drew));exact HO161.out) (Kd.R_base ho6) hb);have HO164:=qo.mk (Kd.R_lower ho6 (qk hx_));replace HB:=hs_ HB hb;clear hb ho6))
 go_loopg [5,6,7,8] k (fun kq v5 v6 v7 v8 w'=>∃ (x5_1 : List (List (S71))) (x6_1 : List (S71)) (x7_1 : Int) (x8_1 : Int),v7 = .int .i64 x7_1 ∧ v8 = .int .i64 x8_1 ∧ qo (spec_CutItems.l0 kq a0 l1 x5_1 x6_1 x7_1 x8_1 = some r) ∧ qo (kq ≤ k) ∧ qo (Kd.S (Kd.slice 71 k71) 68 w' w.heap.size (fun k_=>some k_ ≠ (v6 : Value).ownBlock) v5 x5_1) ∧ qo (Kd.R k71 71 w' w.heap.size (fun _=>True) v6 x6_1) ∧ qo (Below w.heap.size w w'))
 case atStart=>exact ⟨(y159),(y162),(0),(0),rs_,rs_,H',⟨Nat.le_refl _⟩,⟨by (with_reducible repeat (first|apply Kd.S_alloc|apply Kd.S_drewN|apply Kd.S_drew));exact Kd.S_mono HO161.out (fun _ hk=>hk.2)⟩,⟨by (with_reducible repeat (first|apply Kd.R_alloc|apply Kd.R_drewN|apply Kd.R_drew));exact HO164.out⟩,⟨hx_⟩⟩
 clear H'
 try clear c1
 try clear p2
 try clear c3
 obtain ⟨x5_1,x6_1,x7_1,x8_1,rfl,rfl,HA,HK1,HO_5,HO_6,HB⟩:=hrel
 obtain _|k1:=gk
 ·exact absurd HA.out (by simp [spec_CutItems.l0])
 have H:=HA.out
 clear HA
 simp only [spec_CutItems.l0] at H
 by_cases c7 : x8_1 < (l1.length : Int)
 ·rw [if_pos c7] at H
  have c7b0 : decide (x8_1 < (l1.length : Int)) = true:=decide_eq_true c7
  clear c7
  by_cases c8 : 0 ≤ x8_1
  ·rw [if_pos c8] at H
   have c8b0 : decide (0 ≤ x8_1) = true:=decide_eq_true c8
   clear c8
   replace H:=Option.bind_eq_some_iff.mp H
   obtain ⟨t169,A90,H⟩:=H
   replace H : (if (x6_1.length : Int) > 0 then (spec_CutItems.j1 k1 a0 l1 x5_1 x6_1 x7_1 x8_1 t169 (decide ((wrap64 (x7_1 + t169)) > 54))) else (spec_CutItems.j1 k1 a0 l1 x5_1 x6_1 x7_1 x8_1 t169 false)) = some r:=H
   have A9:=qo.mk A90
   clear A90
   have HC10:=qo.mk H
   clear H
   have p168 : 0 ≤ (x8_1 : Int):=dt_
   have q168 : x8_1 < (l1.length : Int):=dt_
   obtain ⟨ad168,e168,hx168_0,hx168_1,hx168_2⟩:=at_T71 HR1.out x8_1 p168 q168
   cases e168
   replace hx168_0:=cb_ HB hx168_0
   replace hx168_1:=cb_ HB hx168_1
   replace hx168_2:=cb_ HB hx168_2
   replace p168:=eq_true p168
   replace q168:=eq_true q168
   go_upto_region 8 with (first|((with_reducible refine gate_callee (f:=62) rfl ?_);refine goesL_ (some 23) rfl rfl Try.func62 (by kernel_rfl) rfl #[.int .i64 a0,.agg #[.string ((rd_T71 l1 x8_1).f0),.string ((rd_T71 l1 x8_1).f1),.int .i64 ((rd_T71 l1 x8_1).f2)]] rfl sm_ ?_;(with_reducible refine (spec_ItemSize.calls k1 a0 ((rd_T71 l1 x8_1).f0) ((rd_T71 l1 x8_1).f1) ((rd_T71 l1 x8_1).f2) t169 _ A9.out).mono ?_);rintro e w11 ⟨rfl,hb⟩;refine ⟨_,rfl,?_⟩;replace HO_5:=qo.mk (Kd.S_below (by (with_reducible repeat (first|apply Kd.S_alloc|apply Kd.S_drewN|apply Kd.S_drew));exact HO_5.out) hb);replace HO_6:=rb_ HO_6 hb;replace HB:=hs_ HB hb;(try clear hb);(try clear hb2);(try clear hk);(try clear hi)))
   (try simp only [Act.put,List.setIfInBounds_toArray,List.set_cons_zero,List.set_cons_succ])
   go_cut [32] (fun v32 wc=>∃ (kq : Nat) (x32_9 : Bool),v32 = .bool x32_9 ∧ qo (spec_CutItems.j1 kq a0 l1 x5_1 x6_1 x7_1 x8_1 t169 x32_9 = some r) ∧ qo (kq ≤ k1) ∧ qo (Kd.S (Kd.slice 71 k71) 68 wc w.heap.size (fun k_=>some k_ ≠ (u6 : Value).ownBlock) u5 x5_1) ∧ qo (Kd.R k71 71 wc w.heap.size (fun _=>True) u6 x6_1) ∧ qo (Below w.heap.size w wc))
   case first =>
    have H:=HC10.out
    clear HC10
    by_cases c12 : (x6_1.length : Int) > 0
    ·rw [if_pos c12] at H
     have c12b0 : decide (0 < (x6_1.length : Int)) = true:=decide_eq_true c12
     have c12b1 : decide (0 < x6_1.length) = true:=decide_eq_true (by omega)
     clear c12
     (first|rw [c12b0]|(simp only [i64_w,i32_w];rw [c12b0])|skip)
     have H':=qo.mk H
     clear H
     obtain ⟨Ao13,co13,eo13⟩:=Kd.R_slice HO_6.out
     subst eo13
     go_wp2
     go_meet
     case rel=>exact ⟨_,(decide ((wrap64 (x7_1 + t169)) > 54)),rs_,H',⟨by have:=HK1.out;first|omega|exact Nat.le_refl _⟩,⟨by (with_reducible repeat (first|apply Kd.S_alloc|apply Kd.S_drewN|apply Kd.S_drew));exact HO_5.out⟩,⟨by (with_reducible repeat (first|apply Kd.R_alloc|apply Kd.R_drewN|apply Kd.R_drew));exact HO_6.out⟩,⟨hx_⟩⟩
    rw [if_neg c12] at H
    have c12b0 : decide (0 < (x6_1.length : Int)) = false:=decide_eq_false c12
    have c12b1 : decide (0 < x6_1.length) = false:=decide_eq_false (by omega)
    clear c12
    (first|rw [c12b0]|(simp only [i64_w,i32_w];rw [c12b0])|skip)
    have H':=qo.mk H
    clear H
    obtain ⟨Ao14,co14,eo14⟩:=Kd.R_slice HO_6.out
    subst eo14
    go_wp2
    go_meet
    case rel=>exact ⟨_,(false),rs_,H',⟨by have:=HK1.out;first|omega|exact Nat.le_refl _⟩,⟨by (with_reducible repeat (first|apply Kd.S_alloc|apply Kd.S_drewN|apply Kd.S_drew));exact HO_5.out⟩,⟨by (with_reducible repeat (first|apply Kd.R_alloc|apply Kd.R_drewN|apply Kd.R_drew));exact HO_6.out⟩,⟨hx_⟩⟩
   clear HC10
   try clear c1
   try clear p1
   try clear q1
   try clear hx1
   try clear p2
   try clear c3
   try clear c6
   try clear p6
   try clear c7
   try clear c7b0
   try clear c8
   try clear c8b0
   try clear c12
   try clear c12b0
   try clear c12b1
   try clear hx168_0
   try clear hx168_1
   try clear hx168_2
   try clear p168
   try clear p2
   try clear q168
   obtain ⟨kq,x32_9,rfl,HA,HJ9,HO_5,HO_6,HB⟩:=hcut
   obtain _|kj9:=kq
   ·exact absurd HA.out (by simp [spec_CutItems.j1])
   have H:=HA.out
   clear HA
   simp only [spec_CutItems.j1] at H
   by_cases c15 : x32_9 = true
   ·subst c15
    have H1 : (if x5_1.length < 5864062014805 then ((some (x5_1 ++ [x6_1] : List (List (S71)))).bind fun y170=>((some (([] : List (S71)) : List (S71))).bind fun y173=>(if 0 ≤ x8_1 then (if x8_1 < (l1.length : Int) then (if y173.length < 3518437208883 then ((some (y173 ++ [(⟨(rd_T71 l1 x8_1).f0,(rd_T71 l1 x8_1).f1,(rd_T71 l1 x8_1).f2⟩ : S71)] : List (S71))).bind fun y177=>(if a0 = 1 then ((spec_EndsPage.f kj9 ((rd_T71 l1 x8_1).f0)).bind fun t181=>(if t181 = true then (if y170.length < 5864062014805 then (spec_CutItems.l0 kj9 a0 l1 (y170 ++ [y177]) (([] : List (S71))) 0 (wrap64 (x8_1 + 1))) else (none)) else (spec_CutItems.l0 kj9 a0 l1 y170 y177 (wrap64 (0 + t169)) (wrap64 (x8_1 + 1))))) else (spec_CutItems.l0 kj9 a0 l1 y170 y177 (wrap64 (0 + t169)) (wrap64 (x8_1 + 1))))) else (none)) else (none)) else (none)))) else (none)) = some r:=by rw [if_pos rfl] at H;exact H
    clear H
    have H:=H1
    clear H1
    by_cases c16 : x5_1.length < 5864062014805
    ·rw [if_pos c16] at H
     have LMc16:=qo.mk c16
     clear c16
     obtain ⟨y170,hy170⟩ : ∃ y_ : List (List (S71)),y_ = (x5_1 ++ [x6_1]):=⟨_,rfl⟩
     replace H : ((some (([] : List (S71)) : List (S71))).bind fun y173=>(if 0 ≤ x8_1 then (if x8_1 < (l1.length : Int) then (if y173.length < 3518437208883 then ((some (y173 ++ [(⟨(rd_T71 l1 x8_1).f0,(rd_T71 l1 x8_1).f1,(rd_T71 l1 x8_1).f2⟩ : S71)] : List (S71))).bind fun y177=>(if a0 = 1 then ((spec_EndsPage.f kj9 ((rd_T71 l1 x8_1).f0)).bind fun t181=>(if t181 = true then (if y170.length < 5864062014805 then (spec_CutItems.l0 kj9 a0 l1 (y170 ++ [y177]) (([] : List (S71))) 0 (wrap64 (x8_1 + 1))) else (none)) else (spec_CutItems.l0 kj9 a0 l1 y170 y177 (wrap64 (0 + t169)) (wrap64 (x8_1 + 1))))) else (spec_CutItems.l0 kj9 a0 l1 y170 y177 (wrap64 (0 + t169)) (wrap64 (x8_1 + 1))))) else (none)) else (none)) else (none))) = some r:=by first|(rw [hy170];with_reducible exact H)|(have H2_:=(Option.bind_some _ _).symm.trans H;rw [hy170];with_reducible exact H2_)|(have H2_:=(Option.bind_some _ _).symm.trans H;with_reducible exact H2_)|with_reducible exact H|(rw [hy170];exact H)|exact H
     have Ny170:=qo.mk hy170
     clear hy170
     obtain ⟨y173,hy173⟩ : ∃ y_ : List (S71),y_ = (([] : List (S71))):=⟨_,rfl⟩
     replace H : (if 0 ≤ x8_1 then (if x8_1 < (l1.length : Int) then (if y173.length < 3518437208883 then ((some (y173 ++ [(⟨(rd_T71 l1 x8_1).f0,(rd_T71 l1 x8_1).f1,(rd_T71 l1 x8_1).f2⟩ : S71)] : List (S71))).bind fun y177=>(if a0 = 1 then ((spec_EndsPage.f kj9 ((rd_T71 l1 x8_1).f0)).bind fun t181=>(if t181 = true then (if y170.length < 5864062014805 then (spec_CutItems.l0 kj9 a0 l1 (y170 ++ [y177]) (([] : List (S71))) 0 (wrap64 (x8_1 + 1))) else (none)) else (spec_CutItems.l0 kj9 a0 l1 y170 y177 (wrap64 (0 + t169)) (wrap64 (x8_1 + 1))))) else (spec_CutItems.l0 kj9 a0 l1 y170 y177 (wrap64 (0 + t169)) (wrap64 (x8_1 + 1))))) else (none)) else (none)) else (none)) = some r:=by first|(rw [hy173];with_reducible exact H)|(have H2_:=(Option.bind_some _ _).symm.trans H;rw [hy173];with_reducible exact H2_)|(have H2_:=(Option.bind_some _ _).symm.trans H;with_reducible exact H2_)|with_reducible exact H|(rw [hy173];exact H)|exact H
     have Ny173:=qo.mk hy173
     clear hy173
     by_cases c17 : 0 ≤ x8_1
     ·rw [if_pos c17] at H
      have c17b0 : decide (0 ≤ x8_1) = true:=decide_eq_true c17
      clear c17
      by_cases c18 : x8_1 < (l1.length : Int)
      ·rw [if_pos c18] at H
       have c18b0 : decide (x8_1 < (l1.length : Int)) = true:=decide_eq_true c18
       clear c18
       by_cases c19 : y173.length < 3518437208883
       ·rw [if_pos c19] at H
        have LMc19:=qo.mk c19
        clear c19
        obtain ⟨y177,hy177⟩ : ∃ y_ : List (S71),y_ = (y173 ++ [(⟨(rd_T71 l1 x8_1).f0,(rd_T71 l1 x8_1).f1,(rd_T71 l1 x8_1).f2⟩ : S71)]):=⟨_,rfl⟩
        replace H : (if a0 = 1 then ((spec_EndsPage.f kj9 ((rd_T71 l1 x8_1).f0)).bind fun t181=>(if t181 = true then (if y170.length < 5864062014805 then (spec_CutItems.l0 kj9 a0 l1 (y170 ++ [y177]) (([] : List (S71))) 0 (wrap64 (x8_1 + 1))) else (none)) else (spec_CutItems.l0 kj9 a0 l1 y170 y177 (wrap64 (0 + t169)) (wrap64 (x8_1 + 1))))) else (spec_CutItems.l0 kj9 a0 l1 y170 y177 (wrap64 (0 + t169)) (wrap64 (x8_1 + 1)))) = some r:=by first|(rw [hy177];with_reducible exact H)|(have H2_:=(Option.bind_some _ _).symm.trans H;rw [hy177];with_reducible exact H2_)|(have H2_:=(Option.bind_some _ _).symm.trans H;with_reducible exact H2_)|with_reducible exact H|(rw [hy177];exact H)|exact H
        have Ny177:=qo.mk hy177
        clear hy177
        by_cases c20 : a0 = 1
        ·rw [if_pos c20] at H
         have c20b0 : (a0 == 1) = true:=beq_iff_eq.mpr c20
         have c20b1 : (a0 != 1) = false:=bne_eq_false_iff_eq.mpr c20
         clear c20
         replace H:=Option.bind_eq_some_iff.mp H
         obtain ⟨t181,A210,H⟩:=H
         replace H : (if t181 = true then (if y170.length < 5864062014805 then (spec_CutItems.l0 kj9 a0 l1 (y170 ++ [y177]) (([] : List (S71))) 0 (wrap64 (x8_1 + 1))) else (none)) else (spec_CutItems.l0 kj9 a0 l1 y170 y177 (wrap64 (0 + t169)) (wrap64 (x8_1 + 1)))) = some r:=H
         have A21:=qo.mk A210
         clear A210
         by_cases c22 : t181 = true
         ·subst c22
          have H1 : (if y170.length < 5864062014805 then (spec_CutItems.l0 kj9 a0 l1 (y170 ++ [y177]) (([] : List (S71))) 0 (wrap64 (x8_1 + 1))) else (none)) = some r:=by rw [if_pos rfl] at H;exact H
          clear H
          have H:=H1
          clear H1
          by_cases c23 : y170.length < 5864062014805
          ·rw [if_pos c23] at H
           have LMc23:=qo.mk c23
           clear c23
           obtain ⟨y182,hy182⟩ : ∃ y_ : List (List (S71)),y_ = (y170 ++ [y177]):=⟨_,rfl⟩
           replace H : (spec_CutItems.l0 kj9 a0 l1 y182 (([] : List (S71))) 0 (wrap64 (x8_1 + 1))) = some r:=by first|(rw [hy182];with_reducible exact H)|(have H2_:=(Option.bind_some _ _).symm.trans H;rw [hy182];with_reducible exact H2_)|(have H2_:=(Option.bind_some _ _).symm.trans H;with_reducible exact H2_)|with_reducible exact H|(rw [hy182];exact H)|exact H
           have Ny182:=qo.mk hy182
           clear hy182
           obtain ⟨y185,hy185⟩ : ∃ y_ : List (S71),y_ = (([] : List (S71))):=⟨_,rfl⟩
           replace H : (spec_CutItems.l0 kj9 a0 l1 y182 y185 0 (wrap64 (x8_1 + 1))) = some r:=by first|(rw [hy185];with_reducible exact H)|(have H2_:=(Option.bind_some _ _).symm.trans H;rw [hy185];with_reducible exact H2_)|(have H2_:=(Option.bind_some _ _).symm.trans H;with_reducible exact H2_)|with_reducible exact H|(rw [hy185];exact H)|exact H
           have Ny185:=qo.mk hy185
           clear hy185
           have H':=qo.mk H
           clear H
           obtain ⟨Ao25,co25,eo25⟩:=Kd.R_slice HO_6.out
           subst eo25
           go_wp2_with (first|((with_reducible refine gate_builtin (b:=.append) (xs:=#[.tmp 33,.tmp 35]) rfl ?_);at_builtin;refine Kd.S_append (Kd.slice 71 k71) (w0:=w) w.heap.size rfl (.tmp 33) (.tmp 35) 72 68 (.slice none 0 0) 24 rfl Try.underlying72 info68 rfl (by decide) (by omega) u5 x5_1 x6_1 [.slice Ao25 x6_1.length co25] (fun _=>True) (fun k_=>some k_ = (.slice Ao25 x6_1.length co25 : Value).ownBlock) rfl rfl ?aP (fun k_ hk_=>((Kd.R_mono (ok':=fun k_=>((fun _=>True)) k_ ∧ some k_ ≠ (u5 : Value).ownBlock) (Kd.R_apart' (HO_6.out) (Kd.S_typed HO_5.out) (by decide)) (fun k_ hk=>⟨trivial,hk.2⟩))).1 k_ hk_.symm) ?aF ?aO ?aB ?aS ?aL ?_;(case aP=>exact Kd.M_row (Kd.R_mono (Kd.R_tight rfl (Kd.R_mono (ok':=fun k_=>((fun _=>True)) k_ ∧ some k_ ≠ (u5 : Value).ownBlock) (Kd.R_apart' (HO_6.out) (Kd.S_typed HO_5.out) (by decide)) (fun k_ hk=>⟨trivial,hk.2⟩))) (fun _ h_=>h_)));(case aB=>exact hx_);(case aF=>exact (fun _ _=>trivial));(case aO=>exact (by (with_reducible repeat (first|apply Kd.S_alloc|apply Kd.S_drewN|apply Kd.S_drew));exact Kd.S_mono HO_5.out (fun k_ hk=>⟨trivial,fun e_=>hk e_⟩)));(case aS=>exact (qk hx_));(case aL=>have:=LMc16.out;omega);intro v171 w24 ho hb hg hat;rw [← Ny170.out] at ho;replace HB:=qo.mk (hb);have HO172:=qo.mk (ho);clear HO_5 HO_6;clear ho hb hg hat)|((with_reducible refine gate_dst (N:=37) rfl ?_);refine Kd.R_lit k71 _ 71 ?hg (N:=37) ?hd (xs:=([] : List (S71))) (inner:=[]) (ok:=fun _=>True) (okp:=fun _=>True) ?hr ?hp (fun _ hk=>hk) trivial (Below.refl _ _) (Nat.le_refl _) (by simp) ?_;(case hd=>rfl);(case hg=>rfl);(case hr=>first|(go_simp;done)|(go_simp;rfl));(case hp=>exact (Reps.none _ _));intro v174 w26 ho27 hb hg_ hnew_;clear hg_ hnew_;(first|rw [← Ny173.out] at ho27|(simp only [Int.reduceToNat] at ho27;rw [← Ny173.out] at ho27));replace HO172:=qo.mk (Kd.S_elder' (by (with_reducible repeat (first|apply Kd.S_alloc|apply Kd.S_drewN|apply Kd.S_drew));exact HO172.out) (Kd.R_base ho27) hb);have HO175:=qo.mk (Kd.R_lower ho27 (qk hx_));replace HB:=hs_ HB hb;clear hb ho27;have p176 : 0 ≤ (x8_1 : Int):=dt_;have q176 : x8_1 < (l1.length : Int):=dt_;obtain ⟨ad176,e176,hx176_0,hx176_1,hx176_2⟩:=at_T71 HR1.out x8_1 p176 q176;obtain rfl : ad168 = ad176:=(by injection e176);replace hx176_0:=cb_ HB hx176_0;replace hx176_1:=cb_ HB hx176_1;replace hx176_2:=cb_ HB hx176_2;replace p176:=eq_true p176;replace q176:=eq_true q176)|((with_reducible refine gate_builtin (b:=.append) (xs:=#[.tmp 38,.tmp 43]) rfl ?_);at_builtin;refine Kd.R_append k71 (w0:=w) w.heap.size rfl (.tmp 38) (.tmp 43) 68 71 (.agg #[(.string ⟨#[]⟩),(.string ⟨#[]⟩),(.int .i64 0)]) 40 rfl Try.underlying68 info71 rfl (by decide) (by omega) v174 y173 (⟨(rd_T71 l1 x8_1).f0,(rd_T71 l1 x8_1).f1,(rd_T71 l1 x8_1).f2⟩ : S71) [.string ((rd_T71 l1 x8_1).f0),.string ((rd_T71 l1 x8_1).f1),.int .i64 ((rd_T71 l1 x8_1).f2)] (fun _=>True) (fun _=>False) rfl rfl ?aP (fun _ hk=>hk.elim) ?aF ?aO ?aB ?aS ?aL ?_;(case aP=>exact k71_mkM _ _ _ (⟨(rd_T71 l1 x8_1).f0,(rd_T71 l1 x8_1).f1,(rd_T71 l1 x8_1).f2⟩ : S71));(case aB=>exact hx_);(case aF=>exact (fun _ _=>trivial));(case aO=>exact (by (with_reducible repeat (first|apply Kd.R_alloc|apply Kd.R_drewN|apply Kd.R_drew));exact HO175.out));(case aS=>exact (qk hx_));(case aL=>have:=LMc19.out;omega);intro v178 w28 ho hb hg hat;rw [← Ny177.out] at ho;replace HO172:=qo.mk (Kd.S_after (ok:=(fun _=>True)) (by (with_reducible repeat (first|apply Kd.S_alloc|apply Kd.S_drewN|apply Kd.S_drew));exact HO172.out) hg hat);replace HB:=qo.mk (hb);have HO179:=qo.mk (ho);clear HO175;clear ho hb hg hat;have p180 : 0 ≤ (x8_1 : Int):=dt_;have q180 : x8_1 < (l1.length : Int):=dt_;obtain ⟨ad180,e180,hx180_0,hx180_1,hx180_2⟩:=at_T71 HR1.out x8_1 p180 q180;obtain rfl : ad168 = ad180:=(by injection e180);replace hx180_0:=cb_ HB hx180_0;replace hx180_1:=cb_ HB hx180_1;replace hx180_2:=cb_ HB hx180_2;replace p180:=eq_true p180;replace q180:=eq_true q180)|(go_at_call 63;(with_reducible refine (spec_EndsPage.calls kj9 ((rd_T71 l1 x8_1).f0) true _ A21.out).mono ?_);rintro e w' ⟨rfl,⟨nd,rfl⟩⟩;obtain ⟨Ao30,co30,eo30⟩:=Kd.R_slice HO179.out;subst eo30)|((with_reducible refine gate_builtin (b:=.append) (xs:=#[.tmp 58,.tmp 60]) rfl ?_);at_builtin;refine Kd.S_append (Kd.slice 71 k71) (w0:=w) w.heap.size rfl (.tmp 58) (.tmp 60) 72 68 (.slice none 0 0) 24 rfl Try.underlying72 info68 rfl (by decide) (by omega) v171 y170 y177 [.slice Ao30 y177.length co30] (fun _=>True) (fun k_=>some k_ = (.slice Ao30 y177.length co30 : Value).ownBlock) rfl rfl ?aP (fun k_ hk_=>((Kd.R_mono (ok':=fun k_=>((fun _=>True)) k_ ∧ some k_ ≠ (v171 : Value).ownBlock) (Kd.R_apart' (HO179.out) (Kd.S_typed HO172.out) (by decide)) (fun k_ hk=>⟨trivial,hk.2⟩))).1 k_ hk_.symm) ?aF ?aO ?aB ?aS ?aL ?_;(case aP=>exact Kd.M_row (Kd.R_mono (Kd.R_tight rfl (Kd.R_mono (ok':=fun k_=>((fun _=>True)) k_ ∧ some k_ ≠ (v171 : Value).ownBlock) (Kd.R_apart' (HO179.out) (Kd.S_typed HO172.out) (by decide)) (fun k_ hk=>⟨trivial,hk.2⟩))) (fun _ h_=>h_)));(case aB=>exact hx_);(case aF=>exact (fun _ _=>trivial));(case aO=>exact (by (with_reducible repeat (first|apply Kd.S_alloc|apply Kd.S_drewN|apply Kd.S_drew));exact Kd.S_mono HO172.out (fun k_ hk=>⟨trivial,fun e_=>hk.2 e_⟩)));(case aS=>exact (qk hx_));(case aL=>have:=LMc23.out;omega);intro v183 w29 ho hb hg hat;rw [← Ny182.out] at ho;replace HB:=qo.mk (hb);have HO184:=qo.mk (ho);clear HO172 HO179;clear ho hb hg hat)|((with_reducible refine gate_dst (N:=62) rfl ?_);refine Kd.R_lit k71 _ 71 ?hg (N:=62) ?hd (xs:=([] : List (S71))) (inner:=[]) (ok:=fun _=>True) (okp:=fun _=>True) ?hr ?hp (fun _ hk=>hk) trivial (Below.refl _ _) (Nat.le_refl _) (by simp) ?_;(case hd=>rfl);(case hg=>rfl);(case hr=>first|(go_simp;done)|(go_simp;rfl));(case hp=>exact (Reps.none _ _));intro v186 w31 ho32 hb hg_ hnew_;clear hg_ hnew_;(first|rw [← Ny185.out] at ho32|(simp only [Int.reduceToNat] at ho32;rw [← Ny185.out] at ho32));replace HO184:=qo.mk (Kd.S_elder' (by (with_reducible repeat (first|apply Kd.S_alloc|apply Kd.S_drewN|apply Kd.S_drew));exact HO184.out) (Kd.R_base ho32) hb);have HO187:=qo.mk (Kd.R_lower ho32 (qk hx_));replace HB:=hs_ HB hb;clear hb ho32))
           go_roundg kj9
           case measure=>have:=HK1.out;have:=HJ9.out;omega
           case rel=>exact ⟨(y182),(y185),(0),(wrap64 (x8_1 + 1)),rs_,rs_,H',⟨by have:=HK1.out;have:=HJ9.out;omega⟩,⟨by (with_reducible repeat (first|apply Kd.S_alloc|apply Kd.S_drewN|apply Kd.S_drew));exact Kd.S_mono HO184.out (fun _ hk=>hk.2)⟩,⟨by (with_reducible repeat (first|apply Kd.R_alloc|apply Kd.R_drewN|apply Kd.R_drew));exact HO187.out⟩,⟨hx_⟩⟩
          rw [if_neg c23] at H
          exact absurd H (by simp)
         replace c22:=Bool.eq_false_iff.mpr c22
         subst c22
         have H1 : (spec_CutItems.l0 kj9 a0 l1 y170 y177 (wrap64 (0 + t169)) (wrap64 (x8_1 + 1))) = some r:=by rw [if_neg (show ¬ (false = true) by decide)] at H;exact H
         clear H
         have H:=H1
         clear H1
         have H':=qo.mk H
         clear H
         obtain ⟨Ao34,co34,eo34⟩:=Kd.R_slice HO_6.out
         subst eo34
         go_wp2_with (first|((with_reducible refine gate_builtin (b:=.append) (xs:=#[.tmp 33,.tmp 35]) rfl ?_);at_builtin;refine Kd.S_append (Kd.slice 71 k71) (w0:=w) w.heap.size rfl (.tmp 33) (.tmp 35) 72 68 (.slice none 0 0) 24 rfl Try.underlying72 info68 rfl (by decide) (by omega) u5 x5_1 x6_1 [.slice Ao34 x6_1.length co34] (fun _=>True) (fun k_=>some k_ = (.slice Ao34 x6_1.length co34 : Value).ownBlock) rfl rfl ?aP (fun k_ hk_=>((Kd.R_mono (ok':=fun k_=>((fun _=>True)) k_ ∧ some k_ ≠ (u5 : Value).ownBlock) (Kd.R_apart' (HO_6.out) (Kd.S_typed HO_5.out) (by decide)) (fun k_ hk=>⟨trivial,hk.2⟩))).1 k_ hk_.symm) ?aF ?aO ?aB ?aS ?aL ?_;(case aP=>exact Kd.M_row (Kd.R_mono (Kd.R_tight rfl (Kd.R_mono (ok':=fun k_=>((fun _=>True)) k_ ∧ some k_ ≠ (u5 : Value).ownBlock) (Kd.R_apart' (HO_6.out) (Kd.S_typed HO_5.out) (by decide)) (fun k_ hk=>⟨trivial,hk.2⟩))) (fun _ h_=>h_)));(case aB=>exact hx_);(case aF=>exact (fun _ _=>trivial));(case aO=>exact (by (with_reducible repeat (first|apply Kd.S_alloc|apply Kd.S_drewN|apply Kd.S_drew));exact Kd.S_mono HO_5.out (fun k_ hk=>⟨trivial,fun e_=>hk e_⟩)));(case aS=>exact (qk hx_));(case aL=>have:=LMc16.out;omega);intro v171 w33 ho hb hg hat;rw [← Ny170.out] at ho;replace HB:=qo.mk (hb);have HO172:=qo.mk (ho);clear HO_5 HO_6;clear ho hb hg hat)|((with_reducible refine gate_dst (N:=37) rfl ?_);refine Kd.R_lit k71 _ 71 ?hg (N:=37) ?hd (xs:=([] : List (S71))) (inner:=[]) (ok:=fun _=>True) (okp:=fun _=>True) ?hr ?hp (fun _ hk=>hk) trivial (Below.refl _ _) (Nat.le_refl _) (by simp) ?_;(case hd=>rfl);(case hg=>rfl);(case hr=>first|(go_simp;done)|(go_simp;rfl));(case hp=>exact (Reps.none _ _));intro v174 w35 ho36 hb hg_ hnew_;clear hg_ hnew_;(first|rw [← Ny173.out] at ho36|(simp only [Int.reduceToNat] at ho36;rw [← Ny173.out] at ho36));replace HO172:=qo.mk (Kd.S_elder' (by (with_reducible repeat (first|apply Kd.S_alloc|apply Kd.S_drewN|apply Kd.S_drew));exact HO172.out) (Kd.R_base ho36) hb);have HO175:=qo.mk (Kd.R_lower ho36 (qk hx_));replace HB:=hs_ HB hb;clear hb ho36;have p176 : 0 ≤ (x8_1 : Int):=dt_;have q176 : x8_1 < (l1.length : Int):=dt_;obtain ⟨ad176,e176,hx176_0,hx176_1,hx176_2⟩:=at_T71 HR1.out x8_1 p176 q176;obtain rfl : ad168 = ad176:=(by injection e176);replace hx176_0:=cb_ HB hx176_0;replace hx176_1:=cb_ HB hx176_1;replace hx176_2:=cb_ HB hx176_2;replace p176:=eq_true p176;replace q176:=eq_true q176)|((with_reducible refine gate_builtin (b:=.append) (xs:=#[.tmp 38,.tmp 43]) rfl ?_);at_builtin;refine Kd.R_append k71 (w0:=w) w.heap.size rfl (.tmp 38) (.tmp 43) 68 71 (.agg #[(.string ⟨#[]⟩),(.string ⟨#[]⟩),(.int .i64 0)]) 40 rfl Try.underlying68 info71 rfl (by decide) (by omega) v174 y173 (⟨(rd_T71 l1 x8_1).f0,(rd_T71 l1 x8_1).f1,(rd_T71 l1 x8_1).f2⟩ : S71) [.string ((rd_T71 l1 x8_1).f0),.string ((rd_T71 l1 x8_1).f1),.int .i64 ((rd_T71 l1 x8_1).f2)] (fun _=>True) (fun _=>False) rfl rfl ?aP (fun _ hk=>hk.elim) ?aF ?aO ?aB ?aS ?aL ?_;(case aP=>exact k71_mkM _ _ _ (⟨(rd_T71 l1 x8_1).f0,(rd_T71 l1 x8_1).f1,(rd_T71 l1 x8_1).f2⟩ : S71));(case aB=>exact hx_);(case aF=>exact (fun _ _=>trivial));(case aO=>exact (by (with_reducible repeat (first|apply Kd.R_alloc|apply Kd.R_drewN|apply Kd.R_drew));exact HO175.out));(case aS=>exact (qk hx_));(case aL=>have:=LMc19.out;omega);intro v178 w37 ho hb hg hat;rw [← Ny177.out] at ho;replace HO172:=qo.mk (Kd.S_after (ok:=(fun _=>True)) (by (with_reducible repeat (first|apply Kd.S_alloc|apply Kd.S_drewN|apply Kd.S_drew));exact HO172.out) hg hat);replace HB:=qo.mk (hb);have HO179:=qo.mk (ho);clear HO175;clear ho hb hg hat;have p180 : 0 ≤ (x8_1 : Int):=dt_;have q180 : x8_1 < (l1.length : Int):=dt_;obtain ⟨ad180,e180,hx180_0,hx180_1,hx180_2⟩:=at_T71 HR1.out x8_1 p180 q180;obtain rfl : ad168 = ad180:=(by injection e180);replace hx180_0:=cb_ HB hx180_0;replace hx180_1:=cb_ HB hx180_1;replace hx180_2:=cb_ HB hx180_2;replace p180:=eq_true p180;replace q180:=eq_true q180)|(go_at_call 63;(with_reducible refine (spec_EndsPage.calls kj9 ((rd_T71 l1 x8_1).f0) false _ A21.out).mono ?_);rintro e w' ⟨rfl,⟨nd,rfl⟩⟩))
         go_roundg kj9
         case measure=>have:=HK1.out;have:=HJ9.out;omega
         case rel=>exact ⟨(y170),(y177),(wrap64 (0 + t169)),(wrap64 (x8_1 + 1)),rs_,rs_,H',⟨by have:=HK1.out;have:=HJ9.out;omega⟩,⟨by (with_reducible repeat (first|apply Kd.S_alloc|apply Kd.S_drewN|apply Kd.S_drew));exact Kd.S_mono HO172.out (fun _ hk=>hk.2)⟩,⟨by (with_reducible repeat (first|apply Kd.R_alloc|apply Kd.R_drewN|apply Kd.R_drew));exact HO179.out⟩,⟨hx_⟩⟩
        rw [if_neg c20] at H
        have c20b0 : (a0 == 1) = false:=beq_eq_false_iff_ne.mpr c20
        have c20b1 : (a0 != 1) = true:=bne_iff_ne.mpr c20
        have H':=qo.mk H
        clear H
        obtain ⟨Ao39,co39,eo39⟩:=Kd.R_slice HO_6.out
        subst eo39
        go_wp2_with (first|((with_reducible refine gate_builtin (b:=.append) (xs:=#[.tmp 33,.tmp 35]) rfl ?_);at_builtin;refine Kd.S_append (Kd.slice 71 k71) (w0:=w) w.heap.size rfl (.tmp 33) (.tmp 35) 72 68 (.slice none 0 0) 24 rfl Try.underlying72 info68 rfl (by decide) (by omega) u5 x5_1 x6_1 [.slice Ao39 x6_1.length co39] (fun _=>True) (fun k_=>some k_ = (.slice Ao39 x6_1.length co39 : Value).ownBlock) rfl rfl ?aP (fun k_ hk_=>((Kd.R_mono (ok':=fun k_=>((fun _=>True)) k_ ∧ some k_ ≠ (u5 : Value).ownBlock) (Kd.R_apart' (HO_6.out) (Kd.S_typed HO_5.out) (by decide)) (fun k_ hk=>⟨trivial,hk.2⟩))).1 k_ hk_.symm) ?aF ?aO ?aB ?aS ?aL ?_;(case aP=>exact Kd.M_row (Kd.R_mono (Kd.R_tight rfl (Kd.R_mono (ok':=fun k_=>((fun _=>True)) k_ ∧ some k_ ≠ (u5 : Value).ownBlock) (Kd.R_apart' (HO_6.out) (Kd.S_typed HO_5.out) (by decide)) (fun k_ hk=>⟨trivial,hk.2⟩))) (fun _ h_=>h_)));(case aB=>exact hx_);(case aF=>exact (fun _ _=>trivial));(case aO=>exact (by (with_reducible repeat (first|apply Kd.S_alloc|apply Kd.S_drewN|apply Kd.S_drew));exact Kd.S_mono HO_5.out (fun k_ hk=>⟨trivial,fun e_=>hk e_⟩)));(case aS=>exact (qk hx_));(case aL=>have:=LMc16.out;omega);intro v171 w38 ho hb hg hat;rw [← Ny170.out] at ho;replace HB:=qo.mk (hb);have HO172:=qo.mk (ho);clear HO_5 HO_6;clear ho hb hg hat)|((with_reducible refine gate_dst (N:=37) rfl ?_);refine Kd.R_lit k71 _ 71 ?hg (N:=37) ?hd (xs:=([] : List (S71))) (inner:=[]) (ok:=fun _=>True) (okp:=fun _=>True) ?hr ?hp (fun _ hk=>hk) trivial (Below.refl _ _) (Nat.le_refl _) (by simp) ?_;(case hd=>rfl);(case hg=>rfl);(case hr=>first|(go_simp;done)|(go_simp;rfl));(case hp=>exact (Reps.none _ _));intro v174 w40 ho41 hb hg_ hnew_;clear hg_ hnew_;(first|rw [← Ny173.out] at ho41|(simp only [Int.reduceToNat] at ho41;rw [← Ny173.out] at ho41));replace HO172:=qo.mk (Kd.S_elder' (by (with_reducible repeat (first|apply Kd.S_alloc|apply Kd.S_drewN|apply Kd.S_drew));exact HO172.out) (Kd.R_base ho41) hb);have HO175:=qo.mk (Kd.R_lower ho41 (qk hx_));replace HB:=hs_ HB hb;clear hb ho41;have p176 : 0 ≤ (x8_1 : Int):=dt_;have q176 : x8_1 < (l1.length : Int):=dt_;obtain ⟨ad176,e176,hx176_0,hx176_1,hx176_2⟩:=at_T71 HR1.out x8_1 p176 q176;obtain rfl : ad168 = ad176:=(by injection e176);replace hx176_0:=cb_ HB hx176_0;replace hx176_1:=cb_ HB hx176_1;replace hx176_2:=cb_ HB hx176_2;replace p176:=eq_true p176;replace q176:=eq_true q176)|((with_reducible refine gate_builtin (b:=.append) (xs:=#[.tmp 38,.tmp 43]) rfl ?_);at_builtin;refine Kd.R_append k71 (w0:=w) w.heap.size rfl (.tmp 38) (.tmp 43) 68 71 (.agg #[(.string ⟨#[]⟩),(.string ⟨#[]⟩),(.int .i64 0)]) 40 rfl Try.underlying68 info71 rfl (by decide) (by omega) v174 y173 (⟨(rd_T71 l1 x8_1).f0,(rd_T71 l1 x8_1).f1,(rd_T71 l1 x8_1).f2⟩ : S71) [.string ((rd_T71 l1 x8_1).f0),.string ((rd_T71 l1 x8_1).f1),.int .i64 ((rd_T71 l1 x8_1).f2)] (fun _=>True) (fun _=>False) rfl rfl ?aP (fun _ hk=>hk.elim) ?aF ?aO ?aB ?aS ?aL ?_;(case aP=>exact k71_mkM _ _ _ (⟨(rd_T71 l1 x8_1).f0,(rd_T71 l1 x8_1).f1,(rd_T71 l1 x8_1).f2⟩ : S71));(case aB=>exact hx_);(case aF=>exact (fun _ _=>trivial));(case aO=>exact (by (with_reducible repeat (first|apply Kd.R_alloc|apply Kd.R_drewN|apply Kd.R_drew));exact HO175.out));(case aS=>exact (qk hx_));(case aL=>have:=LMc19.out;omega);intro v178 w42 ho hb hg hat;rw [← Ny177.out] at ho;replace HO172:=qo.mk (Kd.S_after (ok:=(fun _=>True)) (by (with_reducible repeat (first|apply Kd.S_alloc|apply Kd.S_drewN|apply Kd.S_drew));exact HO172.out) hg hat);replace HB:=qo.mk (hb);have HO179:=qo.mk (ho);clear HO175;clear ho hb hg hat))
        go_roundg kj9
        case measure=>have:=HK1.out;have:=HJ9.out;omega
        case rel=>exact ⟨(y170),(y177),(wrap64 (0 + t169)),(wrap64 (x8_1 + 1)),rs_,rs_,H',⟨by have:=HK1.out;have:=HJ9.out;omega⟩,⟨by (with_reducible repeat (first|apply Kd.S_alloc|apply Kd.S_drewN|apply Kd.S_drew));exact Kd.S_mono HO172.out (fun _ hk=>hk.2)⟩,⟨by (with_reducible repeat (first|apply Kd.R_alloc|apply Kd.R_drewN|apply Kd.R_drew));exact HO179.out⟩,⟨hx_⟩⟩
       rw [if_neg c19] at H
       exact absurd H (by simp)
      rw [if_neg c18] at H
      exact absurd H (by simp)
     rw [if_neg c17] at H
     exact absurd H (by simp)
    rw [if_neg c16] at H
    exact absurd H (by simp)
   replace c15:=Bool.eq_false_iff.mpr c15
   subst c15
   have H1 : (if 0 ≤ x8_1 then (if x8_1 < (l1.length : Int) then (if x6_1.length < 3518437208883 then ((some (x6_1 ++ [(⟨(rd_T71 l1 x8_1).f0,(rd_T71 l1 x8_1).f1,(rd_T71 l1 x8_1).f2⟩ : S71)] : List (S71))).bind fun y189=>(if a0 = 1 then ((spec_EndsPage.f kj9 ((rd_T71 l1 x8_1).f0)).bind fun t193=>(if t193 = true then (if x5_1.length < 5864062014805 then (spec_CutItems.l0 kj9 a0 l1 (x5_1 ++ [y189]) (([] : List (S71))) 0 (wrap64 (x8_1 + 1))) else (none)) else (spec_CutItems.l0 kj9 a0 l1 x5_1 y189 (wrap64 (x7_1 + t169)) (wrap64 (x8_1 + 1))))) else (spec_CutItems.l0 kj9 a0 l1 x5_1 y189 (wrap64 (x7_1 + t169)) (wrap64 (x8_1 + 1))))) else (none)) else (none)) else (none)) = some r:=by rw [if_neg (show ¬ (false = true) by decide)] at H;exact H
   clear H
   have H:=H1
   clear H1
   by_cases c43 : 0 ≤ x8_1
   ·rw [if_pos c43] at H
    have c43b0 : decide (0 ≤ x8_1) = true:=decide_eq_true c43
    clear c43
    by_cases c44 : x8_1 < (l1.length : Int)
    ·rw [if_pos c44] at H
     have c44b0 : decide (x8_1 < (l1.length : Int)) = true:=decide_eq_true c44
     clear c44
     by_cases c45 : x6_1.length < 3518437208883
     ·rw [if_pos c45] at H
      have LMc45:=qo.mk c45
      clear c45
      obtain ⟨y189,hy189⟩ : ∃ y_ : List (S71),y_ = (x6_1 ++ [(⟨(rd_T71 l1 x8_1).f0,(rd_T71 l1 x8_1).f1,(rd_T71 l1 x8_1).f2⟩ : S71)]):=⟨_,rfl⟩
      replace H : (if a0 = 1 then ((spec_EndsPage.f kj9 ((rd_T71 l1 x8_1).f0)).bind fun t193=>(if t193 = true then (if x5_1.length < 5864062014805 then (spec_CutItems.l0 kj9 a0 l1 (x5_1 ++ [y189]) (([] : List (S71))) 0 (wrap64 (x8_1 + 1))) else (none)) else (spec_CutItems.l0 kj9 a0 l1 x5_1 y189 (wrap64 (x7_1 + t169)) (wrap64 (x8_1 + 1))))) else (spec_CutItems.l0 kj9 a0 l1 x5_1 y189 (wrap64 (x7_1 + t169)) (wrap64 (x8_1 + 1)))) = some r:=by first|(rw [hy189];with_reducible exact H)|(have H2_:=(Option.bind_some _ _).symm.trans H;rw [hy189];with_reducible exact H2_)|(have H2_:=(Option.bind_some _ _).symm.trans H;with_reducible exact H2_)|with_reducible exact H|(rw [hy189];exact H)|exact H
      have Ny189:=qo.mk hy189
      clear hy189
      by_cases c46 : a0 = 1
      ·rw [if_pos c46] at H
       have c46b0 : (a0 == 1) = true:=beq_iff_eq.mpr c46
       have c46b1 : (a0 != 1) = false:=bne_eq_false_iff_eq.mpr c46
       clear c46
       replace H:=Option.bind_eq_some_iff.mp H
       obtain ⟨t193,A470,H⟩:=H
       replace H : (if t193 = true then (if x5_1.length < 5864062014805 then (spec_CutItems.l0 kj9 a0 l1 (x5_1 ++ [y189]) (([] : List (S71))) 0 (wrap64 (x8_1 + 1))) else (none)) else (spec_CutItems.l0 kj9 a0 l1 x5_1 y189 (wrap64 (x7_1 + t169)) (wrap64 (x8_1 + 1)))) = some r:=H
       have A47:=qo.mk A470
       clear A470
       by_cases c48 : t193 = true
       ·subst c48
        have H1 : (if x5_1.length < 5864062014805 then (spec_CutItems.l0 kj9 a0 l1 (x5_1 ++ [y189]) (([] : List (S71))) 0 (wrap64 (x8_1 + 1))) else (none)) = some r:=by rw [if_pos rfl] at H;exact H
        clear H
        have H:=H1
        clear H1
        by_cases c49 : x5_1.length < 5864062014805
        ·rw [if_pos c49] at H
         have LMc49:=qo.mk c49
         clear c49
         obtain ⟨y194,hy194⟩ : ∃ y_ : List (List (S71)),y_ = (x5_1 ++ [y189]):=⟨_,rfl⟩
         replace H : (spec_CutItems.l0 kj9 a0 l1 y194 (([] : List (S71))) 0 (wrap64 (x8_1 + 1))) = some r:=by first|(rw [hy194];with_reducible exact H)|(have H2_:=(Option.bind_some _ _).symm.trans H;rw [hy194];with_reducible exact H2_)|(have H2_:=(Option.bind_some _ _).symm.trans H;with_reducible exact H2_)|with_reducible exact H|(rw [hy194];exact H)|exact H
         have Ny194:=qo.mk hy194
         clear hy194
         obtain ⟨y197,hy197⟩ : ∃ y_ : List (S71),y_ = (([] : List (S71))):=⟨_,rfl⟩
         replace H : (spec_CutItems.l0 kj9 a0 l1 y194 y197 0 (wrap64 (x8_1 + 1))) = some r:=by first|(rw [hy197];with_reducible exact H)|(have H2_:=(Option.bind_some _ _).symm.trans H;rw [hy197];with_reducible exact H2_)|(have H2_:=(Option.bind_some _ _).symm.trans H;with_reducible exact H2_)|with_reducible exact H|(rw [hy197];exact H)|exact H
         have Ny197:=qo.mk hy197
         clear hy197
         have H':=qo.mk H
         clear H
         have p188 : 0 ≤ (x8_1 : Int):=dt_
         have q188 : x8_1 < (l1.length : Int):=dt_
         obtain ⟨ad188,e188,hx188_0,hx188_1,hx188_2⟩:=at_T71 HR1.out x8_1 p188 q188
         obtain rfl : ad168 = ad188:=(by injection e188)
         replace hx188_0:=cb_ HB hx188_0
         replace hx188_1:=cb_ HB hx188_1
         replace hx188_2:=cb_ HB hx188_2
         replace p188:=eq_true p188
         replace q188:=eq_true q188
         go_wp2_with (first|((with_reducible refine gate_builtin (b:=.append) (xs:=#[.tmp 38,.tmp 43]) rfl ?_);at_builtin;refine Kd.R_append k71 (w0:=w) w.heap.size rfl (.tmp 38) (.tmp 43) 68 71 (.agg #[(.string ⟨#[]⟩),(.string ⟨#[]⟩),(.int .i64 0)]) 40 rfl Try.underlying68 info71 rfl (by decide) (by omega) u6 x6_1 (⟨(rd_T71 l1 x8_1).f0,(rd_T71 l1 x8_1).f1,(rd_T71 l1 x8_1).f2⟩ : S71) [.string ((rd_T71 l1 x8_1).f0),.string ((rd_T71 l1 x8_1).f1),.int .i64 ((rd_T71 l1 x8_1).f2)] (fun _=>True) (fun _=>False) rfl rfl ?aP (fun _ hk=>hk.elim) ?aF ?aO ?aB ?aS ?aL ?_;(case aP=>exact k71_mkM _ _ _ (⟨(rd_T71 l1 x8_1).f0,(rd_T71 l1 x8_1).f1,(rd_T71 l1 x8_1).f2⟩ : S71));(case aB=>exact hx_);(case aF=>exact (fun _ _=>trivial));(case aO=>exact (by (with_reducible repeat (first|apply Kd.R_alloc|apply Kd.R_drewN|apply Kd.R_drew));exact HO_6.out));(case aS=>exact (qk hx_));(case aL=>have:=LMc45.out;omega);intro v190 w50 ho hb hg hat;rw [← Ny189.out] at ho;replace HO_5:=qo.mk (Kd.S_after (ok:=(fun _=>True)) (by (with_reducible repeat (first|apply Kd.S_alloc|apply Kd.S_drewN|apply Kd.S_drew));exact Kd.S_mono HO_5.out (fun _ hk=>⟨trivial,hk⟩)) hg hat);replace HB:=qo.mk (hb);have HO191:=qo.mk (ho);clear HO_6;clear ho hb hg hat;have p192 : 0 ≤ (x8_1 : Int):=dt_;have q192 : x8_1 < (l1.length : Int):=dt_;obtain ⟨ad192,e192,hx192_0,hx192_1,hx192_2⟩:=at_T71 HR1.out x8_1 p192 q192;obtain rfl : ad168 = ad192:=(by injection e192);replace hx192_0:=cb_ HB hx192_0;replace hx192_1:=cb_ HB hx192_1;replace hx192_2:=cb_ HB hx192_2;replace p192:=eq_true p192;replace q192:=eq_true q192)|(go_at_call 63;(with_reducible refine (spec_EndsPage.calls kj9 ((rd_T71 l1 x8_1).f0) true _ A47.out).mono ?_);rintro e w' ⟨rfl,⟨nd,rfl⟩⟩;obtain ⟨Ao52,co52,eo52⟩:=Kd.R_slice HO191.out;subst eo52)|((with_reducible refine gate_builtin (b:=.append) (xs:=#[.tmp 58,.tmp 60]) rfl ?_);at_builtin;refine Kd.S_append (Kd.slice 71 k71) (w0:=w) w.heap.size rfl (.tmp 58) (.tmp 60) 72 68 (.slice none 0 0) 24 rfl Try.underlying72 info68 rfl (by decide) (by omega) u5 x5_1 y189 [.slice Ao52 y189.length co52] (fun _=>True) (fun k_=>some k_ = (.slice Ao52 y189.length co52 : Value).ownBlock) rfl rfl ?aP (fun k_ hk_=>((Kd.R_mono (ok':=fun k_=>((fun _=>True)) k_ ∧ some k_ ≠ (u5 : Value).ownBlock) (Kd.R_apart' (HO191.out) (Kd.S_typed HO_5.out) (by decide)) (fun k_ hk=>⟨trivial,hk.2⟩))).1 k_ hk_.symm) ?aF ?aO ?aB ?aS ?aL ?_;(case aP=>exact Kd.M_row (Kd.R_mono (Kd.R_tight rfl (Kd.R_mono (ok':=fun k_=>((fun _=>True)) k_ ∧ some k_ ≠ (u5 : Value).ownBlock) (Kd.R_apart' (HO191.out) (Kd.S_typed HO_5.out) (by decide)) (fun k_ hk=>⟨trivial,hk.2⟩))) (fun _ h_=>h_)));(case aB=>exact hx_);(case aF=>exact (fun _ _=>trivial));(case aO=>exact (by (with_reducible repeat (first|apply Kd.S_alloc|apply Kd.S_drewN|apply Kd.S_drew));exact Kd.S_mono HO_5.out (fun k_ hk=>⟨trivial,fun e_=>hk.2 e_⟩)));(case aS=>exact (qk hx_));(case aL=>have:=LMc49.out;omega);intro v195 w51 ho hb hg hat;rw [← Ny194.out] at ho;replace HB:=qo.mk (hb);have HO196:=qo.mk (ho);clear HO_5 HO191;clear ho hb hg hat)|((with_reducible refine gate_dst (N:=62) rfl ?_);refine Kd.R_lit k71 _ 71 ?hg (N:=62) ?hd (xs:=([] : List (S71))) (inner:=[]) (ok:=fun _=>True) (okp:=fun _=>True) ?hr ?hp (fun _ hk=>hk) trivial (Below.refl _ _) (Nat.le_refl _) (by simp) ?_;(case hd=>rfl);(case hg=>rfl);(case hr=>first|(go_simp;done)|(go_simp;rfl));(case hp=>exact (Reps.none _ _));intro v198 w53 ho54 hb hg_ hnew_;clear hg_ hnew_;(first|rw [← Ny197.out] at ho54|(simp only [Int.reduceToNat] at ho54;rw [← Ny197.out] at ho54));replace HO196:=qo.mk (Kd.S_elder' (by (with_reducible repeat (first|apply Kd.S_alloc|apply Kd.S_drewN|apply Kd.S_drew));exact HO196.out) (Kd.R_base ho54) hb);have HO199:=qo.mk (Kd.R_lower ho54 (qk hx_));replace HB:=hs_ HB hb;clear hb ho54))
         go_roundg kj9
         case measure=>have:=HK1.out;have:=HJ9.out;omega
         case rel=>exact ⟨(y194),(y197),(0),(wrap64 (x8_1 + 1)),rs_,rs_,H',⟨by have:=HK1.out;have:=HJ9.out;omega⟩,⟨by (with_reducible repeat (first|apply Kd.S_alloc|apply Kd.S_drewN|apply Kd.S_drew));exact Kd.S_mono HO196.out (fun _ hk=>hk.2)⟩,⟨by (with_reducible repeat (first|apply Kd.R_alloc|apply Kd.R_drewN|apply Kd.R_drew));exact HO199.out⟩,⟨hx_⟩⟩
        rw [if_neg c49] at H
        exact absurd H (by simp)
       replace c48:=Bool.eq_false_iff.mpr c48
       subst c48
       have H1 : (spec_CutItems.l0 kj9 a0 l1 x5_1 y189 (wrap64 (x7_1 + t169)) (wrap64 (x8_1 + 1))) = some r:=by rw [if_neg (show ¬ (false = true) by decide)] at H;exact H
       clear H
       have H:=H1
       clear H1
       have H':=qo.mk H
       clear H
       have p188 : 0 ≤ (x8_1 : Int):=dt_
       have q188 : x8_1 < (l1.length : Int):=dt_
       obtain ⟨ad188,e188,hx188_0,hx188_1,hx188_2⟩:=at_T71 HR1.out x8_1 p188 q188
       obtain rfl : ad168 = ad188:=(by injection e188)
       replace hx188_0:=cb_ HB hx188_0
       replace hx188_1:=cb_ HB hx188_1
       replace hx188_2:=cb_ HB hx188_2
       replace p188:=eq_true p188
       replace q188:=eq_true q188
       go_wp2_with (first|((with_reducible refine gate_builtin (b:=.append) (xs:=#[.tmp 38,.tmp 43]) rfl ?_);at_builtin;refine Kd.R_append k71 (w0:=w) w.heap.size rfl (.tmp 38) (.tmp 43) 68 71 (.agg #[(.string ⟨#[]⟩),(.string ⟨#[]⟩),(.int .i64 0)]) 40 rfl Try.underlying68 info71 rfl (by decide) (by omega) u6 x6_1 (⟨(rd_T71 l1 x8_1).f0,(rd_T71 l1 x8_1).f1,(rd_T71 l1 x8_1).f2⟩ : S71) [.string ((rd_T71 l1 x8_1).f0),.string ((rd_T71 l1 x8_1).f1),.int .i64 ((rd_T71 l1 x8_1).f2)] (fun _=>True) (fun _=>False) rfl rfl ?aP (fun _ hk=>hk.elim) ?aF ?aO ?aB ?aS ?aL ?_;(case aP=>exact k71_mkM _ _ _ (⟨(rd_T71 l1 x8_1).f0,(rd_T71 l1 x8_1).f1,(rd_T71 l1 x8_1).f2⟩ : S71));(case aB=>exact hx_);(case aF=>exact (fun _ _=>trivial));(case aO=>exact (by (with_reducible repeat (first|apply Kd.R_alloc|apply Kd.R_drewN|apply Kd.R_drew));exact HO_6.out));(case aS=>exact (qk hx_));(case aL=>have:=LMc45.out;omega);intro v190 w55 ho hb hg hat;rw [← Ny189.out] at ho;replace HO_5:=qo.mk (Kd.S_after (ok:=(fun _=>True)) (by (with_reducible repeat (first|apply Kd.S_alloc|apply Kd.S_drewN|apply Kd.S_drew));exact Kd.S_mono HO_5.out (fun _ hk=>⟨trivial,hk⟩)) hg hat);replace HB:=qo.mk (hb);have HO191:=qo.mk (ho);clear HO_6;clear ho hb hg hat;have p192 : 0 ≤ (x8_1 : Int):=dt_;have q192 : x8_1 < (l1.length : Int):=dt_;obtain ⟨ad192,e192,hx192_0,hx192_1,hx192_2⟩:=at_T71 HR1.out x8_1 p192 q192;obtain rfl : ad168 = ad192:=(by injection e192);replace hx192_0:=cb_ HB hx192_0;replace hx192_1:=cb_ HB hx192_1;replace hx192_2:=cb_ HB hx192_2;replace p192:=eq_true p192;replace q192:=eq_true q192)|(go_at_call 63;(with_reducible refine (spec_EndsPage.calls kj9 ((rd_T71 l1 x8_1).f0) false _ A47.out).mono ?_);rintro e w' ⟨rfl,⟨nd,rfl⟩⟩))
       go_roundg kj9
       case measure=>have:=HK1.out;have:=HJ9.out;omega
       case rel=>exact ⟨(x5_1),(y189),(wrap64 (x7_1 + t169)),(wrap64 (x8_1 + 1)),rs_,rs_,H',⟨by have:=HK1.out;have:=HJ9.out;omega⟩,⟨by (with_reducible repeat (first|apply Kd.S_alloc|apply Kd.S_drewN|apply Kd.S_drew));exact Kd.S_mono HO_5.out (fun _ hk=>hk.2)⟩,⟨by (with_reducible repeat (first|apply Kd.R_alloc|apply Kd.R_drewN|apply Kd.R_drew));exact HO191.out⟩,⟨hx_⟩⟩
      rw [if_neg c46] at H
      have c46b0 : (a0 == 1) = false:=beq_eq_false_iff_ne.mpr c46
      have c46b1 : (a0 != 1) = true:=bne_iff_ne.mpr c46
      have H':=qo.mk H
      clear H
      have p188 : 0 ≤ (x8_1 : Int):=dt_
      have q188 : x8_1 < (l1.length : Int):=dt_
      obtain ⟨ad188,e188,hx188_0,hx188_1,hx188_2⟩:=at_T71 HR1.out x8_1 p188 q188
      obtain rfl : ad168 = ad188:=(by injection e188)
      replace hx188_0:=cb_ HB hx188_0
      replace hx188_1:=cb_ HB hx188_1
      replace hx188_2:=cb_ HB hx188_2
      replace p188:=eq_true p188
      replace q188:=eq_true q188
      go_wp2_with (first|((with_reducible refine gate_builtin (b:=.append) (xs:=#[.tmp 38,.tmp 43]) rfl ?_);at_builtin;refine Kd.R_append k71 (w0:=w) w.heap.size rfl (.tmp 38) (.tmp 43) 68 71 (.agg #[(.string ⟨#[]⟩),(.string ⟨#[]⟩),(.int .i64 0)]) 40 rfl Try.underlying68 info71 rfl (by decide) (by omega) u6 x6_1 (⟨(rd_T71 l1 x8_1).f0,(rd_T71 l1 x8_1).f1,(rd_T71 l1 x8_1).f2⟩ : S71) [.string ((rd_T71 l1 x8_1).f0),.string ((rd_T71 l1 x8_1).f1),.int .i64 ((rd_T71 l1 x8_1).f2)] (fun _=>True) (fun _=>False) rfl rfl ?aP (fun _ hk=>hk.elim) ?aF ?aO ?aB ?aS ?aL ?_;(case aP=>exact k71_mkM _ _ _ (⟨(rd_T71 l1 x8_1).f0,(rd_T71 l1 x8_1).f1,(rd_T71 l1 x8_1).f2⟩ : S71));(case aB=>exact hx_);(case aF=>exact (fun _ _=>trivial));(case aO=>exact (by (with_reducible repeat (first|apply Kd.R_alloc|apply Kd.R_drewN|apply Kd.R_drew));exact HO_6.out));(case aS=>exact (qk hx_));(case aL=>have:=LMc45.out;omega);intro v190 w56 ho hb hg hat;rw [← Ny189.out] at ho;replace HO_5:=qo.mk (Kd.S_after (ok:=(fun _=>True)) (by (with_reducible repeat (first|apply Kd.S_alloc|apply Kd.S_drewN|apply Kd.S_drew));exact Kd.S_mono HO_5.out (fun _ hk=>⟨trivial,hk⟩)) hg hat);replace HB:=qo.mk (hb);have HO191:=qo.mk (ho);clear HO_6;clear ho hb hg hat))
      go_roundg kj9
      case measure=>have:=HK1.out;have:=HJ9.out;omega
      case rel=>exact ⟨(x5_1),(y189),(wrap64 (x7_1 + t169)),(wrap64 (x8_1 + 1)),rs_,rs_,H',⟨by have:=HK1.out;have:=HJ9.out;omega⟩,⟨by (with_reducible repeat (first|apply Kd.S_alloc|apply Kd.S_drewN|apply Kd.S_drew));exact Kd.S_mono HO_5.out (fun _ hk=>hk.2)⟩,⟨by (with_reducible repeat (first|apply Kd.R_alloc|apply Kd.R_drewN|apply Kd.R_drew));exact HO191.out⟩,⟨hx_⟩⟩
     rw [if_neg c45] at H
     exact absurd H (by simp)
    rw [if_neg c44] at H
    exact absurd H (by simp)
   rw [if_neg c43] at H
   exact absurd H (by simp)
  rw [if_neg c8] at H
  exact absurd H (by simp)
 rw [if_neg c7] at H
 have c7b0 : decide (x8_1 < (l1.length : Int)) = false:=decide_eq_false c7
 clear c7
 by_cases c57 : (x6_1.length : Int) > 0
 ·rw [if_pos c57] at H
  have c57b0 : decide (0 < (x6_1.length : Int)) = true:=decide_eq_true c57
  have c57b1 : decide (0 < x6_1.length) = true:=decide_eq_true (by omega)
  clear c57
  by_cases c58 : x5_1.length < 5864062014805
  ·rw [if_pos c58] at H
   have LMc58:=qo.mk c58
   clear c58
   obtain ⟨y165,hy165⟩ : ∃ y_ : List (List (S71)),y_ = (x5_1 ++ [x6_1]):=⟨_,rfl⟩
   replace H : (some y165) = some r:=by first|(rw [hy165];with_reducible exact H)|(have H2_:=(Option.bind_some _ _).symm.trans H;rw [hy165];with_reducible exact H2_)|(have H2_:=(Option.bind_some _ _).symm.trans H;with_reducible exact H2_)|with_reducible exact H|(rw [hy165];exact H)|exact H
   have Ny165:=qo.mk hy165
   clear hy165
   obtain rfl:=Option.some.inj H
   obtain ⟨Ao59,co59,eo59⟩:=Kd.R_slice HO_6.out
   subst eo59
   go_wp2_with (first|((with_reducible refine gate_builtin (b:=.append) (xs:=#[.tmp 66,.tmp 68]) rfl ?_);at_builtin;refine Kd.S_append (Kd.slice 71 k71) (w0:=w) w.heap.size rfl (.tmp 66) (.tmp 68) 72 68 (.slice none 0 0) 24 rfl Try.underlying72 info68 rfl (by decide) (by omega) u5 x5_1 x6_1 [.slice Ao59 x6_1.length co59] (fun _=>True) (fun k_=>some k_ = (.slice Ao59 x6_1.length co59 : Value).ownBlock) rfl rfl ?aP (fun k_ hk_=>((Kd.R_mono (ok':=fun k_=>((fun _=>True)) k_ ∧ some k_ ≠ (u5 : Value).ownBlock) (Kd.R_apart' (HO_6.out) (Kd.S_typed HO_5.out) (by decide)) (fun k_ hk=>⟨trivial,hk.2⟩))).1 k_ hk_.symm) ?aF ?aO ?aB ?aS ?aL ?_;(case aP=>exact Kd.M_row (Kd.R_mono (Kd.R_tight rfl (Kd.R_mono (ok':=fun k_=>((fun _=>True)) k_ ∧ some k_ ≠ (u5 : Value).ownBlock) (Kd.R_apart' (HO_6.out) (Kd.S_typed HO_5.out) (by decide)) (fun k_ hk=>⟨trivial,hk.2⟩))) (fun _ h_=>h_)));(case aB=>exact hx_);(case aF=>exact (fun _ _=>trivial));(case aO=>exact (by (with_reducible repeat (first|apply Kd.S_alloc|apply Kd.S_drewN|apply Kd.S_drew));exact Kd.S_mono HO_5.out (fun k_ hk=>⟨trivial,fun e_=>hk e_⟩)));(case aS=>exact (qk hx_));(case aL=>have:=LMc58.out;omega);intro v166 w60 ho hb hg hat;rw [← Ny165.out] at ho;replace HB:=qo.mk (hb);have HO167:=qo.mk (ho);clear HO_5 HO_6;clear ho hb hg hat))
   go_ret
   exact ⟨_,rt_,by (with_reducible repeat (first|apply Kd.S_alloc|apply Kd.S_drewN|apply Kd.S_drew));exact HO167.out,hx_⟩
  rw [if_neg c58] at H
  exact absurd H (by simp)
 rw [if_neg c57] at H
 have c57b0 : decide (0 < (x6_1.length : Int)) = false:=decide_eq_false c57
 have c57b1 : decide (0 < x6_1.length) = false:=decide_eq_false (by omega)
 clear c57
 obtain rfl:=Option.some.inj H
 obtain ⟨Ao61,co61,eo61⟩:=Kd.R_slice HO_6.out
 subst eo61
 go_wp2
 go_ret
 exact ⟨_,rt_,by (with_reducible repeat (first|apply Kd.S_alloc|apply Kd.S_drewN|apply Kd.S_drew));exact Kd.S_mono HO_5.out (fun _ hk=>trivial),hx_⟩

/-! ### spec_l04Sum: function 85 -/
def spec_l04Sum.l0 : Nat → Int → List (S71) → Int → Int → Option (Int)
 | 0,_,_,_,_=>none
 | k + 1,x0,x1,x5,x6=>if x6 < (x1.length : Int) then (if 0 ≤ x6 then ((spec_ItemSize.f k x0 ((rd_T71 x1 x6).f0) ((rd_T71 x1 x6).f1) ((rd_T71 x1 x6).f2)).bind fun t201=>(spec_l04Sum.l0 k x0 x1 (wrap64 (x5 + t201)) (wrap64 (x6 + 1)))) else (none)) else (some x5)
def spec_l04Sum.f (k : Nat) (a0 : Int) (l1 : List (S71)) : Option (Int):=spec_l04Sum.l0 k a0 l1 0 0
theorem spec_l04Sum.mono_l : ∀ k,(∀ y0 y1 y2 y3,LeO (spec_l04Sum.l0 k y0 y1 y2 y3) (spec_l04Sum.l0 (k + 1) y0 y1 y2 y3))
 | 0=>fun _ _ _ _ r h=>by simp [spec_l04Sum.l0] at h
 | k + 1=>by
  have ih0:=spec_l04Sum.mono_l k
  intro y0 y1 y2 y3
  unfold spec_l04Sum.l0
  repeat' first|(with_reducible first|exact ih0 _ _ _ _|exact spec_ItemSize.mono _ _ _ _ _|exact LeO.refl _|exact LeO.none _|refine LeO.ite ?_ ?_|refine LeO.bind ?_ (fun _=>?_))|exact ih0 _ _ _ _|exact spec_ItemSize.mono _ _ _ _ _|exact LeO.none _|refine LeO.ite ?_ ?_|refine LeO.bind ?_ (fun _=>?_)
theorem spec_l04Sum.mono : ∀ a0 a1 k,LeO (spec_l04Sum.f k a0 a1) (spec_l04Sum.f (k + 1) a0 a1):=by
 intro a0 a1 k
 have ih0:=spec_l04Sum.mono_l k
 unfold spec_l04Sum.f
 repeat' first|(with_reducible first|exact ih0 _ _ _ _|exact spec_ItemSize.mono _ _ _ _ _|exact LeO.refl _|exact LeO.none _|refine LeO.ite ?_ ?_|refine LeO.bind ?_ (fun _=>?_))|exact ih0 _ _ _ _|exact spec_ItemSize.mono _ _ _ _ _|exact LeO.none _|refine LeO.ite ?_ ?_|refine LeO.bind ?_ (fun _=>?_)
set_option maxHeartbeats 8000000 in
set_option maxRecDepth 100000 in
theorem spec_l04Sum.calls (k : Nat) (a0 : Int) (A1 : Option Addr) (c1 : Nat) (l1 : List (S71)) (r : Int) (w : World) (hr1 : Kd.C k71 w A1 l1.length l1) (hc1 : l1.length ≤ c1) (h : spec_l04Sum.f k a0 l1 = some r) :
  Calls Try.prog 85 #[.int .i64 a0,.slice A1 l1.length c1] w fun e w'=>e = .returned (.int .i64 r) ∧ Below w.heap.size w w':=by
 have hu71:=Try.underlying71
 have HR1:=qo.mk hr1
 have HC1:=qo.mk hc1
 clear hr1 hc1
 have HB:=qo.mk (Below.refl w.heap.size w)
 have H : (spec_l04Sum.l0 k a0 l1 0 0) = some r:=h
 clear h
 have H':=qo.mk H
 clear H
 go_enter Try.func85,Try.ntmps85
 go_wp2
 go_loopg [5,6] k (fun kq v5 v6 w'=>∃ (x5_1 : Int) (x6_1 : Int),v5 = .int .i64 x5_1 ∧ v6 = .int .i64 x6_1 ∧ qo (spec_l04Sum.l0 kq a0 l1 x5_1 x6_1 = some r) ∧ qo (kq ≤ k) ∧ qo (Below w.heap.size w w'))
 case atStart=>exact ⟨(0),(0),rs_,rs_,H',⟨Nat.le_refl _⟩,⟨hx_⟩⟩
 clear H'
 try clear c1
 try clear p2
 obtain ⟨x5_1,x6_1,rfl,rfl,HA,HK1,HB⟩:=hrel
 obtain _|k1:=gk
 ·exact absurd HA.out (by simp [spec_l04Sum.l0])
 have H:=HA.out
 clear HA
 simp only [spec_l04Sum.l0] at H
 by_cases c3 : x6_1 < (l1.length : Int)
 ·rw [if_pos c3] at H
  have c3b0 : decide (x6_1 < (l1.length : Int)) = true:=decide_eq_true c3
  clear c3
  by_cases c4 : 0 ≤ x6_1
  ·rw [if_pos c4] at H
   have c4b0 : decide (0 ≤ x6_1) = true:=decide_eq_true c4
   clear c4
   replace H:=Option.bind_eq_some_iff.mp H
   obtain ⟨t201,A50,H⟩:=H
   replace H : (spec_l04Sum.l0 k1 a0 l1 (wrap64 (x5_1 + t201)) (wrap64 (x6_1 + 1))) = some r:=H
   have A5:=qo.mk A50
   clear A50
   have H':=qo.mk H
   clear H
   have p200 : 0 ≤ (x6_1 : Int):=dt_
   have q200 : x6_1 < (l1.length : Int):=dt_
   obtain ⟨ad200,e200,hx200_0,hx200_1,hx200_2⟩:=at_T71 HR1.out x6_1 p200 q200
   cases e200
   replace hx200_0:=cb_ HB hx200_0
   replace hx200_1:=cb_ HB hx200_1
   replace hx200_2:=cb_ HB hx200_2
   replace p200:=eq_true p200
   replace q200:=eq_true q200
   go_wp2_with (first|((with_reducible refine gate_callee (f:=62) rfl ?_);refine goesL_ (some 19) rfl rfl Try.func62 (by kernel_rfl) rfl #[.int .i64 a0,.agg #[.string ((rd_T71 l1 x6_1).f0),.string ((rd_T71 l1 x6_1).f1),.int .i64 ((rd_T71 l1 x6_1).f2)]] rfl sm_ ?_;(with_reducible refine (spec_ItemSize.calls k1 a0 ((rd_T71 l1 x6_1).f0) ((rd_T71 l1 x6_1).f1) ((rd_T71 l1 x6_1).f2) t201 _ A5.out).mono ?_);rintro e w6 ⟨rfl,hb⟩;refine ⟨_,rfl,?_⟩;replace HB:=hs_ HB hb;(try clear hb);(try clear hb2);(try clear hk);(try clear hi)))
   go_roundg k1
   case measure=>have:=HK1.out;omega
   case rel=>exact ⟨(wrap64 (x5_1 + t201)),(wrap64 (x6_1 + 1)),rs_,rs_,H',⟨by have:=HK1.out;omega⟩,⟨hx_⟩⟩
  rw [if_neg c4] at H
  exact absurd H (by simp)
 rw [if_neg c3] at H
 have c3b0 : decide (x6_1 < (l1.length : Int)) = false:=decide_eq_false c3
 clear c3
 obtain rfl:=Option.some.inj H
 go_wp2
 go_ret
 exact ⟨rt_,hx_⟩

/-! ### spec_l02Four: function 102 -/
def spec_l02Four.f (a0 : Int) : Option (ByteArray):=some (strOfNums (([(a0 / 16777216) % 256,(a0 / 65536) % 256,(a0 / 256) % 256,(a0) % 256] : List Int)))
set_option maxHeartbeats 8000000 in
set_option maxRecDepth 100000 in
theorem spec_l02Four.calls (a0 : Int) (r : ByteArray) (w : World) (h : spec_l02Four.f a0 = some r) :
  Calls Try.prog 102 #[.int .u32 a0] w fun e w'=>e = .returned (.string r) ∧ Below w.heap.size w w':=by
 have HB:=qo.mk (Below.refl w.heap.size w)
 have H : (some (strOfNums (([(a0 / 16777216) % 256,(a0 / 65536) % 256,(a0 / 256) % 256,(a0) % 256] : List Int)))) = some r:=h
 clear h
 obtain ⟨y202,hy202⟩ : ∃ y_ : List Int,y_ = (([(a0 / 16777216) % 256,(a0 / 65536) % 256,(a0 / 256) % 256,(a0) % 256] : List Int)):=⟨_,rfl⟩
 replace H : (some (strOfNums y202)) = some r:=by first|(rw [hy202];with_reducible exact H)|(have H2_:=(Option.bind_some _ _).symm.trans H;rw [hy202];with_reducible exact H2_)|(have H2_:=(Option.bind_some _ _).symm.trans H;with_reducible exact H2_)|with_reducible exact H|(rw [hy202];exact H)|exact H
 have Ny202:=qo.mk hy202
 clear hy202
 obtain rfl:=Option.some.inj H
 go_enter Try.func102,Try.ntmps102
 go_wp2_with (first|((with_reducible refine gate_dst (N:=14) rfl ?_);refine Kd.R_lit (Kd.int .u8) _ 5 ?hg (N:=14) ?hd (xs:=([(a0 / 16777216) % 256,(a0 / 65536) % 256,(a0 / 256) % 256,(a0) % 256] : List Int)) (inner:=[.int .u8 ((a0 / 16777216) % 256),.int .u8 ((a0 / 65536) % 256),.int .u8 ((a0 / 256) % 256),.int .u8 ((a0) % 256)]) (ok:=fun _=>True) (okp:=fun _=>True) ?hr ?hp (fun _ hk=>hk) trivial (Below.refl _ _) (Nat.le_refl _) (by simp) ?_;(case hd=>rfl);(case hg=>rfl);(case hr=>first|(go_simp;done)|(go_simp;rfl));(case hp=>exact (Reps.one (show Kd.M (Kd.int .u8) _ _ _ ((a0 / 16777216) % 256) [.int .u8 ((a0 / 16777216) % 256)] from rfl) (Reps.one (show Kd.M (Kd.int .u8) _ _ _ ((a0 / 65536) % 256) [.int .u8 ((a0 / 65536) % 256)] from rfl) (Reps.one (show Kd.M (Kd.int .u8) _ _ _ ((a0 / 256) % 256) [.int .u8 ((a0 / 256) % 256)] from rfl) (Reps.one (show Kd.M (Kd.int .u8) _ _ _ ((a0) % 256) [.int .u8 ((a0) % 256)] from rfl) (Reps.none _ _))))));intro v203 w2 ho3 hb hg_ hnew_;clear hg_ hnew_;(first|rw [← Ny202.out] at ho3|(simp only [Int.reduceToNat] at ho3;rw [← Ny202.out] at ho3));have HO204:=qo.mk (Kd.R_lower ho3 (qk hx_));replace HB:=hs_ HB hb;clear hb ho3;have hcv4:=own_string (P:=Try.prog) Try.underlying46 Try.underlying5 Try.underlying9 (Kd.own_of_R HO204.out)))
 go_ret
 exact ⟨rt_,hx_⟩

/-! ### spec_Sealed: function 87 -/
def spec_Sealed.f (k : Nat) (a0 : ByteArray) : Option (ByteArray × Bool):=if (a0.size : Int) > 8000 then (some ((⟨#[]⟩ : ByteArray),false)) else ((spec_SumOf.f k a0).bind fun t205=>((spec_l02Four.f t205).bind fun t206=>(if a0.size + t206.size ≤ 9223372036854775807 then (some (a0 ++ t206,true)) else (none))))
theorem spec_Sealed.mono : ∀ a0 k,LeO (spec_Sealed.f k a0) (spec_Sealed.f (k + 1) a0):=by
 intro a0 k
 unfold spec_Sealed.f
 repeat' first|(with_reducible first|exact spec_SumOf.mono _ _|exact LeO.refl _|exact LeO.none _|refine LeO.ite ?_ ?_|refine LeO.bind ?_ (fun _=>?_))|exact spec_SumOf.mono _ _|exact LeO.none _|refine LeO.ite ?_ ?_|refine LeO.bind ?_ (fun _=>?_)
set_option maxHeartbeats 8000000 in
set_option maxRecDepth 100000 in
theorem spec_Sealed.calls (k : Nat) (a0 : ByteArray) (r1 : ByteArray) (r2 : Bool) (w : World) (h : spec_Sealed.f k a0 = some (r1,r2)) :
  Calls Try.prog 87 #[.string a0] w fun e w'=>e = .returned (.tuple #[.string r1,.bool r2]) ∧ Below w.heap.size w w':=by
 have HB:=qo.mk (Below.refl w.heap.size w)
 have H : (if (a0.size : Int) > 8000 then (some ((⟨#[]⟩ : ByteArray),false)) else ((spec_SumOf.f k a0).bind fun t205=>((spec_l02Four.f t205).bind fun t206=>(if a0.size + t206.size ≤ 9223372036854775807 then (some (a0 ++ t206,true)) else (none))))) = some (r1,r2):=h
 clear h
 by_cases c2 : (a0.size : Int) > 8000
 ·rw [if_pos c2] at H
  have c2b0 : decide (8000 < (a0.size : Int)) = true:=decide_eq_true c2
  have c2b1 : decide (8000 < a0.size) = true:=decide_eq_true (by omega)
  clear c2
  simp only [Option.some.injEq,Prod.mk.injEq] at H
  obtain ⟨rfl,rfl⟩:=H
  go_enter Try.func87,Try.ntmps87
  go_wp2
  go_ret2
  exact ⟨rt_,hx_⟩
 rw [if_neg c2] at H
 have c2b0 : decide (8000 < (a0.size : Int)) = false:=decide_eq_false c2
 have c2b1 : decide (8000 < a0.size) = false:=decide_eq_false (by omega)
 clear c2
 replace H:=Option.bind_eq_some_iff.mp H
 obtain ⟨t205,A30,H⟩:=H
 replace H : ((spec_l02Four.f t205).bind fun t206=>(if a0.size + t206.size ≤ 9223372036854775807 then (some (a0 ++ t206,true)) else (none))) = some (r1,r2):=H
 have A3:=qo.mk A30
 clear A30
 replace H:=Option.bind_eq_some_iff.mp H
 obtain ⟨t206,A40,H⟩:=H
 replace H : (if a0.size + t206.size ≤ 9223372036854775807 then (some (a0 ++ t206,true)) else (none)) = some (r1,r2):=H
 have A4:=qo.mk A40
 clear A40
 by_cases c5 : a0.size + t206.size ≤ 9223372036854775807
 ·rw [if_pos c5] at H
  have c5b0:=eq_true c5
  have c5b1 : decide (a0.size + t206.size ≤ 9223372036854775807) = true:=decide_eq_true c5
  try have c5b2 : (9223372036854775807 < a0.size + t206.size) = False:=eq_false (Nat.not_lt.2 c5)
  simp only [Option.some.injEq,Prod.mk.injEq] at H
  obtain ⟨rfl,rfl⟩:=H
  go_enter Try.func87,Try.ntmps87
  go_wp2_with (first|((with_reducible refine gate_callee (f:=84) rfl ?_);refine goesL_ (some 9) rfl rfl Try.func84 (by kernel_rfl) rfl #[.string a0] rfl sm_ ?_;(with_reducible refine (spec_SumOf.calls k a0 t205 _ A3.out).mono ?_);rintro e w' ⟨rfl,⟨nd,rfl⟩⟩;refine ⟨_,rfl,?_⟩)|((with_reducible refine gate_callee (f:=102) rfl ?_);refine goesL_ (some 10) rfl rfl Try.func102 (by kernel_rfl) rfl #[.int .u32 t205] rfl sm_ ?_;(with_reducible refine (spec_l02Four.calls t205 t206 _ A4.out).mono ?_);rintro e w6 ⟨rfl,hb⟩;refine ⟨_,rfl,?_⟩;replace HB:=hs_ HB hb;(try clear hb);(try clear hb2);(try clear hk);(try clear hi)))
  go_ret2
  exact ⟨rt_,hx_⟩
 rw [if_neg c5] at H
 exact absurd H (by simp)

end Go.Proofs.Ytcnoccefdejphaa.QFnExactPlaceTree
