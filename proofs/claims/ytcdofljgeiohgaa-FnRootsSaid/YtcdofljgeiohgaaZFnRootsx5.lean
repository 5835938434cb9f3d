/- Lean functions for the Go functions that the law FnRoots reaches, and that each Go function comes to just its Lean function's answer; by a program of this session. -/
import Derived.Test.YtcdofljgeiohgaaZFnRootsx0
import Derived.Test.YtcdofljgeiohgaaZFnRootsx2
namespace Go.Proofs.Ytcdofljgeiohgaa.QFnRoots
open Go.RowKit Go.Proofs.YtcdofljgeiohgaaW.PrintWords Go.Proofs.YtcdofljgeiohgaaW.PrintLast Go.Proofs.YtcdofljgeiohgaaW.PrintMore
attribute [local go_sem] max2_int min2_int max_two min_two max_three min_three max_four min_four   -- for this text's walks alone
set_option linter.unusedVariables false
set_option linter.unusedSimpArgs false

/-! ### spec_DrawPlaces: function 11 -/
def spec_DrawPlaces.l0 : Nat → List Int → Int → List Int → Int → Int → Option (List Int)
  | 0,_,_,_,_,_=>none
  | k + 1,x4,x5,x197000,x197001,x197002=>if x5 < 12 then ((spec_l01Below.f x197000 x197001 x197002 10000).bind fun bt203=>(if x4.length < 17592186044416 then (spec_DrawPlaces.l0 k (x4 ++ [bt203.1]) (wrap64 (x5 + 1)) x197000 bt203.2.1 bt203.2.2) else (none))) else (some x4)
def spec_DrawPlaces.f (k : Nat) (l0 : List Int) : Option (List Int):=(spec_l01New.f k l0).bind fun bt193=>((spec_l01Byte.f bt193.1 bt193.2.1 bt193.2.2).bind fun bt197=>(spec_DrawPlaces.l0 k (([] : List Int)) 0 bt193.1 bt197.2.1 bt197.2.2))
theorem spec_DrawPlaces.mono_l : ∀ k,(∀ y0 y1 y2 y3 y4,LeO (spec_DrawPlaces.l0 k y0 y1 y2 y3 y4) (spec_DrawPlaces.l0 (k + 1) y0 y1 y2 y3 y4))
  | 0=>fun _ _ _ _ _ r h=>by simp [spec_DrawPlaces.l0] at h
  | k + 1=>by
    have ih0:=spec_DrawPlaces.mono_l k
    · intro y0 y1 y2 y3 y4
      unfold spec_DrawPlaces.l0
      repeat' first
      | (with_reducible exact ih0 _ _ _ _ _)
      | (with_reducible exact spec_l01New.mono _ _)
      | (with_reducible exact LeO.refl _)
      | (with_reducible exact LeO.none _)
      | (with_reducible refine LeO.ite ?_ ?_)
      | (with_reducible refine LeO.bind ?_ (fun _=>?_))
      | exact ih0 _ _ _ _ _
      | exact spec_l01New.mono _ _
      | exact LeO.none _
      | refine LeO.ite ?_ ?_
      | refine LeO.bind ?_ (fun _=>?_)
theorem spec_DrawPlaces.mono : ∀ a0 k,LeO (spec_DrawPlaces.f k a0) (spec_DrawPlaces.f (k + 1) a0):=by
  intro a0 k
  have ih0:=spec_DrawPlaces.mono_l k
  unfold spec_DrawPlaces.f
  repeat' first
      | (with_reducible exact ih0 _ _ _ _ _)
      | (with_reducible exact spec_l01New.mono _ _)
      | (with_reducible exact LeO.refl _)
      | (with_reducible exact LeO.none _)
      | (with_reducible refine LeO.ite ?_ ?_)
      | (with_reducible refine LeO.bind ?_ (fun _=>?_))
      | exact ih0 _ _ _ _ _
      | exact spec_l01New.mono _ _
      | exact LeO.none _
      | refine LeO.ite ?_ ?_
      | refine LeO.bind ?_ (fun _=>?_)
set_option maxHeartbeats 8000000 in
set_option maxRecDepth 100000 in
theorem spec_DrawPlaces.calls (k : Nat) (A0 : Option Addr) (c0 : Nat) (l0 : List Int) (r : List Int) (w : World) (hr0 : Kd.C (Kd.int .u8) w A0 l0.length l0) (hc0 : l0.length ≤ c0) (h : spec_DrawPlaces.f k l0 = some r) :
    Calls Try.prog 11 #[.slice A0 l0.length c0] w fun e w'=>∃ v0_ : Value,e = .returned (v0_) ∧ Kd.R (Kd.int .i64) 3 w' w.heap.size (fun _=>True) v0_ r ∧ Below w.heap.size w w':=by
  have HR0:=qn.mk hr0
  have HC0:=qn.mk hc0
  clear hr0 hc0
  have HB:=qn.mk (Below.refl w.heap.size w)
  have H : ((spec_l01New.f k l0).bind fun bt193=>((spec_l01Byte.f bt193.1 bt193.2.1 bt193.2.2).bind fun bt197=>(spec_DrawPlaces.l0 k (([] : List Int)) 0 bt193.1 bt197.2.1 bt197.2.2))) = some r:=h
  clear h
  replace H:=Option.bind_eq_some_iff.mp H
  obtain ⟨⟨t193,t194,t195⟩,A20,H⟩:=H
  replace H : ((spec_l01Byte.f t193 t194 t195).bind fun bt197=>(spec_DrawPlaces.l0 k (([] : List Int)) 0 t193 bt197.2.1 bt197.2.2)) = some r:=H
  have A2:=qn.mk A20
  clear A20
  replace H:=Option.bind_eq_some_iff.mp H
  obtain ⟨⟨t197,t198,t199⟩,A30,H⟩:=H
  replace H : (spec_DrawPlaces.l0 k (([] : List Int)) 0 t193 t198 t199) = some r:=H
  have A3:=qn.mk A30
  clear A30
  obtain ⟨y200,hy200⟩ : ∃ y_ : List Int,y_ = (([] : List Int)):=⟨_,rfl⟩
  replace H : (spec_DrawPlaces.l0 k y200 0 t193 t198 t199) = some r:=by first|(rw [hy200];with_reducible exact H)|(have H2_:=(Option.bind_some _ _).symm.trans H;rw [hy200];with_reducible exact H2_)|(have H2_:=(Option.bind_some _ _).symm.trans H;with_reducible exact H2_)|with_reducible exact H|(rw [hy200];exact H)|exact H
  have Ny200:=qn.mk hy200
  clear hy200
  have H':=qn.mk H
  clear H
  go_enter Try.func11,Try.ntmps11
  go_wp2_with (first|((with_reducible refine gate_callee (f:=27) rfl ?_);refine goesL_ (some 7) rfl rfl Try.func27 (by kernel_rfl) rfl #[.slice A0 l0.length c0] rfl (by (try simp only [List.map_toArray,List.map_cons,List.map_nil]);first|done|rfl|(simp only [List.length_drop,List.length_take];rfl)) ?_;(with_reducible refine (spec_l01New.calls k _ _ l0 t193 t194 t195 w _ ?side1 ?side2 ?side3 A2.out).mono ?_);(case side1=>repeat (first|(with_reducible first|exact HB.out|apply qf|apply qa|apply qd)|exact HB.out));(case side2=>exact HR0.out);(case side3=>exact HC0.out);rintro e w4 ⟨g196,rfl,hi,hb,hb2⟩;refine ⟨_,rfl,?_⟩;have n0_:=qn.mk (hb);have n1_:=qn.mk (hi);clear HB;have HB:=n0_;have HI196:=n1_;clear n0_ n1_;(try clear hb);(try clear hb2);(try clear hk);(try clear hi))|((with_reducible refine gate_callee (f:=34) rfl ?_);refine goesL_ (some 9) rfl rfl Try.func34 (by kernel_rfl) rfl #[.pointer (some ⟨g196,0,none⟩)] rfl (by (try simp only [List.map_toArray,List.map_cons,List.map_nil]);first|done|rfl|(simp only [List.length_drop,List.length_take];rfl)) ?_;(with_reducible refine (spec_l01Byte.calls g196 t193 t194 t195 t197 t198 t199 w _ ?side1 ?side2 A3.out).mono ?_);(case side1=>repeat (first|(with_reducible first|exact HI196.out|apply IsS113.alloc|apply IsS113.drewN|apply IsS113.drew|apply IsS113.set_1|apply IsS113.set_2)|exact HI196.out));(case side2=>repeat (first|(with_reducible first|exact HB.out|apply qf|apply qa|apply qd|refine qg ?_ (IsS113.ge HI196.out))|exact HB.out));rintro e w5 ⟨rfl,hi,hb,hk⟩;refine ⟨_,rfl,?_⟩;have n0_:=qn.mk (hb);have n1_:=qn.mk (hi);clear HB;clear HI196;have HB:=n0_;have HI196:=n1_;clear n0_ n1_;(try clear hb);(try clear hb2);(try clear hk);(try clear hi))|((with_reducible refine gate_dst (N:=10) rfl ?_);refine Kd.R_lit (Kd.int .i64) _ 3 ?hg (N:=10) ?hd (xs:=([] : List Int)) (inner:=[]) (ok:=fun _=>True) (okp:=fun _=>True) ?hr ?hp (fun _ hk=>hk) trivial (Below.refl _ _) (Nat.le_refl _) (by simp) ?_;(case hd=>rfl);(case hg=>rfl);(case hr=>first|(go_simp;done)|(go_simp;rfl));(case hp=>exact (Reps.none _ _));intro v201 w6 ho7 hb hg_ hnew_;clear hg_ hnew_;(first|rw [← Ny200.out] at ho7|(simp only [Int.reduceToNat] at ho7;rw [← Ny200.out] at ho7));have n0_:=qn.mk (Kd.R_lower ho7 (qj (by repeat (first|(with_reducible first|exact HB.out|apply qf|apply qa|apply qd|refine qg ?_ (IsS113.ge HI196.out))|exact HB.out))));have n1_:=qn.mk (IsS113.below (by repeat (first|(with_reducible first|exact HI196.out|apply IsS113.alloc|apply IsS113.drewN|apply IsS113.drew|apply IsS113.set_1|apply IsS113.set_2)|exact HI196.out)) hb);have n2_:=qn.mk (qm (by repeat (first|(with_reducible first|exact HB.out|apply qf|apply qa|apply qd|refine qg ?_ (IsS113.ge HI196.out))|exact HB.out)) hb);clear HI196;clear HB;have HO202:=n0_;have HI196:=n1_;have HB:=n2_;clear n0_ n1_ n2_;clear hb ho7))
  go_loopg [4,5] k (fun kq v4 v5 w'=>∃ (x4_1 : List Int) (x5_1 : Int) (x197001_1 : Int) (x197002_1 : Int),v5 = .int .i64 x5_1 ∧ qn (spec_DrawPlaces.l0 kq x4_1 x5_1 t193 x197001_1 x197002_1 = some r) ∧ qn (kq ≤ k) ∧ qn (Kd.R (Kd.int .i64) 3 w' w.heap.size (fun _=>True) v4 x4_1) ∧ qn (IsS113 w w' g196 t193 x197001_1 x197002_1) ∧ qn (Below w.heap.size w w'))
  case atStart=>exact ⟨(y200),(0),(t198),(t199),(by first|rfl|(simp;done)|(simp [*];done)),H',⟨Nat.le_refl _⟩,⟨by (with_reducible repeat (first|apply Kd.R_alloc|apply Kd.R_drewN|apply Kd.R_drew));exact HO202.out⟩,⟨by repeat (first|(with_reducible first|exact HI196.out|apply IsS113.alloc|apply IsS113.drewN|apply IsS113.drew|apply IsS113.set_1|apply IsS113.set_2)|exact HI196.out)⟩,⟨by repeat (first|(with_reducible first|exact HB.out|apply qf|apply qa|apply qd|refine qg ?_ (IsS113.ge HI196.out))|exact HB.out)⟩⟩
  case round =>
    clear H'
    try clear c1
    try clear c2
    try clear p2
    try clear c3
    obtain ⟨x4_1,x5_1,x197001_1,x197002_1,rfl,HA,HK1,HO_4,HI196,HB⟩:=hrel
    cases gk with
    | zero=>exact absurd HA.out (by simp [spec_DrawPlaces.l0])
    | succ k1 =>
      have H:=HA.out
      clear HA
      simp only [spec_DrawPlaces.l0] at H
      by_cases c8 : x5_1 < 12
      · rw [if_pos c8] at H
        have c8b0 : decide (x5_1 < 12) = true:=decide_eq_true c8
        clear c8
        replace H:=Option.bind_eq_some_iff.mp H
        obtain ⟨⟨t203,t204,t205⟩,A90,H⟩:=H
        replace H : (if x4_1.length < 17592186044416 then (spec_DrawPlaces.l0 k1 (x4_1 ++ [t203]) (wrap64 (x5_1 + 1)) t193 t204 t205) else (none)) = some r:=H
        have A9:=qn.mk A90
        clear A90
        by_cases c10 : x4_1.length < 17592186044416
        · rw [if_pos c10] at H
          have LMc10:=qn.mk c10
          clear c10
          obtain ⟨y206,hy206⟩ : ∃ y_ : List Int,y_ = (x4_1 ++ [t203]):=⟨_,rfl⟩
          replace H : (spec_DrawPlaces.l0 k1 y206 (wrap64 (x5_1 + 1)) t193 t204 t205) = some r:=by first|(rw [hy206];with_reducible exact H)|(have H2_:=(Option.bind_some _ _).symm.trans H;rw [hy206];with_reducible exact H2_)|(have H2_:=(Option.bind_some _ _).symm.trans H;with_reducible exact H2_)|with_reducible exact H|(rw [hy206];exact H)|exact H
          have Ny206:=qn.mk hy206
          clear hy206
          have H':=qn.mk H
          clear H
          go_wp2_with (first|((with_reducible refine gate_callee (f:=35) rfl ?_);refine goesL_ (some 17) rfl rfl Try.func35 (by kernel_rfl) rfl #[.pointer (some ⟨g196,0,none⟩),.int .i64 10000] rfl (by (try simp only [List.map_toArray,List.map_cons,List.map_nil]);first|done|rfl|(simp only [List.length_drop,List.length_take];rfl)) ?_;(with_reducible refine (spec_l01Below.calls g196 t193 x197001_1 x197002_1 10000 t203 t204 t205 w _ ?side1 ?side2 A9.out).mono ?_);(case side1=>repeat (first|(with_reducible first|exact HI196.out|apply IsS113.alloc|apply IsS113.drewN|apply IsS113.drew|apply IsS113.set_1|apply IsS113.set_2)|exact HI196.out));(case side2=>repeat (first|(with_reducible first|exact HB.out|apply qf|apply qa|apply qd|refine qg ?_ (IsS113.ge HI196.out))|exact HB.out));rintro e w11 ⟨rfl,hi,hb,hk⟩;refine ⟨_,rfl,?_⟩;have n0_:=qn.mk (Kd.R_mono (Kd.R_keep (IsS113.apart (show IsS113 w _ g196 t193 x197001_1 x197002_1 from by repeat (first|(with_reducible first|exact HI196.out|apply IsS113.alloc|apply IsS113.drewN|apply IsS113.drew|apply IsS113.set_1|apply IsS113.set_2)|exact HI196.out)) (by (with_reducible repeat (first|apply Kd.R_alloc|apply Kd.R_drewN|apply Kd.R_drew));exact HO_4.out) (by decide)) hk (fun _ h=>h.2)) (fun _ h=>h.1));have n1_:=qn.mk (hb);have n2_:=qn.mk (hi);clear HO_4;clear HB;clear HI196;have HO_4:=n0_;have HB:=n1_;have HI196:=n2_;clear n0_ n1_ n2_;(try clear hb);(try clear hb2);(try clear hk);(try clear hi))|((with_reducible refine gate_builtin (b:=.append) (xs:=#[.tmp 15,.tmp 18]) rfl ?_);at_builtin;refine Kd.R_append (Kd.int .i64) (w0:=w) w.heap.size rfl (.tmp 15) (.tmp 18) 31 3 (.int .i64 0) 8 rfl Try.underlying31 info3 rfl (by decide) (by omega) u4 x4_1 t203 [.int .i64 t203] (fun _=>True) (fun _=>False) rfl rfl ?aP (fun _ hk=>hk.elim) ?aF ?aO ?aB ?aS ?aL ?_;(case aP=>exact rfl);(case aB=>exact (by repeat (first|(with_reducible first|exact HB.out|apply qf|apply qa|apply qd|refine qg ?_ (IsS113.ge HI196.out))|exact HB.out)));(case aF=>exact (fun _ _=>trivial));(case aO=>exact (by (with_reducible repeat (first|apply Kd.R_alloc|apply Kd.R_drewN|apply Kd.R_drew));exact HO_4.out));(case aS=>exact (qj (by repeat (first|(with_reducible first|exact HB.out|apply qf|apply qa|apply qd|refine qg ?_ (IsS113.ge HI196.out))|exact HB.out))));(case aL=>have:=LMc10.out;omega);intro v207 w12 ho hb hg hat;rw [← Ny206.out] at ho;have n0_:=qn.mk (IsS113.grown (by repeat (first|(with_reducible first|exact HI196.out|apply IsS113.alloc|apply IsS113.drewN|apply IsS113.drew|apply IsS113.set_1|apply IsS113.set_2)|exact HI196.out)) hg (IsS113.own_ne HI196.out HO_4.out (by decide)));have n1_:=qn.mk (hb);have n2_:=qn.mk (ho);clear HI196;clear HB;clear HO_4;have HI196:=n0_;have HB:=n1_;have HO208:=n2_;clear n0_ n1_ n2_;clear ho hb hg hat))
          go_roundg k1
          case measure=>have:=HK1.out;omega
          case rel=>exact ⟨(y206),(wrap64 (x5_1 + 1)),(t204),(t205),(by first|rfl|(simp;done)|(simp [*];done)),H',⟨by have:=HK1.out;omega⟩,⟨by (with_reducible repeat (first|apply Kd.R_alloc|apply Kd.R_drewN|apply Kd.R_drew));exact HO208.out⟩,⟨by repeat (first|(with_reducible first|exact HI196.out|apply IsS113.alloc|apply IsS113.drewN|apply IsS113.drew|apply IsS113.set_1|apply IsS113.set_2)|exact HI196.out)⟩,⟨by repeat (first|(with_reducible first|exact HB.out|apply qf|apply qa|apply qd|refine qg ?_ (IsS113.ge HI196.out))|exact HB.out)⟩⟩
        · rw [if_neg c10] at H
          exact absurd H (by simp)
      · rw [if_neg c8] at H
        have c8b0 : decide (x5_1 < 12) = false:=decide_eq_false c8
        clear c8
        obtain rfl:=Option.some.inj H
        go_wp2
        go_ret
        exact ⟨_,by first|rfl|(simp [errW_none,errW_some] <;> rfl)|(simp [*,errW_none,errW_some] <;> rfl),by (with_reducible repeat (first|apply Kd.R_alloc|apply Kd.R_drewN|apply Kd.R_drew));exact HO_4.out,by repeat (first|(with_reducible first|exact HB.out|apply qf|apply qa|apply qd|refine qg ?_ (IsS113.ge HI196.out))|exact HB.out)⟩

/-! ### impl_DeviceOk: function 36 -/
mutual
def impl_DeviceOk.j0 : Nat → Bool → List ByteArray → List (S118) → Option (Bool)
  | 0,_,_,_=>none
  | k + 1,x17,x210000,x210001=>if x17 = true then (some false) else (impl_DeviceOk.l0 k x210000 (x210000.length : Int) 0 x210000 x210001)
def impl_DeviceOk.l0 : Nat → List ByteArray → Int → Int → List ByteArray → List (S118) → Option (Bool)
  | 0,_,_,_,_,_=>none
  | k + 1,x19,x20,x21,x210000,x210001=>if x21 < x20 then (if 0 ≤ x21 then (if x21 < (x19.length : Int) then (if ((rdOf ByteArray.empty x19 x21).size : Int) > 64 then (some false) else (impl_DeviceOk.l0 k x19 x20 (wrap64 (x21 + 1)) x210000 x210001)) else (none)) else (none)) else (impl_DeviceOk.l1 k x210001 (x210001.length : Int) 0 x210000 x210001)
def impl_DeviceOk.l1 : Nat → List (S118) → Int → Int → List ByteArray → List (S118) → Option (Bool)
  | 0,_,_,_,_,_=>none
  | k + 1,x30,x31,x32,x210000,x210001=>if x32 < x31 then (if 0 ≤ x32 then (if x32 < (x30.length : Int) then ((impl_in.f ((rd_T118 x30 x32).f0) 0 (wrap64 ((x210000.length : Int) - 1))).bind fun t214=>(if t214 = true then (if (((rd_T118 x30 x32).f1).size : Int) > 64 then (some false) else (impl_DeviceOk.l1 k x30 x31 (wrap64 (x32 + 1)) x210000 x210001)) else (some false))) else (none)) else (none)) else (some true)
end
def impl_DeviceOk.f (k : Nat) (l0_0 : List ByteArray) (l0_1 : List (S118)) : Option (Bool):=(impl_in.f (l0_0.length : Int) 1 400).bind fun t210=>(if t210 = true then (impl_DeviceOk.j0 k (decide ((l0_1.length : Int) > 400)) l0_0 l0_1) else (impl_DeviceOk.j0 k true l0_0 l0_1))
theorem impl_DeviceOk.mono_l : ∀ k,(∀ y0 y1 y2,LeO (impl_DeviceOk.j0 k y0 y1 y2) (impl_DeviceOk.j0 (k + 1) y0 y1 y2)) ∧ (∀ y0 y1 y2 y3 y4,LeO (impl_DeviceOk.l0 k y0 y1 y2 y3 y4) (impl_DeviceOk.l0 (k + 1) y0 y1 y2 y3 y4)) ∧ (∀ y0 y1 y2 y3 y4,LeO (impl_DeviceOk.l1 k y0 y1 y2 y3 y4) (impl_DeviceOk.l1 (k + 1) y0 y1 y2 y3 y4))
  | 0=>⟨fun _ _ _ r h=>by simp [impl_DeviceOk.j0] at h,fun _ _ _ _ _ r h=>by simp [impl_DeviceOk.l0] at h,fun _ _ _ _ _ r h=>by simp [impl_DeviceOk.l1] at h⟩
  | k + 1=>by
    obtain ⟨ih0,ih1,ih2⟩:=impl_DeviceOk.mono_l k
    refine ⟨?_,?_,?_⟩
    · intro y0 y1 y2
      unfold impl_DeviceOk.j0
      repeat' first
      | (with_reducible exact ih0 _ _ _)
      | (with_reducible exact ih1 _ _ _ _ _)
      | (with_reducible exact ih2 _ _ _ _ _)
      | (with_reducible exact LeO.refl _)
      | (with_reducible exact LeO.none _)
      | (with_reducible refine LeO.ite ?_ ?_)
      | (with_reducible refine LeO.bind ?_ (fun _=>?_))
      | exact ih0 _ _ _
      | exact ih1 _ _ _ _ _
      | exact ih2 _ _ _ _ _
      | exact LeO.none _
      | refine LeO.ite ?_ ?_
      | refine LeO.bind ?_ (fun _=>?_)
    · intro y0 y1 y2 y3 y4
      unfold impl_DeviceOk.l0
      repeat' first
      | (with_reducible exact ih0 _ _ _)
      | (with_reducible exact ih1 _ _ _ _ _)
      | (with_reducible exact ih2 _ _ _ _ _)
      | (with_reducible exact LeO.refl _)
      | (with_reducible exact LeO.none _)
      | (with_reducible refine LeO.ite ?_ ?_)
      | (with_reducible refine LeO.bind ?_ (fun _=>?_))
      | exact ih0 _ _ _
      | exact ih1 _ _ _ _ _
      | exact ih2 _ _ _ _ _
      | exact LeO.none _
      | refine LeO.ite ?_ ?_
      | refine LeO.bind ?_ (fun _=>?_)
    · intro y0 y1 y2 y3 y4
      unfold impl_DeviceOk.l1
      repeat' first
      | (with_reducible exact ih0 _ _ _)
      | (with_reducible exact ih1 _ _ _ _ _)
      | (with_reducible exact ih2 _ _ _ _ _)
      | (with_reducible exact LeO.refl _)
      | (with_reducible exact LeO.none _)
      | (with_reducible refine LeO.ite ?_ ?_)
      | (with_reducible refine LeO.bind ?_ (fun _=>?_))
      | exact ih0 _ _ _
      | exact ih1 _ _ _ _ _
      | exact ih2 _ _ _ _ _
      | exact LeO.none _
      | refine LeO.ite ?_ ?_
      | refine LeO.bind ?_ (fun _=>?_)
theorem impl_DeviceOk.mono : ∀ a0 a1 k,LeO (impl_DeviceOk.f k a0 a1) (impl_DeviceOk.f (k + 1) a0 a1):=by
  intro a0 a1 k
  obtain ⟨ih0,ih1,ih2⟩:=impl_DeviceOk.mono_l k
  unfold impl_DeviceOk.f
  repeat' first
      | (with_reducible exact ih0 _ _ _)
      | (with_reducible exact ih1 _ _ _ _ _)
      | (with_reducible exact ih2 _ _ _ _ _)
      | (with_reducible exact LeO.refl _)
      | (with_reducible exact LeO.none _)
      | (with_reducible refine LeO.ite ?_ ?_)
      | (with_reducible refine LeO.bind ?_ (fun _=>?_))
      | exact ih0 _ _ _
      | exact ih1 _ _ _ _ _
      | exact ih2 _ _ _ _ _
      | exact LeO.none _
      | refine LeO.ite ?_ ?_
      | refine LeO.bind ?_ (fun _=>?_)
set_option maxHeartbeats 8000000 in
set_option maxRecDepth 100000 in
theorem impl_DeviceOk.calls (k : Nat) (A0_0 : Option Addr) (c0_0 : Nat) (l0_0 : List ByteArray) (A0_1 : Option Addr) (c0_1 : Nat) (l0_1 : List (S118)) (r : Bool) (w : World) (hr0_0 : Kd.C Kd.string w A0_0 l0_0.length l0_0) (hc0_0 : l0_0.length ≤ c0_0) (hr0_1 : Kd.C k118 w A0_1 l0_1.length l0_1) (hc0_1 : l0_1.length ≤ c0_1) (h : impl_DeviceOk.f k l0_0 l0_1 = some r) :
    Calls Try.prog 36 #[.agg #[.slice A0_0 l0_0.length c0_0,.slice A0_1 l0_1.length c0_1]] w fun e w'=>e = .returned (.bool r) ∧ Below w.heap.size w w':=by
  have hu36:=Try.underlying36
  have hu118:=Try.underlying118
  have HR0_0:=qn.mk hr0_0
  have HC0_0:=qn.mk hc0_0
  clear hr0_0 hc0_0
  have HR0_1:=qn.mk hr0_1
  have HC0_1:=qn.mk hc0_1
  clear hr0_1 hc0_1
  have HB:=qn.mk (Below.refl w.heap.size w)
  have H : ((impl_in.f (l0_0.length : Int) 1 400).bind fun t210=>(if t210 = true then (impl_DeviceOk.j0 k (decide ((l0_1.length : Int) > 400)) l0_0 l0_1) else (impl_DeviceOk.j0 k true l0_0 l0_1))) = some r:=h
  clear h
  have HC2:=qn.mk H
  clear H
  go_enter Try.func36,Try.ntmps36
  go_upto_region 1 with (first|((with_reducible refine gate_dst (N:=1) rfl ?_);(try (refine gate_guard (by rfl) ?_;dsimp only));refine box_event ?hg (N:=1) ?hd (cs:=#[.slice A0_0 l0_0.length c0_0,.slice A0_1 l0_1.length c0_1]) (t:=36) ?hr ?_;(case hd=>rfl);(case hg=>rfl);(case hr=>first|(go_simp;done)|(go_simp;rfl));intro gb209 hg w3 hbox hb;have n0_:=hs_ HB hb;have n1_:=qn.mk (hbox);have n2_:=qn.mk ((by rw [hg];exact (qj (by repeat (first|(with_reducible first|exact HB.out|apply qf|apply qa|apply qd)|exact HB.out))) : w.heap.size ≤ gb209));have n3_:=qn.mk ((by rw [hg];exact (qj (by repeat (first|(with_reducible first|exact HB.out|apply qf|apply qa|apply qd)|exact HB.out))) : w.heap.size ≤ gb209));clear HB;have HB:=n0_;have BK209:=n1_;have GW209:=n2_;have GE209:=n3_;clear n0_ n1_ n2_ n3_;clear hb hbox hg))
  (try simp only [Act.put,List.setIfInBounds_toArray,List.set_cons_zero,List.set_cons_succ])
  go_cut [17] (fun v17 wc=>∃ (kq : Nat) (x17_1 : Bool),v17 = .bool x17_1 ∧ qn (impl_DeviceOk.j0 kq x17_1 l0_0 l0_1 = some r) ∧ qn (kq ≤ k) ∧ qn (wc.heap[gb209]? = some (.cells #[(.slice A0_0 l0_0.length c0_0),(.slice A0_1 l0_1.length c0_1)] 36 (0,0))) ∧ qn (Below w.heap.size w wc))
  case first =>
    have H:=HC2.out
    clear HC2
    replace H:=Option.bind_eq_some_iff.mp H
    obtain ⟨t210,A40,H⟩:=H
    replace H : (if t210 = true then (impl_DeviceOk.j0 k (decide ((l0_1.length : Int) > 400)) l0_0 l0_1) else (impl_DeviceOk.j0 k true l0_0 l0_1)) = some r:=H
    have A4:=qn.mk A40
    clear A40
    by_cases c5 : t210 = true
    · subst c5
      have H1 : (impl_DeviceOk.j0 k (decide ((l0_1.length : Int) > 400)) l0_0 l0_1) = some r:=by rw [if_pos rfl] at H;exact H
      clear H
      have H:=H1
      clear H1
      have H':=qn.mk H
      clear H
      have hcz6_0 : w3.cell? ⟨gb209,0,none⟩ = some (.slice A0_0 l0_0.length c0_0):=(qh BK209.out 0).trans rfl
      have hcz6_1 : w3.cell? ⟨gb209,1,none⟩ = some (.slice A0_1 l0_1.length c0_1):=(qh BK209.out 1).trans rfl
      have hfz6_0:=qi BK209.out 0
      have hfz6_1:=qi BK209.out 1
      go_wp2_with (first|((with_reducible refine gate_callee (f:=28) rfl ?_);refine goesL_ (some 10) rfl rfl Try.func28 (by kernel_rfl) rfl #[.int .i64 (l0_0.length : Int),.int .i64 1,.int .i64 400] rfl (by (try simp only [List.map_toArray,List.map_cons,List.map_nil]);first|done|rfl|(simp only [List.length_drop,List.length_take];rfl)) ?_;(with_reducible refine (impl_in.calls (l0_0.length : Int) 1 400 true _ A4.out).mono ?_);rintro e w' ⟨rfl,⟨nd,rfl⟩⟩;refine ⟨_,rfl,?_⟩))
      go_meet
      case rel=>exact ⟨_,(decide ((l0_1.length : Int) > 400)),(by first|rfl|(simp;done)|(simp [*];done)),H',⟨by first|omega|exact Nat.le_refl _⟩,⟨by (with_reducible repeat (first|refine qb ?_ _|refine qe ?_|refine qc ?_ _));exact BK209.out⟩,⟨by repeat (first|(with_reducible first|exact HB.out|apply qf|apply qa|apply qd|refine qg ?_ GE209.out)|exact HB.out)⟩⟩
    · replace c5:=Bool.eq_false_iff.mpr c5
      subst c5
      have H1 : (impl_DeviceOk.j0 k true l0_0 l0_1) = some r:=by rw [if_neg (show ¬ (false = true) by decide)] at H;exact H
      clear H
      have H:=H1
      clear H1
      have H':=qn.mk H
      clear H
      have hcz7_0 : w3.cell? ⟨gb209,0,none⟩ = some (.slice A0_0 l0_0.length c0_0):=(qh BK209.out 0).trans rfl
      have hcz7_1 : w3.cell? ⟨gb209,1,none⟩ = some (.slice A0_1 l0_1.length c0_1):=(qh BK209.out 1).trans rfl
      have hfz7_0:=qi BK209.out 0
      have hfz7_1:=qi BK209.out 1
      go_wp2_with (first|((with_reducible refine gate_callee (f:=28) rfl ?_);refine goesL_ (some 10) rfl rfl Try.func28 (by kernel_rfl) rfl #[.int .i64 (l0_0.length : Int),.int .i64 1,.int .i64 400] rfl (by (try simp only [List.map_toArray,List.map_cons,List.map_nil]);first|done|rfl|(simp only [List.length_drop,List.length_take];rfl)) ?_;(with_reducible refine (impl_in.calls (l0_0.length : Int) 1 400 false _ A4.out).mono ?_);rintro e w' ⟨rfl,⟨nd,rfl⟩⟩;refine ⟨_,rfl,?_⟩))
      go_meet
      case rel=>exact ⟨_,(true),(by first|rfl|(simp;done)|(simp [*];done)),H',⟨by first|omega|exact Nat.le_refl _⟩,⟨by (with_reducible repeat (first|refine qb ?_ _|refine qe ?_|refine qc ?_ _));exact BK209.out⟩,⟨by repeat (first|(with_reducible first|exact HB.out|apply qf|apply qa|apply qd|refine qg ?_ GE209.out)|exact HB.out)⟩⟩
  case rest =>
    clear HC2
    try clear c2
    try clear p2
    try clear c3
    try clear c5
    try clear hcz6_0
    try clear hcz6_1
    try clear hcz7_0
    try clear hcz7_1
    try clear hfz6_0
    try clear hfz6_1
    try clear hfz7_0
    try clear hfz7_1
    obtain ⟨kq,x17_1,rfl,HA,HJ1,BK209,HB⟩:=hcut
    cases kq with
    | zero=>exact absurd HA.out (by simp [impl_DeviceOk.j0])
    | succ kj1 =>
      have H:=HA.out
      clear HA
      simp only [impl_DeviceOk.j0] at H
      by_cases c8 : x17_1 = true
      · subst c8
        have H1 : (some false) = some r:=by rw [if_pos rfl] at H;exact H
        clear H
        have H:=H1
        clear H1
        obtain rfl:=Option.some.inj H
        go_wp2
        go_ret
        exact ⟨by first|rfl|(simp [errW_none,errW_some] <;> rfl)|(simp [*,errW_none,errW_some] <;> rfl),by repeat (first|(with_reducible first|exact HB.out|apply qf|apply qa|apply qd|refine qg ?_ GE209.out)|exact HB.out)⟩
      · replace c8:=Bool.eq_false_iff.mpr c8
        subst c8
        have H1 : (impl_DeviceOk.l0 kj1 l0_0 (l0_0.length : Int) 0 l0_0 l0_1) = some r:=by rw [if_neg (show ¬ (false = true) by decide)] at H;exact H
        clear H
        have H:=H1
        clear H1
        have H':=qn.mk H
        clear H
        have hcz9_0 : wc.cell? ⟨gb209,0,none⟩ = some (.slice A0_0 l0_0.length c0_0):=(qh BK209.out 0).trans rfl
        have hcz9_1 : wc.cell? ⟨gb209,1,none⟩ = some (.slice A0_1 l0_1.length c0_1):=(qh BK209.out 1).trans rfl
        have hfz9_0:=qi BK209.out 0
        have hfz9_1:=qi BK209.out 1
        go_wp2
        go_loopg [21] kj1 (fun kq v21 w'=>∃ (x21_2 : Int),v21 = .int .i64 x21_2 ∧ qn (impl_DeviceOk.l0 kq l0_0 (l0_0.length : Int) x21_2 l0_0 l0_1 = some r) ∧ qn (kq ≤ kj1) ∧ qn (w'.heap[gb209]? = some (.cells #[(.slice A0_0 l0_0.length c0_0),(.slice A0_1 l0_1.length c0_1)] 36 (0,0))) ∧ qn (Below w.heap.size w w'))
        case atStart=>exact ⟨(0),(by first|rfl|(simp;done)|(simp [*];done)),H',⟨Nat.le_refl _⟩,⟨by (with_reducible repeat (first|refine qb ?_ _|refine qe ?_|refine qc ?_ _));exact BK209.out⟩,⟨by repeat (first|(with_reducible first|exact HB.out|apply qf|apply qa|apply qd|refine qg ?_ GE209.out)|exact HB.out)⟩⟩
        case round =>
          clear H'
          try clear c2
          try clear p2
          try clear c3
          try clear c5
          try clear c8
          try clear hcz6_0
          try clear hcz6_1
          try clear hcz7_0
          try clear hcz7_1
          try clear hcz9_0
          try clear hcz9_1
          try clear hfz6_0
          try clear hfz6_1
          try clear hfz7_0
          try clear hfz7_1
          try clear hfz9_0
          try clear hfz9_1
          try clear p2
          obtain ⟨x21_2,rfl,HA,HK2,BK209,HB⟩:=hrel
          cases gk with
          | zero=>exact absurd HA.out (by simp [impl_DeviceOk.l0])
          | succ k2 =>
            have H:=HA.out
            clear HA
            simp only [impl_DeviceOk.l0] at H
            by_cases c10 : x21_2 < (l0_0.length : Int)
            · rw [if_pos c10] at H
              have c10b0 : decide (x21_2 < (l0_0.length : Int)) = true:=decide_eq_true c10
              clear c10
              by_cases c11 : 0 ≤ x21_2
              · rw [if_pos c11] at H
                have c11b0 : decide (0 ≤ x21_2) = true:=decide_eq_true c11
                clear c11
                by_cases c12 : x21_2 < (l0_0.length : Int)
                · rw [if_pos c12] at H
                  have c12b0 : decide (x21_2 < (l0_0.length : Int)) = true:=decide_eq_true c12
                  clear c12
                  by_cases c13 : ((rdOf ByteArray.empty l0_0 x21_2).size : Int) > 64
                  · rw [if_pos c13] at H
                    have c13b0 : decide (64 < ((rdOf ByteArray.empty l0_0 x21_2).size : Int)) = true:=decide_eq_true c13
                    have c13b1 : decide (64 < (rdOf ByteArray.empty l0_0 x21_2).size) = true:=decide_eq_true (by omega)
                    clear c13
                    obtain rfl:=Option.some.inj H
                    have p211 : 0 ≤ (x21_2 : Int):=of_decide_eq_true (by first|(with_reducible assumption)|assumption)
                    have q211 : x21_2 < (l0_0.length : Int):=of_decide_eq_true (by first|(with_reducible assumption)|assumption)
                    obtain ⟨ad211,e211,hx211_0⟩:=Kd.at_string HR0_0.out x21_2 p211 q211
                    cases e211
                    replace hx211_0:=cb_ HB hx211_0
                    replace p211:=eq_true p211
                    replace q211:=eq_true q211
                    go_wp2
                    go_ret
                    exact ⟨by first|rfl|(simp [errW_none,errW_some] <;> rfl)|(simp [*,errW_none,errW_some] <;> rfl),by repeat (first|(with_reducible first|exact HB.out|apply qf|apply qa|apply qd|refine qg ?_ GE209.out)|exact HB.out)⟩
                  · rw [if_neg c13] at H
                    have c13b0 : decide (64 < ((rdOf ByteArray.empty l0_0 x21_2).size : Int)) = false:=decide_eq_false c13
                    have c13b1 : decide (64 < (rdOf ByteArray.empty l0_0 x21_2).size) = false:=decide_eq_false (by omega)
                    clear c13
                    have H':=qn.mk H
                    clear H
                    have p211 : 0 ≤ (x21_2 : Int):=of_decide_eq_true (by first|(with_reducible assumption)|assumption)
                    have q211 : x21_2 < (l0_0.length : Int):=of_decide_eq_true (by first|(with_reducible assumption)|assumption)
                    obtain ⟨ad211,e211,hx211_0⟩:=Kd.at_string HR0_0.out x21_2 p211 q211
                    cases e211
                    replace hx211_0:=cb_ HB hx211_0
                    replace p211:=eq_true p211
                    replace q211:=eq_true q211
                    go_wp2
                    go_roundg k2
                    case measure=>have:=HJ1.out;have:=HK2.out;omega
                    case rel=>exact ⟨(wrap64 (x21_2 + 1)),(by first|rfl|(simp;done)|(simp [*];done)),H',⟨by have:=HJ1.out;have:=HK2.out;omega⟩,⟨by (with_reducible repeat (first|refine qb ?_ _|refine qe ?_|refine qc ?_ _));exact BK209.out⟩,⟨by repeat (first|(with_reducible first|exact HB.out|apply qf|apply qa|apply qd|refine qg ?_ GE209.out)|exact HB.out)⟩⟩
                · rw [if_neg c12] at H
                  exact absurd H (by simp)
              · rw [if_neg c11] at H
                exact absurd H (by simp)
            · rw [if_neg c10] at H
              have c10b0 : decide (x21_2 < (l0_0.length : Int)) = false:=decide_eq_false c10
              clear c10
              have H':=qn.mk H
              clear H
              have hcz14_0 : wr.cell? ⟨gb209,0,none⟩ = some (.slice A0_0 l0_0.length c0_0):=(qh BK209.out 0).trans rfl
              have hcz14_1 : wr.cell? ⟨gb209,1,none⟩ = some (.slice A0_1 l0_1.length c0_1):=(qh BK209.out 1).trans rfl
              have hfz14_0:=qi BK209.out 0
              have hfz14_1:=qi BK209.out 1
              go_wp2
              go_loopg [32] k2 (fun kq v32 w'=>∃ (x32_3 : Int),v32 = .int .i64 x32_3 ∧ qn (impl_DeviceOk.l1 kq l0_1 (l0_1.length : Int) x32_3 l0_0 l0_1 = some r) ∧ qn (kq ≤ k2) ∧ qn (w'.heap[gb209]? = some (.cells #[(.slice A0_0 l0_0.length c0_0),(.slice A0_1 l0_1.length c0_1)] 36 (0,0))) ∧ qn (Below w.heap.size w w'))
              case atStart=>exact ⟨(0),(by first|rfl|(simp;done)|(simp [*];done)),H',⟨Nat.le_refl _⟩,⟨by (with_reducible repeat (first|refine qb ?_ _|refine qe ?_|refine qc ?_ _));exact BK209.out⟩,⟨by repeat (first|(with_reducible first|exact HB.out|apply qf|apply qa|apply qd|refine qg ?_ GE209.out)|exact HB.out)⟩⟩
              case round =>
                clear H'
                try clear c1
                try clear c2
                try clear p2
                try clear q2
                try clear hx2
                try clear c3
                try clear c5
                try clear p6
                try clear c8
                try clear c10
                try clear c10b0
                try clear c11
                try clear c11b0
                try clear c12
                try clear c12b0
                try clear c13
                try clear c13b0
                try clear c13b1
                try clear hcz14_0
                try clear hcz14_1
                try clear hcz6_0
                try clear hcz6_1
                try clear hcz7_0
                try clear hcz7_1
                try clear hcz9_0
                try clear hcz9_1
                try clear hfz14_0
                try clear hfz14_1
                try clear hfz6_0
                try clear hfz6_1
                try clear hfz7_0
                try clear hfz7_1
                try clear hfz9_0
                try clear hfz9_1
                try clear hx211_0
                try clear p2
                try clear p211
                try clear q211
                obtain ⟨x32_3,rfl,HA,HK3,BK209,HB⟩:=hrel
                cases gk with
                | zero=>exact absurd HA.out (by simp [impl_DeviceOk.l1])
                | succ k3 =>
                  have H:=HA.out
                  clear HA
                  simp only [impl_DeviceOk.l1] at H
                  by_cases c15 : x32_3 < (l0_1.length : Int)
                  · rw [if_pos c15] at H
                    have c15b0 : decide (x32_3 < (l0_1.length : Int)) = true:=decide_eq_true c15
                    clear c15
                    by_cases c16 : 0 ≤ x32_3
                    · rw [if_pos c16] at H
                      have c16b0 : decide (0 ≤ x32_3) = true:=decide_eq_true c16
                      clear c16
                      by_cases c17 : x32_3 < (l0_1.length : Int)
                      · rw [if_pos c17] at H
                        have c17b0 : decide (x32_3 < (l0_1.length : Int)) = true:=decide_eq_true c17
                        clear c17
                        replace H:=Option.bind_eq_some_iff.mp H
                        obtain ⟨t214,A180,H⟩:=H
                        replace H : (if t214 = true then (if (((rd_T118 l0_1 x32_3).f1).size : Int) > 64 then (some false) else (impl_DeviceOk.l1 k3 l0_1 (l0_1.length : Int) (wrap64 (x32_3 + 1)) l0_0 l0_1)) else (some false)) = some r:=H
                        have A18:=qn.mk A180
                        clear A180
                        by_cases c19 : t214 = true
                        · subst c19
                          have H1 : (if (((rd_T118 l0_1 x32_3).f1).size : Int) > 64 then (some false) else (impl_DeviceOk.l1 k3 l0_1 (l0_1.length : Int) (wrap64 (x32_3 + 1)) l0_0 l0_1)) = some r:=by rw [if_pos rfl] at H;exact H
                          clear H
                          have H:=H1
                          clear H1
                          by_cases c20 : (((rd_T118 l0_1 x32_3).f1).size : Int) > 64
                          · rw [if_pos c20] at H
                            have c20b0 : decide (64 < (((rd_T118 l0_1 x32_3).f1).size : Int)) = true:=decide_eq_true c20
                            have c20b1 : decide (64 < ((rd_T118 l0_1 x32_3).f1).size) = true:=decide_eq_true (by omega)
                            clear c20
                            obtain rfl:=Option.some.inj H
                            have p212 : 0 ≤ (x32_3 : Int):=of_decide_eq_true (by first|(with_reducible assumption)|assumption)
                            have q212 : x32_3 < (l0_1.length : Int):=of_decide_eq_true (by first|(with_reducible assumption)|assumption)
                            obtain ⟨ad212,e212,hx212_0,hx212_1⟩:=at_T118 HR0_1.out x32_3 p212 q212
                            cases e212
                            replace hx212_0:=cb_ HB hx212_0
                            replace hx212_1:=cb_ HB hx212_1
                            replace p212:=eq_true p212
                            replace q212:=eq_true q212
                            go_wp2_with (first|((with_reducible refine gate_dst (N:=6) rfl ?_);(try (refine gate_guard (by rfl) ?_;dsimp only));refine box_event ?hg (N:=6) ?hd (cs:=#[.int .i64 0,.string (⟨#[]⟩ : ByteArray)]) (t:=118) ?hr ?_;(case hd=>rfl);(case hg=>rfl);(case hr=>first|(go_simp;done)|(go_simp;rfl));intro gb213 hg w21 hbox hb;have n0_:=bb_ BK209 hb;have n1_:=hs_ HB hb;have n2_:=qn.mk (hbox);have n3_:=qn.mk ((by rw [hg];exact (qj (by repeat (first|(with_reducible first|exact HB.out|apply qf|apply qa|apply qd|refine qg ?_ GE209.out)|exact HB.out))) : w.heap.size ≤ gb213));have n4_:=qn.mk ((by rw [hg];exact (qj (by repeat (first|(with_reducible first|exact HB.out|apply qf|apply qa|apply qd|refine qg ?_ GE209.out)|exact HB.out))) : w.heap.size ≤ gb213));have n5_:=qn.mk ((by rw [hg];exact nl_ BK209 : gb209 ≠ gb213));have n6_:=qn.mk ((by rw [hg];exact ng_ BK209 : gb213 ≠ gb209));clear BK209;clear HB;have BK209:=n0_;have HB:=n1_;have BK213:=n2_;have GW213:=n3_;have GE213:=n4_;have NB209_213:=n5_;have NB213_209:=n6_;clear n0_ n1_ n2_ n3_ n4_ n5_ n6_;clear hb hbox hg;have hnb22:=NB213_209.out;have hnc22:=NB209_213.out;have hcz23_0 : w21.cell? ⟨gb213,0,none⟩ = some (.int .i64 0):=(qh BK213.out 0).trans rfl;have hcz23_1 : w21.cell? ⟨gb213,1,none⟩ = some (.string (⟨#[]⟩ : ByteArray)):=(qh BK213.out 1).trans rfl;have hfz23_0:=qi BK213.out 0;have hfz23_1:=qi BK213.out 1;have hcz24_0 : w21.cell? ⟨gb209,0,none⟩ = some (.slice A0_0 l0_0.length c0_0):=(qh BK209.out 0).trans rfl;have hcz24_1 : w21.cell? ⟨gb209,1,none⟩ = some (.slice (some ad212) l0_1.length c0_1):=(qh BK209.out 1).trans rfl;have hfz24_0:=qi BK209.out 0;have hfz24_1:=qi BK209.out 1)|((with_reducible refine gate_callee (f:=28) rfl ?_);refine goesL_ (some 42) rfl rfl Try.func28 (by kernel_rfl) rfl #[.int .i64 ((rd_T118 l0_1 x32_3).f0),.int .i64 0,.int .i64 (wrap64 ((l0_0.length : Int) - 1))] rfl (by (try simp only [List.map_toArray,List.map_cons,List.map_nil]);first|done|rfl|(simp only [List.length_drop,List.length_take];rfl)) ?_;(with_reducible refine (impl_in.calls ((rd_T118 l0_1 x32_3).f0) 0 (wrap64 ((l0_0.length : Int) - 1)) true _ A18.out).mono ?_);rintro e w' ⟨rfl,⟨nd,rfl⟩⟩;refine ⟨_,rfl,?_⟩))
                            go_ret
                            exact ⟨by first|rfl|(simp [errW_none,errW_some] <;> rfl)|(simp [*,errW_none,errW_some] <;> rfl),by repeat (first|(with_reducible first|exact HB.out|apply qf|apply qa|apply qd|refine qg ?_ GE209.out|refine qg ?_ GE213.out)|exact HB.out)⟩
                          · rw [if_neg c20] at H
                            have c20b0 : decide (64 < (((rd_T118 l0_1 x32_3).f1).size : Int)) = false:=decide_eq_false c20
                            have c20b1 : decide (64 < ((rd_T118 l0_1 x32_3).f1).size) = false:=decide_eq_false (by omega)
                            clear c20
                            have H':=qn.mk H
                            clear H
                            have p212 : 0 ≤ (x32_3 : Int):=of_decide_eq_true (by first|(with_reducible assumption)|assumption)
                            have q212 : x32_3 < (l0_1.length : Int):=of_decide_eq_true (by first|(with_reducible assumption)|assumption)
                            obtain ⟨ad212,e212,hx212_0,hx212_1⟩:=at_T118 HR0_1.out x32_3 p212 q212
                            cases e212
                            replace hx212_0:=cb_ HB hx212_0
                            replace hx212_1:=cb_ HB hx212_1
                            replace p212:=eq_true p212
                            replace q212:=eq_true q212
                            go_wp2_with (first|((with_reducible refine gate_dst (N:=6) rfl ?_);(try (refine gate_guard (by rfl) ?_;dsimp only));refine box_event ?hg (N:=6) ?hd (cs:=#[.int .i64 0,.string (⟨#[]⟩ : ByteArray)]) (t:=118) ?hr ?_;(case hd=>rfl);(case hg=>rfl);(case hr=>first|(go_simp;done)|(go_simp;rfl));intro gb213 hg w25 hbox hb;have n0_:=bb_ BK209 hb;have n1_:=hs_ HB hb;have n2_:=qn.mk (hbox);have n3_:=qn.mk ((by rw [hg];exact (qj (by repeat (first|(with_reducible first|exact HB.out|apply qf|apply qa|apply qd|refine qg ?_ GE209.out)|exact HB.out))) : w.heap.size ≤ gb213));have n4_:=qn.mk ((by rw [hg];exact (qj (by repeat (first|(with_reducible first|exact HB.out|apply qf|apply qa|apply qd|refine qg ?_ GE209.out)|exact HB.out))) : w.heap.size ≤ gb213));have n5_:=qn.mk ((by rw [hg];exact nl_ BK209 : gb209 ≠ gb213));have n6_:=qn.mk ((by rw [hg];exact ng_ BK209 : gb213 ≠ gb209));clear BK209;clear HB;have BK209:=n0_;have HB:=n1_;have BK213:=n2_;have GW213:=n3_;have GE213:=n4_;have NB209_213:=n5_;have NB213_209:=n6_;clear n0_ n1_ n2_ n3_ n4_ n5_ n6_;clear hb hbox hg;have hnb26:=NB213_209.out;have hnc26:=NB209_213.out;have hcz27_0 : w25.cell? ⟨gb213,0,none⟩ = some (.int .i64 0):=(qh BK213.out 0).trans rfl;have hcz27_1 : w25.cell? ⟨gb213,1,none⟩ = some (.string (⟨#[]⟩ : ByteArray)):=(qh BK213.out 1).trans rfl;have hfz27_0:=qi BK213.out 0;have hfz27_1:=qi BK213.out 1;have hcz28_0 : w25.cell? ⟨gb209,0,none⟩ = some (.slice A0_0 l0_0.length c0_0):=(qh BK209.out 0).trans rfl;have hcz28_1 : w25.cell? ⟨gb209,1,none⟩ = some (.slice (some ad212) l0_1.length c0_1):=(qh BK209.out 1).trans rfl;have hfz28_0:=qi BK209.out 0;have hfz28_1:=qi BK209.out 1)|((with_reducible refine gate_callee (f:=28) rfl ?_);refine goesL_ (some 42) rfl rfl Try.func28 (by kernel_rfl) rfl #[.int .i64 ((rd_T118 l0_1 x32_3).f0),.int .i64 0,.int .i64 (wrap64 ((l0_0.length : Int) - 1))] rfl (by (try simp only [List.map_toArray,List.map_cons,List.map_nil]);first|done|rfl|(simp only [List.length_drop,List.length_take];rfl)) ?_;(with_reducible refine (impl_in.calls ((rd_T118 l0_1 x32_3).f0) 0 (wrap64 ((l0_0.length : Int) - 1)) true _ A18.out).mono ?_);rintro e w' ⟨rfl,⟨nd,rfl⟩⟩;refine ⟨_,rfl,?_⟩))
                            go_roundg k3
                            case measure=>have:=HJ1.out;have:=HK2.out;have:=HK3.out;omega
                            case rel=>exact ⟨(wrap64 (x32_3 + 1)),(by first|rfl|(simp;done)|(simp [*];done)),H',⟨by have:=HJ1.out;have:=HK2.out;have:=HK3.out;omega⟩,⟨by (with_reducible repeat (first|refine qb ?_ _|refine qe ?_|refine qc ?_ _));refine blk_far ?_ NB209_213.out _;(with_reducible repeat (first|refine qb ?_ _|refine qe ?_|refine qc ?_ _));refine blk_far ?_ NB209_213.out _;(with_reducible repeat (first|refine qb ?_ _|refine qe ?_|refine qc ?_ _));exact BK209.out⟩,⟨by repeat (first|(with_reducible first|exact HB.out|apply qf|apply qa|apply qd|refine qg ?_ GE209.out|refine qg ?_ GE213.out)|exact HB.out)⟩⟩
                        · replace c19:=Bool.eq_false_iff.mpr c19
                          subst c19
                          have H1 : (some false) = some r:=by rw [if_neg (show ¬ (false = true) by decide)] at H;exact H
                          clear H
                          have H:=H1
                          clear H1
                          obtain rfl:=Option.some.inj H
                          have p212 : 0 ≤ (x32_3 : Int):=of_decide_eq_true (by first|(with_reducible assumption)|assumption)
                          have q212 : x32_3 < (l0_1.length : Int):=of_decide_eq_true (by first|(with_reducible assumption)|assumption)
                          obtain ⟨ad212,e212,hx212_0,hx212_1⟩:=at_T118 HR0_1.out x32_3 p212 q212
                          cases e212
                          replace hx212_0:=cb_ HB hx212_0
                          replace hx212_1:=cb_ HB hx212_1
                          replace p212:=eq_true p212
                          replace q212:=eq_true q212
                          go_wp2_with (first|((with_reducible refine gate_dst (N:=6) rfl ?_);(try (refine gate_guard (by rfl) ?_;dsimp only));refine box_event ?hg (N:=6) ?hd (cs:=#[.int .i64 0,.string (⟨#[]⟩ : ByteArray)]) (t:=118) ?hr ?_;(case hd=>rfl);(case hg=>rfl);(case hr=>first|(go_simp;done)|(go_simp;rfl));intro gb213 hg w29 hbox hb;have n0_:=bb_ BK209 hb;have n1_:=hs_ HB hb;have n2_:=qn.mk (hbox);have n3_:=qn.mk ((by rw [hg];exact (qj (by repeat (first|(with_reducible first|exact HB.out|apply qf|apply qa|apply qd|refine qg ?_ GE209.out)|exact HB.out))) : w.heap.size ≤ gb213));have n4_:=qn.mk ((by rw [hg];exact (qj (by repeat (first|(with_reducible first|exact HB.out|apply qf|apply qa|apply qd|refine qg ?_ GE209.out)|exact HB.out))) : w.heap.size ≤ gb213));have n5_:=qn.mk ((by rw [hg];exact nl_ BK209 : gb209 ≠ gb213));have n6_:=qn.mk ((by rw [hg];exact ng_ BK209 : gb213 ≠ gb209));clear BK209;clear HB;have BK209:=n0_;have HB:=n1_;have BK213:=n2_;have GW213:=n3_;have GE213:=n4_;have NB209_213:=n5_;have NB213_209:=n6_;clear n0_ n1_ n2_ n3_ n4_ n5_ n6_;clear hb hbox hg;have hnb30:=NB213_209.out;have hnc30:=NB209_213.out;have hcz31_0 : w29.cell? ⟨gb213,0,none⟩ = some (.int .i64 0):=(qh BK213.out 0).trans rfl;have hcz31_1 : w29.cell? ⟨gb213,1,none⟩ = some (.string (⟨#[]⟩ : ByteArray)):=(qh BK213.out 1).trans rfl;have hfz31_0:=qi BK213.out 0;have hfz31_1:=qi BK213.out 1;have hcz32_0 : w29.cell? ⟨gb209,0,none⟩ = some (.slice A0_0 l0_0.length c0_0):=(qh BK209.out 0).trans rfl;have hcz32_1 : w29.cell? ⟨gb209,1,none⟩ = some (.slice (some ad212) l0_1.length c0_1):=(qh BK209.out 1).trans rfl;have hfz32_0:=qi BK209.out 0;have hfz32_1:=qi BK209.out 1)|((with_reducible refine gate_callee (f:=28) rfl ?_);refine goesL_ (some 42) rfl rfl Try.func28 (by kernel_rfl) rfl #[.int .i64 ((rd_T118 l0_1 x32_3).f0),.int .i64 0,.int .i64 (wrap64 ((l0_0.length : Int) - 1))] rfl (by (try simp only [List.map_toArray,List.map_cons,List.map_nil]);first|done|rfl|(simp only [List.length_drop,List.length_take];rfl)) ?_;(with_reducible refine (impl_in.calls ((rd_T118 l0_1 x32_3).f0) 0 (wrap64 ((l0_0.length : Int) - 1)) false _ A18.out).mono ?_);rintro e w' ⟨rfl,⟨nd,rfl⟩⟩;refine ⟨_,rfl,?_⟩))
                          go_ret
                          exact ⟨by first|rfl|(simp [errW_none,errW_some] <;> rfl)|(simp [*,errW_none,errW_some] <;> rfl),by repeat (first|(with_reducible first|exact HB.out|apply qf|apply qa|apply qd|refine qg ?_ GE209.out|refine qg ?_ GE213.out)|exact HB.out)⟩
                      · rw [if_neg c17] at H
                        exact absurd H (by simp)
                    · rw [if_neg c16] at H
                      exact absurd H (by simp)
                  · rw [if_neg c15] at H
                    have c15b0 : decide (x32_3 < (l0_1.length : Int)) = false:=decide_eq_false c15
                    clear c15
                    obtain rfl:=Option.some.inj H
                    go_wp2
                    go_ret
                    exact ⟨by first|rfl|(simp [errW_none,errW_some] <;> rfl)|(simp [*,errW_none,errW_some] <;> rfl),by repeat (first|(with_reducible first|exact HB.out|apply qf|apply qa|apply qd|refine qg ?_ GE209.out)|exact HB.out)⟩

/-! ### impl_readSector: function 37 -/
def impl_readSector.l0 : Nat → Int → Int → List ByteArray → List (S118) → Option (ByteArray)
  | 0,_,_,_,_=>none
  | k + 1,x1,x5,x216000,x216001=>if x5 ≥ 0 then (if 0 ≤ x5 then (if x5 < (x216001.length : Int) then (if ((rd_T118 x216001 x5).f0) = x1 then (some ((rd_T118 x216001 x5).f1)) else (impl_readSector.l0 k x1 (wrap64 (x5 - 1)) x216000 x216001)) else (none)) else (none)) else (if 0 ≤ x1 then (if x1 < (x216000.length : Int) then (some (rdOf ByteArray.empty x216000 x1)) else (none)) else (none))
def impl_readSector.f (k : Nat) (l0_0 : List ByteArray) (l0_1 : List (S118)) (a1 : Int) : Option (ByteArray):=impl_readSector.l0 k a1 (wrap64 ((l0_1.length : Int) - 1)) l0_0 l0_1
theorem impl_readSector.mono_l : ∀ k,(∀ y0 y1 y2 y3,LeO (impl_readSector.l0 k y0 y1 y2 y3) (impl_readSector.l0 (k + 1) y0 y1 y2 y3))
  | 0=>fun _ _ _ _ r h=>by simp [impl_readSector.l0] at h
  | k + 1=>by
    have ih0:=impl_readSector.mono_l k
    · intro y0 y1 y2 y3
      unfold impl_readSector.l0
      repeat' first
      | (with_reducible exact ih0 _ _ _ _)
      | (with_reducible exact LeO.refl _)
      | (with_reducible exact LeO.none _)
      | (with_reducible refine LeO.ite ?_ ?_)
      | (with_reducible refine LeO.bind ?_ (fun _=>?_))
      | exact ih0 _ _ _ _
      | exact LeO.none _
      | refine LeO.ite ?_ ?_
      | refine LeO.bind ?_ (fun _=>?_)
theorem impl_readSector.mono : ∀ a0 a1 a2 k,LeO (impl_readSector.f k a0 a1 a2) (impl_readSector.f (k + 1) a0 a1 a2):=by
  intro a0 a1 a2 k
  have ih0:=impl_readSector.mono_l k
  unfold impl_readSector.f
  repeat' first
      | (with_reducible exact ih0 _ _ _ _)
      | (with_reducible exact LeO.refl _)
      | (with_reducible exact LeO.none _)
      | (with_reducible refine LeO.ite ?_ ?_)
      | (with_reducible refine LeO.bind ?_ (fun _=>?_))
      | exact ih0 _ _ _ _
      | exact LeO.none _
      | refine LeO.ite ?_ ?_
      | refine LeO.bind ?_ (fun _=>?_)
set_option maxHeartbeats 8000000 in
set_option maxRecDepth 100000 in
theorem impl_readSector.calls (k : Nat) (A0_0 : Option Addr) (c0_0 : Nat) (l0_0 : List ByteArray) (A0_1 : Option Addr) (c0_1 : Nat) (l0_1 : List (S118)) (a1 : Int) (r : ByteArray) (w : World) (hr0_0 : Kd.C Kd.string w A0_0 l0_0.length l0_0) (hc0_0 : l0_0.length ≤ c0_0) (hr0_1 : Kd.C k118 w A0_1 l0_1.length l0_1) (hc0_1 : l0_1.length ≤ c0_1) (h : impl_readSector.f k l0_0 l0_1 a1 = some r) :
    Calls Try.prog 37 #[.agg #[.slice A0_0 l0_0.length c0_0,.slice A0_1 l0_1.length c0_1],.int .i64 a1] w fun e w'=>e = .returned (.string r) ∧ Below w.heap.size w w':=by
  have hu36:=Try.underlying36
  have HR0_0:=qn.mk hr0_0
  have HC0_0:=qn.mk hc0_0
  clear hr0_0 hc0_0
  have HR0_1:=qn.mk hr0_1
  have HC0_1:=qn.mk hc0_1
  clear hr0_1 hc0_1
  have HB:=qn.mk (Below.refl w.heap.size w)
  have H : (impl_readSector.l0 k a1 (wrap64 ((l0_1.length : Int) - 1)) l0_0 l0_1) = some r:=h
  clear h
  have H':=qn.mk H
  clear H
  go_enter Try.func37,Try.ntmps37
  go_wp2_with (first|((with_reducible refine gate_dst (N:=2) rfl ?_);refine box_event ?hg (N:=2) ?hd (cs:=#[.slice A0_0 l0_0.length c0_0,.slice A0_1 l0_1.length c0_1]) (t:=36) ?hr ?_;(case hd=>rfl);(case hg=>rfl);(case hr=>first|(go_simp;done)|(go_simp;rfl));intro gb215 hg w3 hbox hb;have n0_:=hs_ HB hb;have n1_:=qn.mk (hbox);have n2_:=qn.mk ((by rw [hg];exact (qj (by repeat (first|(with_reducible first|exact HB.out|apply qf|apply qa|apply qd)|exact HB.out))) : w.heap.size ≤ gb215));have n3_:=qn.mk ((by rw [hg];exact (qj (by repeat (first|(with_reducible first|exact HB.out|apply qf|apply qa|apply qd)|exact HB.out))) : w.heap.size ≤ gb215));clear HB;have HB:=n0_;have BK215:=n1_;have GW215:=n2_;have GE215:=n3_;clear n0_ n1_ n2_ n3_;clear hb hbox hg;have hcz4_0 : w3.cell? ⟨gb215,0,none⟩ = some (.slice A0_0 l0_0.length c0_0):=(qh BK215.out 0).trans rfl;have hcz4_1 : w3.cell? ⟨gb215,1,none⟩ = some (.slice A0_1 l0_1.length c0_1):=(qh BK215.out 1).trans rfl;have hfz4_0:=qi BK215.out 0;have hfz4_1:=qi BK215.out 1))
  go_loopg [5] k (fun kq v5 w'=>∃ (x5_1 : Int),v5 = .int .i64 x5_1 ∧ qn (impl_readSector.l0 kq a1 x5_1 l0_0 l0_1 = some r) ∧ qn (kq ≤ k) ∧ qn (w'.heap[gb215]? = some (.cells #[(.slice A0_0 l0_0.length c0_0),(.slice A0_1 l0_1.length c0_1)] 36 (0,0))) ∧ qn (Below w.heap.size w w'))
  case atStart=>exact ⟨(wrap64 ((l0_1.length : Int) - 1)),(by first|rfl|(simp;done)|(simp [*];done)),H',⟨Nat.le_refl _⟩,⟨by (with_reducible repeat (first|refine qb ?_ _|refine qe ?_|refine qc ?_ _));exact BK215.out⟩,⟨by repeat (first|(with_reducible first|exact HB.out|apply qf|apply qa|apply qd|refine qg ?_ GE215.out)|exact HB.out)⟩⟩
  case round =>
    clear H'
    try clear p2
    try clear c3
    try clear hcz4_0
    try clear hcz4_1
    try clear hfz4_0
    try clear hfz4_1
    obtain ⟨x5_1,rfl,HA,HK1,BK215,HB⟩:=hrel
    cases gk with
    | zero=>exact absurd HA.out (by simp [impl_readSector.l0])
    | succ k1 =>
      have H:=HA.out
      clear HA
      simp only [impl_readSector.l0] at H
      by_cases c5 : x5_1 ≥ 0
      · rw [if_pos c5] at H
        have c5b0 : decide (0 ≤ x5_1) = true:=decide_eq_true c5
        clear c5
        by_cases c6 : 0 ≤ x5_1
        · rw [if_pos c6] at H
          have c6b0 : decide (0 ≤ x5_1) = true:=decide_eq_true c6
          clear c6
          by_cases c7 : x5_1 < (l0_1.length : Int)
          · rw [if_pos c7] at H
            have c7b0 : decide (x5_1 < (l0_1.length : Int)) = true:=decide_eq_true c7
            clear c7
            by_cases c8 : ((rd_T118 l0_1 x5_1).f0) = a1
            · rw [if_pos c8] at H
              have c8b0 : (((rd_T118 l0_1 x5_1).f0) == a1) = true:=beq_iff_eq.mpr c8
              have c8b1 : (((rd_T118 l0_1 x5_1).f0) != a1) = false:=bne_eq_false_iff_eq.mpr c8
              clear c8
              obtain rfl:=Option.some.inj H
              have hcz9_0 : wr.cell? ⟨gb215,0,none⟩ = some (.slice A0_0 l0_0.length c0_0):=(qh BK215.out 0).trans rfl
              have hcz9_1 : wr.cell? ⟨gb215,1,none⟩ = some (.slice A0_1 l0_1.length c0_1):=(qh BK215.out 1).trans rfl
              have hfz9_0:=qi BK215.out 0
              have hfz9_1:=qi BK215.out 1
              have p216 : 0 ≤ (x5_1 : Int):=of_decide_eq_true (by first|(with_reducible assumption)|assumption)
              have q216 : x5_1 < (l0_1.length : Int):=of_decide_eq_true (by first|(with_reducible assumption)|assumption)
              obtain ⟨ad216,e216,hx216_0,hx216_1⟩:=at_T118 HR0_1.out x5_1 p216 q216
              cases e216
              replace hx216_0:=cb_ HB hx216_0
              replace hx216_1:=cb_ HB hx216_1
              replace p216:=eq_true p216
              replace q216:=eq_true q216
              have p217 : 0 ≤ (x5_1 : Int):=of_decide_eq_true (by first|(with_reducible assumption)|assumption)
              have q217 : x5_1 < (l0_1.length : Int):=of_decide_eq_true (by first|(with_reducible assumption)|assumption)
              obtain ⟨ad217,e217,hx217_0,hx217_1⟩:=at_T118 HR0_1.out x5_1 p217 q217
              obtain rfl : ad216 = ad217:=(by injection e217)
              replace hx217_0:=cb_ HB hx217_0
              replace hx217_1:=cb_ HB hx217_1
              replace p217:=eq_true p217
              replace q217:=eq_true q217
              go_wp2
              go_ret
              exact ⟨by first|rfl|(simp [errW_none,errW_some] <;> rfl)|(simp [*,errW_none,errW_some] <;> rfl),by repeat (first|(with_reducible first|exact HB.out|apply qf|apply qa|apply qd|refine qg ?_ GE215.out)|exact HB.out)⟩
            · rw [if_neg c8] at H
              have c8b0 : (((rd_T118 l0_1 x5_1).f0) == a1) = false:=beq_eq_false_iff_ne.mpr c8
              have c8b1 : (((rd_T118 l0_1 x5_1).f0) != a1) = true:=bne_iff_ne.mpr c8
              have H':=qn.mk H
              clear H
              have hcz10_0 : wr.cell? ⟨gb215,0,none⟩ = some (.slice A0_0 l0_0.length c0_0):=(qh BK215.out 0).trans rfl
              have hcz10_1 : wr.cell? ⟨gb215,1,none⟩ = some (.slice A0_1 l0_1.length c0_1):=(qh BK215.out 1).trans rfl
              have hfz10_0:=qi BK215.out 0
              have hfz10_1:=qi BK215.out 1
              have p216 : 0 ≤ (x5_1 : Int):=of_decide_eq_true (by first|(with_reducible assumption)|assumption)
              have q216 : x5_1 < (l0_1.length : Int):=of_decide_eq_true (by first|(with_reducible assumption)|assumption)
              obtain ⟨ad216,e216,hx216_0,hx216_1⟩:=at_T118 HR0_1.out x5_1 p216 q216
              cases e216
              replace hx216_0:=cb_ HB hx216_0
              replace hx216_1:=cb_ HB hx216_1
              replace p216:=eq_true p216
              replace q216:=eq_true q216
              go_wp2
              go_roundg k1
              case measure=>have:=HK1.out;omega
              case rel=>exact ⟨(wrap64 (x5_1 - 1)),(by first|rfl|(simp;done)|(simp [*];done)),H',⟨by have:=HK1.out;omega⟩,⟨by (with_reducible repeat (first|refine qb ?_ _|refine qe ?_|refine qc ?_ _));exact BK215.out⟩,⟨by repeat (first|(with_reducible first|exact HB.out|apply qf|apply qa|apply qd|refine qg ?_ GE215.out)|exact HB.out)⟩⟩
          · rw [if_neg c7] at H
            exact absurd H (by simp)
        · rw [if_neg c6] at H
          exact absurd H (by simp)
      · rw [if_neg c5] at H
        have c5b0 : decide (0 ≤ x5_1) = false:=decide_eq_false c5
        clear c5
        by_cases c11 : 0 ≤ a1
        · rw [if_pos c11] at H
          have c11b0 : decide (0 ≤ a1) = true:=decide_eq_true c11
          clear c11
          by_cases c12 : a1 < (l0_0.length : Int)
          · rw [if_pos c12] at H
            have c12b0 : decide (a1 < (l0_0.length : Int)) = true:=decide_eq_true c12
            clear c12
            obtain rfl:=Option.some.inj H
            have hcz13_0 : wr.cell? ⟨gb215,0,none⟩ = some (.slice A0_0 l0_0.length c0_0):=(qh BK215.out 0).trans rfl
            have hcz13_1 : wr.cell? ⟨gb215,1,none⟩ = some (.slice A0_1 l0_1.length c0_1):=(qh BK215.out 1).trans rfl
            have hfz13_0:=qi BK215.out 0
            have hfz13_1:=qi BK215.out 1
            have p218 : 0 ≤ (a1 : Int):=of_decide_eq_true (by first|(with_reducible assumption)|assumption)
            have q218 : a1 < (l0_0.length : Int):=of_decide_eq_true (by first|(with_reducible assumption)|assumption)
            obtain ⟨ad218,e218,hx218_0⟩:=Kd.at_string HR0_0.out a1 p218 q218
            cases e218
            replace hx218_0:=cb_ HB hx218_0
            replace p218:=eq_true p218
            replace q218:=eq_true q218
            go_wp2
            go_ret
            exact ⟨by first|rfl|(simp [errW_none,errW_some] <;> rfl)|(simp [*,errW_none,errW_some] <;> rfl),by repeat (first|(with_reducible first|exact HB.out|apply qf|apply qa|apply qd|refine qg ?_ GE215.out)|exact HB.out)⟩
          · rw [if_neg c12] at H
            exact absurd H (by simp)
        · rw [if_neg c11] at H
          exact absurd H (by simp)

end Go.Proofs.Ytcdofljgeiohgaa.QFnRoots
