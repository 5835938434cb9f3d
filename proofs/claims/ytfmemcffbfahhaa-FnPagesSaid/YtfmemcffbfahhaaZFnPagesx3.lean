/- Lean functions for the Go functions that the law FnPages reaches, and that each Go function comes to just its Lean function's answer; by a program of this session. -/
import Derived.Test.YtfmemcffbfahhaaZFnPagesx0
import Derived.Test.YtfmemcffbfahhaaZFnPagesx2
namespace Go.Proofs.Ytfmemcffbfahhaa.QFnPages
open Go.RowKit Go.Proofs.YtfmemcffbfahhaaW.PrintWords Go.Proofs.YtfmemcffbfahhaaW.PrintLast Go.Proofs.YtfmemcffbfahhaaW.PrintMore
attribute [local go_sem] max2_int min2_int max_two min_two max_three min_three max_four min_four   -- for this text's walks alone
set_option linter.unusedVariables false
set_option linter.unusedSimpArgs false

/-! ### impl_VarText: function 95 -/
def impl_VarText.l0 : Nat → Int → List Int → Option (ByteArray × Bool)
 | 0,_,_=>none
 | k + 1,x0,x4=>if x0 > 127 then (if x4.length < 140737488355328 then (impl_VarText.l0 k (wrap64 (Int.tdiv x0 128)) (x4 ++ [(wrap64 ((Int.tmod x0 128) + 128)) % 256])) else (none)) else (if x4.length < 140737488355328 then (some (strOfNums (x4 ++ [(x0) % 256]),true)) else (none))
def impl_VarText.f (k : Nat) (a0 : Int) : Option (ByteArray × Bool):=(impl_in.f a0 0 1000000000).bind fun t143=>(if t143 = true then (impl_VarText.l0 k a0 ([] : List Int)) else (some ((⟨#[]⟩ : ByteArray),false)))
theorem impl_VarText.mono_l : ∀ k,(∀ y0 y1,LeO (impl_VarText.l0 k y0 y1) (impl_VarText.l0 (k + 1) y0 y1))
 | 0=>fun _ _ r h=>by simp [impl_VarText.l0] at h
 | k + 1=>by
  have ih0:=impl_VarText.mono_l k
  ·intro y0 y1
   unfold impl_VarText.l0
   repeat' first
   | (with_reducible exact ih0 _ _)
   | (with_reducible exact LeO.refl _)
   | (with_reducible exact LeO.none _)
   | (with_reducible refine LeO.ite ?_ ?_)
   | (with_reducible refine LeO.bind ?_ (fun _=>?_))
   | exact ih0 _ _
   | exact LeO.none _
   | refine LeO.ite ?_ ?_
   | refine LeO.bind ?_ (fun _=>?_)
theorem impl_VarText.mono : ∀ a0 k,LeO (impl_VarText.f k a0) (impl_VarText.f (k + 1) a0):=by
 intro a0 k
 have ih0:=impl_VarText.mono_l k
 unfold impl_VarText.f
 repeat' first
   | (with_reducible exact ih0 _ _)
   | (with_reducible exact LeO.refl _)
   | (with_reducible exact LeO.none _)
   | (with_reducible refine LeO.ite ?_ ?_)
   | (with_reducible refine LeO.bind ?_ (fun _=>?_))
   | exact ih0 _ _
   | exact LeO.none _
   | refine LeO.ite ?_ ?_
   | refine LeO.bind ?_ (fun _=>?_)
set_option maxHeartbeats 8000000 in
set_option maxRecDepth 100000 in
theorem impl_VarText.calls (k : Nat) (a0 : Int) (r1 : ByteArray) (r2 : Bool) (w : World) (h : impl_VarText.f k a0 = some (r1,r2)) :
  Calls Try.prog 95 #[.int .i64 a0] w fun e w'=>e = .returned (.tuple #[.string r1,.bool r2]) ∧ Below w.heap.size w w':=by
 have HB:=qn.mk (Below.refl w.heap.size w)
 have H : ((impl_in.f a0 0 1000000000).bind fun t143=>(if t143 = true then (impl_VarText.l0 k a0 ([] : List Int)) else (some ((⟨#[]⟩ : ByteArray),false)))) = some (r1,r2):=h
 clear h
 replace H:=Option.bind_eq_some_iff.mp H
 obtain ⟨t143,A20,H⟩:=H
 replace H : (if t143 = true then (impl_VarText.l0 k a0 ([] : List Int)) else (some ((⟨#[]⟩ : ByteArray),false))) = some (r1,r2):=H
 have A2:=qn.mk A20
 clear A20
 by_cases c3 : t143 = true
 ·subst c3
  have H1 : (impl_VarText.l0 k a0 ([] : List Int)) = some (r1,r2):=by rw [if_pos rfl] at H;exact H
  clear H
  have H:=H1
  clear H1
  have H':=qn.mk H
  clear H
  go_enter Try.func95,Try.ntmps95
  go_wp2_with (first|((with_reducible refine gate_callee (f:=59) rfl ?_);refine goesL_ (some 6) rfl rfl Try.func59 (by kernel_rfl) rfl #[.int .i64 a0,.int .i64 0,.int .i64 1000000000] rfl (by (try simp only [List.map_toArray,List.map_cons,List.map_nil]);first|done|rfl|(simp only [List.length_drop,List.length_take];rfl)) ?_;(with_reducible refine (impl_in.calls a0 0 1000000000 true _ A2.out).mono ?_);rintro e w' ⟨rfl,⟨nd,rfl⟩⟩;refine ⟨_,rfl,?_⟩))
  go_loopg [0,4] k (fun kq v0 v4 w'=>∃ (x0_1 : Int) (x4_1 : List Int),v0 = .int .i64 x0_1 ∧ qn (impl_VarText.l0 kq x0_1 x4_1 = some (r1,r2)) ∧ qn (kq ≤ k) ∧ qn (Kd.R (Kd.int .u8) 5 w' w.heap.size (fun _=>True) v4 x4_1) ∧ qn (Below w.heap.size w w'))
  case atStart=>exact ⟨(a0),(([] : List Int)),(by first|rfl|(simp;done)|(simp [*];done)),H',⟨Nat.le_refl _⟩,⟨by first|exact Kd.R_nil _ _ _ _ _|exact Kd.N_nil _ _ _ _ _|exact Kd.V_nil _ _ _ _ _|exact Kd.Q_nil _ _ _ _ _|exact Kd.S_nil _ _ _ _ _⟩,⟨by repeat (first|(with_reducible first|exact HB.out|apply qf|apply qa|apply qd)|exact HB.out)⟩⟩
  case round =>
   clear H'
   try clear p2
   try clear c3
   obtain ⟨x0_1,x4_1,rfl,HA,HK1,HO_4,HB⟩:=hrel
   cases gk with
   | zero=>exact absurd HA.out (by simp [impl_VarText.l0])
   | succ k1 =>
    have H:=HA.out
    clear HA
    simp only [impl_VarText.l0] at H
    by_cases c4 : x0_1 > 127
    ·rw [if_pos c4] at H
     have c4b0 : decide (127 < x0_1) = true:=decide_eq_true c4
     clear c4
     by_cases c5 : x4_1.length < 140737488355328
     ·rw [if_pos c5] at H
      have LMc5:=qn.mk c5
      clear c5
      obtain ⟨y144,hy144⟩ : ∃ y_ : List Int,y_ = (x4_1 ++ [(wrap64 ((Int.tmod x0_1 128) + 128)) % 256]):=⟨_,rfl⟩
      replace H : (impl_VarText.l0 k1 (wrap64 (Int.tdiv x0_1 128)) y144) = some (r1,r2):=by first|(rw [hy144];with_reducible exact H)|(have H2_:=(Option.bind_some _ _).symm.trans H;rw [hy144];with_reducible exact H2_)|(have H2_:=(Option.bind_some _ _).symm.trans H;with_reducible exact H2_)|with_reducible exact H|(rw [hy144];exact H)|exact H
      have Ny144:=qn.mk hy144
      clear hy144
      have H':=qn.mk H
      clear H
      go_wp2_with (first|((with_reducible refine gate_builtin (b:=.append) (xs:=#[.tmp 10,.tmp 15]) rfl ?_);at_builtin;refine Kd.R_append (Kd.int .u8) (w0:=w) w.heap.size rfl (.tmp 10) (.tmp 15) 22 5 (.int .u8 0) 1 rfl Try.underlying22 info5 rfl (by decide) (by omega) u4 x4_1 ((wrap64 ((Int.tmod x0_1 128) + 128)) % 256) [.int .u8 ((wrap64 ((Int.tmod x0_1 128) + 128)) % 256)] (fun _=>True) (fun _=>False) rfl rfl ?aP (fun _ hk=>hk.elim) ?aF ?aO ?aB ?aS ?aL ?_;(case aP=>exact rfl);(case aB=>exact (by repeat (first|(with_reducible first|exact HB.out|apply qf|apply qa|apply qd)|exact HB.out)));(case aF=>exact (fun _ _=>trivial));(case aO=>exact (by (with_reducible repeat (first|apply Kd.R_alloc|apply Kd.R_drewN|apply Kd.R_drew));exact HO_4.out));(case aS=>exact (qj (by repeat (first|(with_reducible first|exact HB.out|apply qf|apply qa|apply qd)|exact HB.out))));(case aL=>have:=LMc5.out;omega);intro v145 w6 ho hb hg hat;rw [← Ny144.out] at ho;have n0_:=qn.mk (hb);have n1_:=qn.mk (ho);clear HB;clear HO_4;have HB:=n0_;have HO146:=n1_;clear n0_ n1_;clear ho hb hg hat))
      go_roundg k1
      case measure=>have:=HK1.out;omega
      case rel=>exact ⟨(wrap64 (Int.tdiv x0_1 128)),(y144),(by first|rfl|(simp;done)|(simp [*];done)),H',⟨by have:=HK1.out;omega⟩,⟨by (with_reducible repeat (first|apply Kd.R_alloc|apply Kd.R_drewN|apply Kd.R_drew));exact HO146.out⟩,⟨by repeat (first|(with_reducible first|exact HB.out|apply qf|apply qa|apply qd)|exact HB.out)⟩⟩
     ·rw [if_neg c5] at H
      exact absurd H (by simp)
    ·rw [if_neg c4] at H
     have c4b0 : decide (127 < x0_1) = false:=decide_eq_false c4
     clear c4
     by_cases c7 : x4_1.length < 140737488355328
     ·rw [if_pos c7] at H
      have LMc7:=qn.mk c7
      clear c7
      obtain ⟨y147,hy147⟩ : ∃ y_ : List Int,y_ = (x4_1 ++ [(x0_1) % 256]):=⟨_,rfl⟩
      replace H : (some (strOfNums y147,true)) = some (r1,r2):=by first|(rw [hy147];with_reducible exact H)|(have H2_:=(Option.bind_some _ _).symm.trans H;rw [hy147];with_reducible exact H2_)|(have H2_:=(Option.bind_some _ _).symm.trans H;with_reducible exact H2_)|with_reducible exact H|(rw [hy147];exact H)|exact H
      have Ny147:=qn.mk hy147
      clear hy147
      simp only [Option.some.injEq,Prod.mk.injEq] at H
      obtain ⟨rfl,rfl⟩:=H
      go_wp2_with (first|((with_reducible refine gate_builtin (b:=.append) (xs:=#[.tmp 19,.tmp 22]) rfl ?_);at_builtin;refine Kd.R_append (Kd.int .u8) (w0:=w) w.heap.size rfl (.tmp 19) (.tmp 22) 22 5 (.int .u8 0) 1 rfl Try.underlying22 info5 rfl (by decide) (by omega) u4 x4_1 ((x0_1) % 256) [.int .u8 ((x0_1) % 256)] (fun _=>True) (fun _=>False) rfl rfl ?aP (fun _ hk=>hk.elim) ?aF ?aO ?aB ?aS ?aL ?_;(case aP=>exact rfl);(case aB=>exact (by repeat (first|(with_reducible first|exact HB.out|apply qf|apply qa|apply qd)|exact HB.out)));(case aF=>exact (fun _ _=>trivial));(case aO=>exact (by (with_reducible repeat (first|apply Kd.R_alloc|apply Kd.R_drewN|apply Kd.R_drew));exact HO_4.out));(case aS=>exact (qj (by repeat (first|(with_reducible first|exact HB.out|apply qf|apply qa|apply qd)|exact HB.out))));(case aL=>have:=LMc7.out;omega);intro v148 w8 ho hb hg hat;rw [← Ny147.out] at ho;have n0_:=qn.mk (hb);have n1_:=qn.mk (ho);clear HB;clear HO_4;have HB:=n0_;have HO149:=n1_;clear n0_ n1_;clear ho hb hg hat;have hcv9:=own_string (P:=Try.prog) Try.underlying22 Try.underlying5 Try.underlying9 (Kd.own_of_R HO149.out)))
      go_ret2
      exact ⟨by first|rfl|(simp [errW_none,errW_some] <;> rfl)|(simp [*,errW_none,errW_some] <;> rfl),by repeat (first|(with_reducible first|exact HB.out|apply qf|apply qa|apply qd)|exact HB.out)⟩
     ·rw [if_neg c7] at H
      exact absurd H (by simp)
 ·replace c3:=Bool.eq_false_iff.mpr c3
  subst c3
  have H1 : (some ((⟨#[]⟩ : ByteArray),false)) = some (r1,r2):=by rw [if_neg (show ¬ (false = true) by decide)] at H;exact H
  clear H
  have H:=H1
  clear H1
  simp only [Option.some.injEq,Prod.mk.injEq] at H
  obtain ⟨rfl,rfl⟩:=H
  go_enter Try.func95,Try.ntmps95
  go_wp2_with (first|((with_reducible refine gate_callee (f:=59) rfl ?_);refine goesL_ (some 6) rfl rfl Try.func59 (by kernel_rfl) rfl #[.int .i64 a0,.int .i64 0,.int .i64 1000000000] rfl (by (try simp only [List.map_toArray,List.map_cons,List.map_nil]);first|done|rfl|(simp only [List.length_drop,List.length_take];rfl)) ?_;(with_reducible refine (impl_in.calls a0 0 1000000000 false _ A2.out).mono ?_);rintro e w' ⟨rfl,⟨nd,rfl⟩⟩;refine ⟨_,rfl,?_⟩))
  go_ret2
  exact ⟨by first|rfl|(simp [errW_none,errW_some] <;> rfl)|(simp [*,errW_none,errW_some] <;> rfl),by repeat (first|(with_reducible first|exact HB.out|apply qf|apply qa|apply qd)|exact HB.out)⟩

/-! ### impl_ShortText: function 97 -/
def impl_ShortText.f (k : Nat) (a0 : ByteArray) : Option (ByteArray × Bool):=if (a0.size : Int) > 8000 then (some ((⟨#[]⟩ : ByteArray),false)) else ((impl_VarText.f k (a0.size : Int)).bind fun bt150=>(if bt150.1.size + a0.size ≤ 9223372036854775807 then (some (bt150.1 ++ a0,true)) else (none)))
theorem impl_ShortText.mono : ∀ a0 k,LeO (impl_ShortText.f k a0) (impl_ShortText.f (k + 1) a0):=by
 intro a0 k
 unfold impl_ShortText.f
 repeat' first
   | (with_reducible exact impl_VarText.mono _ _)
   | (with_reducible exact LeO.refl _)
   | (with_reducible exact LeO.none _)
   | (with_reducible refine LeO.ite ?_ ?_)
   | (with_reducible refine LeO.bind ?_ (fun _=>?_))
   | exact impl_VarText.mono _ _
   | exact LeO.none _
   | refine LeO.ite ?_ ?_
   | refine LeO.bind ?_ (fun _=>?_)
set_option maxHeartbeats 8000000 in
set_option maxRecDepth 100000 in
theorem impl_ShortText.calls (k : Nat) (a0 : ByteArray) (r1 : ByteArray) (r2 : Bool) (w : World) (h : impl_ShortText.f k a0 = some (r1,r2)) :
  Calls Try.prog 97 #[.string a0] w fun e w'=>e = .returned (.tuple #[.string r1,.bool r2]) ∧ Below w.heap.size w w':=by
 have HB:=qn.mk (Below.refl w.heap.size w)
 have H : (if (a0.size : Int) > 8000 then (some ((⟨#[]⟩ : ByteArray),false)) else ((impl_VarText.f k (a0.size : Int)).bind fun bt150=>(if bt150.1.size + a0.size ≤ 9223372036854775807 then (some (bt150.1 ++ a0,true)) else (none)))) = some (r1,r2):=h
 clear h
 by_cases c2 : (a0.size : Int) > 8000
 ·rw [if_pos c2] at H
  have c2b0 : decide (8000 < (a0.size : Int)) = true:=decide_eq_true c2
  have c2b1 : decide (8000 < a0.size) = true:=decide_eq_true (by omega)
  clear c2
  simp only [Option.some.injEq,Prod.mk.injEq] at H
  obtain ⟨rfl,rfl⟩:=H
  go_enter Try.func97,Try.ntmps97
  go_wp2
  go_ret2
  exact ⟨by first|rfl|(simp [errW_none,errW_some] <;> rfl)|(simp [*,errW_none,errW_some] <;> rfl),by repeat (first|(with_reducible first|exact HB.out|apply qf|apply qa|apply qd)|exact HB.out)⟩
 ·rw [if_neg c2] at H
  have c2b0 : decide (8000 < (a0.size : Int)) = false:=decide_eq_false c2
  have c2b1 : decide (8000 < a0.size) = false:=decide_eq_false (by omega)
  clear c2
  replace H:=Option.bind_eq_some_iff.mp H
  obtain ⟨⟨t150,t151⟩,A30,H⟩:=H
  replace H : (if t150.size + a0.size ≤ 9223372036854775807 then (some (t150 ++ a0,true)) else (none)) = some (r1,r2):=H
  have A3:=qn.mk A30
  clear A30
  by_cases c4 : t150.size + a0.size ≤ 9223372036854775807
  ·rw [if_pos c4] at H
   have c4b0:=eq_true c4
   have c4b1 : decide (t150.size + a0.size ≤ 9223372036854775807) = true:=decide_eq_true c4
   try have c4b2 : (9223372036854775807 < t150.size + a0.size) = False:=eq_false (Nat.not_lt.2 c4)
   simp only [Option.some.injEq,Prod.mk.injEq] at H
   obtain ⟨rfl,rfl⟩:=H
   go_enter Try.func97,Try.ntmps97
   go_wp2_with (first|((with_reducible refine gate_callee (f:=95) rfl ?_);refine goesL_ (some 12) rfl rfl Try.func95 (by kernel_rfl) rfl #[.int .i64 (a0.size : Int)] rfl (by (try simp only [List.map_toArray,List.map_cons,List.map_nil]);first|done|rfl|(simp only [List.length_drop,List.length_take];rfl)) ?_;(with_reducible refine (impl_VarText.calls k (a0.size : Int) t150 t151 _ A3.out).mono ?_);rintro e w5 ⟨rfl,hb⟩;refine ⟨_,rfl,?_⟩;have n0_:=hs_ HB hb;clear HB;have HB:=n0_;clear n0_;(try clear hb);(try clear hb2);(try clear hk);(try clear hi)))
   go_ret2
   exact ⟨by first|rfl|(simp [errW_none,errW_some] <;> rfl)|(simp [*,errW_none,errW_some] <;> rfl),by repeat (first|(with_reducible first|exact HB.out|apply qf|apply qa|apply qd)|exact HB.out)⟩
  ·rw [if_neg c4] at H
   exact absurd H (by simp)

/-! ### impl_ItemSize: function 54 -/
def impl_ItemSize.f (k : Nat) (a0 : Int) (a1_0 : ByteArray) (a1_1 : ByteArray) (a1_2 : Int) : Option (Int):=(impl_ShortText.f k a1_0).bind fun bt153=>(if a0 = 1 then ((impl_ShortText.f k a1_1).bind fun bt155=>(some (wrap64 ((bt153.1.size : Int) + (bt155.1.size : Int))))) else (if a0 = 2 then ((impl_VarText.f k a1_2).bind fun bt157=>(some (wrap64 ((bt153.1.size : Int) + (bt157.1.size : Int))))) else (some 0)))
theorem impl_ItemSize.mono : ∀ a0 a1 a2 a3 k,LeO (impl_ItemSize.f k a0 a1 a2 a3) (impl_ItemSize.f (k + 1) a0 a1 a2 a3):=by
 intro a0 a1 a2 a3 k
 unfold impl_ItemSize.f
 repeat' first
   | (with_reducible exact impl_ShortText.mono _ _)
   | (with_reducible exact impl_VarText.mono _ _)
   | (with_reducible exact LeO.refl _)
   | (with_reducible exact LeO.none _)
   | (with_reducible refine LeO.ite ?_ ?_)
   | (with_reducible refine LeO.bind ?_ (fun _=>?_))
   | exact impl_ShortText.mono _ _
   | exact impl_VarText.mono _ _
   | exact LeO.none _
   | refine LeO.ite ?_ ?_
   | refine LeO.bind ?_ (fun _=>?_)
set_option maxHeartbeats 8000000 in
set_option maxRecDepth 100000 in
theorem impl_ItemSize.calls (k : Nat) (a0 : Int) (a1_0 : ByteArray) (a1_1 : ByteArray) (a1_2 : Int) (r : Int) (w : World) (h : impl_ItemSize.f k a0 a1_0 a1_1 a1_2 = some r) :
  Calls Try.prog 54 #[.int .i64 a0,.agg #[.string a1_0,.string a1_1,.int .i64 a1_2]] w fun e w'=>e = .returned (.int .i64 r) ∧ Below w.heap.size w w':=by
 have hu61:=Try.underlying61
 have HB:=qn.mk (Below.refl w.heap.size w)
 have H : ((impl_ShortText.f k a1_0).bind fun bt153=>(if a0 = 1 then ((impl_ShortText.f k a1_1).bind fun bt155=>(some (wrap64 ((bt153.1.size : Int) + (bt155.1.size : Int))))) else (if a0 = 2 then ((impl_VarText.f k a1_2).bind fun bt157=>(some (wrap64 ((bt153.1.size : Int) + (bt157.1.size : Int))))) else (some 0)))) = some r:=h
 clear h
 replace H:=Option.bind_eq_some_iff.mp H
 obtain ⟨⟨t153,t154⟩,A30,H⟩:=H
 replace H : (if a0 = 1 then ((impl_ShortText.f k a1_1).bind fun bt155=>(some (wrap64 ((t153.size : Int) + (bt155.1.size : Int))))) else (if a0 = 2 then ((impl_VarText.f k a1_2).bind fun bt157=>(some (wrap64 ((t153.size : Int) + (bt157.1.size : Int))))) else (some 0))) = some r:=H
 have A3:=qn.mk A30
 clear A30
 by_cases c4 : a0 = 1
 ·rw [if_pos c4] at H
  have c4b0 : (a0 == 1) = true:=beq_iff_eq.mpr c4
  have c4b1 : (a0 != 1) = false:=bne_eq_false_iff_eq.mpr c4
  clear c4
  replace H:=Option.bind_eq_some_iff.mp H
  obtain ⟨⟨t155,t156⟩,A50,H⟩:=H
  replace H : (some (wrap64 ((t153.size : Int) + (t155.size : Int)))) = some r:=H
  have A5:=qn.mk A50
  clear A50
  obtain rfl:=Option.some.inj H
  go_enter Try.func54,Try.ntmps54
  go_wp2_with (first|((with_reducible refine gate_dst (N:=3) rfl ?_);refine box_event ?hg (N:=3) ?hd (cs:=#[.string a1_0,.string a1_1,.int .i64 a1_2]) (t:=61) ?hr ?_;(case hd=>rfl);(case hg=>rfl);(case hr=>first|(go_simp;done)|(go_simp;rfl));intro gb152 hg w6 hbox hb;have n0_:=hs_ HB hb;have n1_:=qn.mk (hbox);have n2_:=qn.mk ((by rw [hg];exact (qj (by repeat (first|(with_reducible first|exact HB.out|apply qf|apply qa|apply qd)|exact HB.out))) : w.heap.size ≤ gb152));have n3_:=qn.mk ((by rw [hg];exact (qj (by repeat (first|(with_reducible first|exact HB.out|apply qf|apply qa|apply qd)|exact HB.out))) : w.heap.size ≤ gb152));clear HB;have HB:=n0_;have BK152:=n1_;have GW152:=n2_;have GE152:=n3_;clear n0_ n1_ n2_ n3_;clear hb hbox hg;have hcz7_0 : w6.cell? ⟨gb152,0,none⟩ = some (.string a1_0):=(qh BK152.out 0).trans rfl;have hcz7_1 : w6.cell? ⟨gb152,1,none⟩ = some (.string a1_1):=(qh BK152.out 1).trans rfl;have hcz7_2 : w6.cell? ⟨gb152,2,none⟩ = some (.int .i64 a1_2):=(qh BK152.out 2).trans rfl;have hfz7_0:=qi BK152.out 0;have hfz7_1:=qi BK152.out 1;have hfz7_2:=qi BK152.out 2)|((with_reducible refine gate_callee (f:=97) rfl ?_);refine goesL_ (some 14) rfl rfl Try.func97 (by kernel_rfl) rfl #[.string a1_0] rfl (by (try simp only [List.map_toArray,List.map_cons,List.map_nil]);first|done|rfl|(simp only [List.length_drop,List.length_take];rfl)) ?_;(with_reducible refine (impl_ShortText.calls k a1_0 t153 t154 _ A3.out).mono ?_);rintro e w8 ⟨rfl,hb⟩;refine ⟨_,rfl,?_⟩;have n0_:=bb_ BK152 hb;have n1_:=hs_ HB hb;clear BK152;clear HB;have BK152:=n0_;have HB:=n1_;clear n0_ n1_;(try clear hb);(try clear hb2);(try clear hk);(try clear hi);have hcz9_0 : w8.cell? ⟨gb152,0,none⟩ = some (.string a1_0):=(qh BK152.out 0).trans rfl;have hcz9_1 : w8.cell? ⟨gb152,1,none⟩ = some (.string a1_1):=(qh BK152.out 1).trans rfl;have hcz9_2 : w8.cell? ⟨gb152,2,none⟩ = some (.int .i64 a1_2):=(qh BK152.out 2).trans rfl;have hfz9_0:=qi BK152.out 0;have hfz9_1:=qi BK152.out 1;have hfz9_2:=qi BK152.out 2)|((with_reducible refine gate_callee (f:=97) rfl ?_);refine goesL_ (some 23) rfl rfl Try.func97 (by kernel_rfl) rfl #[.string a1_1] rfl (by (try simp only [List.map_toArray,List.map_cons,List.map_nil]);first|done|rfl|(simp only [List.length_drop,List.length_take];rfl)) ?_;(with_reducible refine (impl_ShortText.calls k a1_1 t155 t156 _ A5.out).mono ?_);rintro e w10 ⟨rfl,hb⟩;refine ⟨_,rfl,?_⟩;have n0_:=bb_ BK152 hb;have n1_:=hs_ HB hb;clear BK152;clear HB;have BK152:=n0_;have HB:=n1_;clear n0_ n1_;(try clear hb);(try clear hb2);(try clear hk);(try clear hi)))
  go_ret
  exact ⟨by first|rfl|(simp [errW_none,errW_some] <;> rfl)|(simp [*,errW_none,errW_some] <;> rfl),by repeat (first|(with_reducible first|exact HB.out|apply qf|apply qa|apply qd|refine qg ?_ GE152.out)|exact HB.out)⟩
 ·rw [if_neg c4] at H
  have c4b0 : (a0 == 1) = false:=beq_eq_false_iff_ne.mpr c4
  have c4b1 : (a0 != 1) = true:=bne_iff_ne.mpr c4
  by_cases c11 : a0 = 2
  ·rw [if_pos c11] at H
   have c11b0 : (a0 == 2) = true:=beq_iff_eq.mpr c11
   have c11b1 : (a0 != 2) = false:=bne_eq_false_iff_eq.mpr c11
   clear c11
   replace H:=Option.bind_eq_some_iff.mp H
   obtain ⟨⟨t157,t158⟩,A120,H⟩:=H
   replace H : (some (wrap64 ((t153.size : Int) + (t157.size : Int)))) = some r:=H
   have A12:=qn.mk A120
   clear A120
   obtain rfl:=Option.some.inj H
   go_enter Try.func54,Try.ntmps54
   go_wp2_with (first|((with_reducible refine gate_dst (N:=3) rfl ?_);refine box_event ?hg (N:=3) ?hd (cs:=#[.string a1_0,.string a1_1,.int .i64 a1_2]) (t:=61) ?hr ?_;(case hd=>rfl);(case hg=>rfl);(case hr=>first|(go_simp;done)|(go_simp;rfl));intro gb152 hg w13 hbox hb;have n0_:=hs_ HB hb;have n1_:=qn.mk (hbox);have n2_:=qn.mk ((by rw [hg];exact (qj (by repeat (first|(with_reducible first|exact HB.out|apply qf|apply qa|apply qd)|exact HB.out))) : w.heap.size ≤ gb152));have n3_:=qn.mk ((by rw [hg];exact (qj (by repeat (first|(with_reducible first|exact HB.out|apply qf|apply qa|apply qd)|exact HB.out))) : w.heap.size ≤ gb152));clear HB;have HB:=n0_;have BK152:=n1_;have GW152:=n2_;have GE152:=n3_;clear n0_ n1_ n2_ n3_;clear hb hbox hg;have hcz14_0 : w13.cell? ⟨gb152,0,none⟩ = some (.string a1_0):=(qh BK152.out 0).trans rfl;have hcz14_1 : w13.cell? ⟨gb152,1,none⟩ = some (.string a1_1):=(qh BK152.out 1).trans rfl;have hcz14_2 : w13.cell? ⟨gb152,2,none⟩ = some (.int .i64 a1_2):=(qh BK152.out 2).trans rfl;have hfz14_0:=qi BK152.out 0;have hfz14_1:=qi BK152.out 1;have hfz14_2:=qi BK152.out 2)|((with_reducible refine gate_callee (f:=97) rfl ?_);refine goesL_ (some 14) rfl rfl Try.func97 (by kernel_rfl) rfl #[.string a1_0] rfl (by (try simp only [List.map_toArray,List.map_cons,List.map_nil]);first|done|rfl|(simp only [List.length_drop,List.length_take];rfl)) ?_;(with_reducible refine (impl_ShortText.calls k a1_0 t153 t154 _ A3.out).mono ?_);rintro e w15 ⟨rfl,hb⟩;refine ⟨_,rfl,?_⟩;have n0_:=bb_ BK152 hb;have n1_:=hs_ HB hb;clear BK152;clear HB;have BK152:=n0_;have HB:=n1_;clear n0_ n1_;(try clear hb);(try clear hb2);(try clear hk);(try clear hi);have hcz16_0 : w15.cell? ⟨gb152,0,none⟩ = some (.string a1_0):=(qh BK152.out 0).trans rfl;have hcz16_1 : w15.cell? ⟨gb152,1,none⟩ = some (.string a1_1):=(qh BK152.out 1).trans rfl;have hcz16_2 : w15.cell? ⟨gb152,2,none⟩ = some (.int .i64 a1_2):=(qh BK152.out 2).trans rfl;have hfz16_0:=qi BK152.out 0;have hfz16_1:=qi BK152.out 1;have hfz16_2:=qi BK152.out 2)|((with_reducible refine gate_callee (f:=95) rfl ?_);refine goesL_ (some 36) rfl rfl Try.func95 (by kernel_rfl) rfl #[.int .i64 a1_2] rfl (by (try simp only [List.map_toArray,List.map_cons,List.map_nil]);first|done|rfl|(simp only [List.length_drop,List.length_take];rfl)) ?_;(with_reducible refine (impl_VarText.calls k a1_2 t157 t158 _ A12.out).mono ?_);rintro e w17 ⟨rfl,hb⟩;refine ⟨_,rfl,?_⟩;have n0_:=bb_ BK152 hb;have n1_:=hs_ HB hb;clear BK152;clear HB;have BK152:=n0_;have HB:=n1_;clear n0_ n1_;(try clear hb);(try clear hb2);(try clear hk);(try clear hi)))
   go_ret
   exact ⟨by first|rfl|(simp [errW_none,errW_some] <;> rfl)|(simp [*,errW_none,errW_some] <;> rfl),by repeat (first|(with_reducible first|exact HB.out|apply qf|apply qa|apply qd|refine qg ?_ GE152.out)|exact HB.out)⟩
  ·rw [if_neg c11] at H
   have c11b0 : (a0 == 2) = false:=beq_eq_false_iff_ne.mpr c11
   have c11b1 : (a0 != 2) = true:=bne_iff_ne.mpr c11
   obtain rfl:=Option.some.inj H
   go_enter Try.func54,Try.ntmps54
   go_wp2_with (first|((with_reducible refine gate_dst (N:=3) rfl ?_);refine box_event ?hg (N:=3) ?hd (cs:=#[.string a1_0,.string a1_1,.int .i64 a1_2]) (t:=61) ?hr ?_;(case hd=>rfl);(case hg=>rfl);(case hr=>first|(go_simp;done)|(go_simp;rfl));intro gb152 hg w18 hbox hb;have n0_:=hs_ HB hb;have n1_:=qn.mk (hbox);have n2_:=qn.mk ((by rw [hg];exact (qj (by repeat (first|(with_reducible first|exact HB.out|apply qf|apply qa|apply qd)|exact HB.out))) : w.heap.size ≤ gb152));have n3_:=qn.mk ((by rw [hg];exact (qj (by repeat (first|(with_reducible first|exact HB.out|apply qf|apply qa|apply qd)|exact HB.out))) : w.heap.size ≤ gb152));clear HB;have HB:=n0_;have BK152:=n1_;have GW152:=n2_;have GE152:=n3_;clear n0_ n1_ n2_ n3_;clear hb hbox hg;have hcz19_0 : w18.cell? ⟨gb152,0,none⟩ = some (.string a1_0):=(qh BK152.out 0).trans rfl;have hcz19_1 : w18.cell? ⟨gb152,1,none⟩ = some (.string a1_1):=(qh BK152.out 1).trans rfl;have hcz19_2 : w18.cell? ⟨gb152,2,none⟩ = some (.int .i64 a1_2):=(qh BK152.out 2).trans rfl;have hfz19_0:=qi BK152.out 0;have hfz19_1:=qi BK152.out 1;have hfz19_2:=qi BK152.out 2)|((with_reducible refine gate_callee (f:=97) rfl ?_);refine goesL_ (some 14) rfl rfl Try.func97 (by kernel_rfl) rfl #[.string a1_0] rfl (by (try simp only [List.map_toArray,List.map_cons,List.map_nil]);first|done|rfl|(simp only [List.length_drop,List.length_take];rfl)) ?_;(with_reducible refine (impl_ShortText.calls k a1_0 t153 t154 _ A3.out).mono ?_);rintro e w20 ⟨rfl,hb⟩;refine ⟨_,rfl,?_⟩;have n0_:=bb_ BK152 hb;have n1_:=hs_ HB hb;clear BK152;clear HB;have BK152:=n0_;have HB:=n1_;clear n0_ n1_;(try clear hb);(try clear hb2);(try clear hk);(try clear hi)))
   go_ret
   exact ⟨by first|rfl|(simp [errW_none,errW_some] <;> rfl)|(simp [*,errW_none,errW_some] <;> rfl),by repeat (first|(with_reducible first|exact HB.out|apply qf|apply qa|apply qd|refine qg ?_ GE152.out)|exact HB.out)⟩

/-! ### impl_itemOk: function 96 -/
def impl_itemOk.f (a0 : Int) (a1_0 : ByteArray) (a1_1 : ByteArray) (a1_2 : Int) : Option (Bool):=if a1_0.toList = ([] : List UInt8) then (some false) else (if a0 = 1 then (some (a1_2 == 0)) else (if a1_1.toList = ([] : List UInt8) then ((impl_in.f a1_2 0 399).bind fun t160=>(some t160)) else (some false)))
set_option maxHeartbeats 8000000 in
set_option maxRecDepth 100000 in
theorem impl_itemOk.calls (a0 : Int) (a1_0 : ByteArray) (a1_1 : ByteArray) (a1_2 : Int) (r : Bool) (w : World) (h : impl_itemOk.f a0 a1_0 a1_1 a1_2 = some r) :
  Calls Try.prog 96 #[.int .i64 a0,.agg #[.string a1_0,.string a1_1,.int .i64 a1_2]] w fun e w'=>e = .returned (.bool r) ∧ Below w.heap.size w w':=by
 have hu61:=Try.underlying61
 have HB:=qn.mk (Below.refl w.heap.size w)
 have H : (if a1_0.toList = ([] : List UInt8) then (some false) else (if a0 = 1 then (some (a1_2 == 0)) else (if a1_1.toList = ([] : List UInt8) then ((impl_in.f a1_2 0 399).bind fun t160=>(some t160)) else (some false)))) = some r:=h
 clear h
 by_cases c3 : a1_0.toList = ([] : List UInt8)
 ·rw [if_pos c3] at H
  have c3b0 : (a1_0.toList == ([] : List UInt8)) = true:=beq_iff_eq.mpr c3
  have c3b1 : (a1_0.toList != ([] : List UInt8)) = false:=bne_eq_false_iff_eq.mpr c3
  clear c3
  obtain rfl:=Option.some.inj H
  go_enter Try.func96,Try.ntmps96
  go_wp2_with (first|((with_reducible refine gate_dst (N:=3) rfl ?_);refine box_event ?hg (N:=3) ?hd (cs:=#[.string a1_0,.string a1_1,.int .i64 a1_2]) (t:=61) ?hr ?_;(case hd=>rfl);(case hg=>rfl);(case hr=>first|(go_simp;done)|(go_simp;rfl));intro gb159 hg w4 hbox hb;have n0_:=hs_ HB hb;have n1_:=qn.mk (hbox);have n2_:=qn.mk ((by rw [hg];exact (qj (by repeat (first|(with_reducible first|exact HB.out|apply qf|apply qa|apply qd)|exact HB.out))) : w.heap.size ≤ gb159));have n3_:=qn.mk ((by rw [hg];exact (qj (by repeat (first|(with_reducible first|exact HB.out|apply qf|apply qa|apply qd)|exact HB.out))) : w.heap.size ≤ gb159));clear HB;have HB:=n0_;have BK159:=n1_;have GW159:=n2_;have GE159:=n3_;clear n0_ n1_ n2_ n3_;clear hb hbox hg;have hcz5_0 : w4.cell? ⟨gb159,0,none⟩ = some (.string a1_0):=(qh BK159.out 0).trans rfl;have hcz5_1 : w4.cell? ⟨gb159,1,none⟩ = some (.string a1_1):=(qh BK159.out 1).trans rfl;have hcz5_2 : w4.cell? ⟨gb159,2,none⟩ = some (.int .i64 a1_2):=(qh BK159.out 2).trans rfl;have hfz5_0:=qi BK159.out 0;have hfz5_1:=qi BK159.out 1;have hfz5_2:=qi BK159.out 2))
  go_ret
  exact ⟨by first|rfl|(simp [errW_none,errW_some] <;> rfl)|(simp [*,errW_none,errW_some] <;> rfl),by repeat (first|(with_reducible first|exact HB.out|apply qf|apply qa|apply qd|refine qg ?_ GE159.out)|exact HB.out)⟩
 ·rw [if_neg c3] at H
  have c3b0 : (a1_0.toList == ([] : List UInt8)) = false:=beq_eq_false_iff_ne.mpr c3
  have c3b1 : (a1_0.toList != ([] : List UInt8)) = true:=bne_iff_ne.mpr c3
  by_cases c6 : a0 = 1
  ·rw [if_pos c6] at H
   have c6b0 : (a0 == 1) = true:=beq_iff_eq.mpr c6
   have c6b1 : (a0 != 1) = false:=bne_eq_false_iff_eq.mpr c6
   clear c6
   obtain rfl:=Option.some.inj H
   go_enter Try.func96,Try.ntmps96
   go_wp2_with (first|((with_reducible refine gate_dst (N:=3) rfl ?_);refine box_event ?hg (N:=3) ?hd (cs:=#[.string a1_0,.string a1_1,.int .i64 a1_2]) (t:=61) ?hr ?_;(case hd=>rfl);(case hg=>rfl);(case hr=>first|(go_simp;done)|(go_simp;rfl));intro gb159 hg w7 hbox hb;have n0_:=hs_ HB hb;have n1_:=qn.mk (hbox);have n2_:=qn.mk ((by rw [hg];exact (qj (by repeat (first|(with_reducible first|exact HB.out|apply qf|apply qa|apply qd)|exact HB.out))) : w.heap.size ≤ gb159));have n3_:=qn.mk ((by rw [hg];exact (qj (by repeat (first|(with_reducible first|exact HB.out|apply qf|apply qa|apply qd)|exact HB.out))) : w.heap.size ≤ gb159));clear HB;have HB:=n0_;have BK159:=n1_;have GW159:=n2_;have GE159:=n3_;clear n0_ n1_ n2_ n3_;clear hb hbox hg;have hcz8_0 : w7.cell? ⟨gb159,0,none⟩ = some (.string a1_0):=(qh BK159.out 0).trans rfl;have hcz8_1 : w7.cell? ⟨gb159,1,none⟩ = some (.string a1_1):=(qh BK159.out 1).trans rfl;have hcz8_2 : w7.cell? ⟨gb159,2,none⟩ = some (.int .i64 a1_2):=(qh BK159.out 2).trans rfl;have hfz8_0:=qi BK159.out 0;have hfz8_1:=qi BK159.out 1;have hfz8_2:=qi BK159.out 2))
   go_ret
   exact ⟨by first|rfl|(simp [errW_none,errW_some] <;> rfl)|(simp [*,errW_none,errW_some] <;> rfl),by repeat (first|(with_reducible first|exact HB.out|apply qf|apply qa|apply qd|refine qg ?_ GE159.out)|exact HB.out)⟩
  ·rw [if_neg c6] at H
   have c6b0 : (a0 == 1) = false:=beq_eq_false_iff_ne.mpr c6
   have c6b1 : (a0 != 1) = true:=bne_iff_ne.mpr c6
   by_cases c9 : a1_1.toList = ([] : List UInt8)
   ·rw [if_pos c9] at H
    have c9b0 : (a1_1.toList == ([] : List UInt8)) = true:=beq_iff_eq.mpr c9
    have c9b1 : (a1_1.toList != ([] : List UInt8)) = false:=bne_eq_false_iff_eq.mpr c9
    clear c9
    replace H:=Option.bind_eq_some_iff.mp H
    obtain ⟨t160,A100,H⟩:=H
    replace H : (some t160) = some r:=H
    have A10:=qn.mk A100
    clear A100
    obtain rfl:=Option.some.inj H
    go_enter Try.func96,Try.ntmps96
    go_wp2_with (first|((with_reducible refine gate_dst (N:=3) rfl ?_);refine box_event ?hg (N:=3) ?hd (cs:=#[.string a1_0,.string a1_1,.int .i64 a1_2]) (t:=61) ?hr ?_;(case hd=>rfl);(case hg=>rfl);(case hr=>first|(go_simp;done)|(go_simp;rfl));intro gb159 hg w11 hbox hb;have n0_:=hs_ HB hb;have n1_:=qn.mk (hbox);have n2_:=qn.mk ((by rw [hg];exact (qj (by repeat (first|(with_reducible first|exact HB.out|apply qf|apply qa|apply qd)|exact HB.out))) : w.heap.size ≤ gb159));have n3_:=qn.mk ((by rw [hg];exact (qj (by repeat (first|(with_reducible first|exact HB.out|apply qf|apply qa|apply qd)|exact HB.out))) : w.heap.size ≤ gb159));clear HB;have HB:=n0_;have BK159:=n1_;have GW159:=n2_;have GE159:=n3_;clear n0_ n1_ n2_ n3_;clear hb hbox hg;have hcz12_0 : w11.cell? ⟨gb159,0,none⟩ = some (.string a1_0):=(qh BK159.out 0).trans rfl;have hcz12_1 : w11.cell? ⟨gb159,1,none⟩ = some (.string a1_1):=(qh BK159.out 1).trans rfl;have hcz12_2 : w11.cell? ⟨gb159,2,none⟩ = some (.int .i64 a1_2):=(qh BK159.out 2).trans rfl;have hfz12_0:=qi BK159.out 0;have hfz12_1:=qi BK159.out 1;have hfz12_2:=qi BK159.out 2)|(go_at_call 59;(with_reducible refine (impl_in.calls a1_2 0 399 t160 _ A10.out).mono ?_);rintro e w' ⟨rfl,⟨nd,rfl⟩⟩))
    go_ret
    exact ⟨by first|rfl|(simp [errW_none,errW_some] <;> rfl)|(simp [*,errW_none,errW_some] <;> rfl),by repeat (first|(with_reducible first|exact HB.out|apply qf|apply qa|apply qd|refine qg ?_ GE159.out)|exact HB.out)⟩
   ·rw [if_neg c9] at H
    have c9b0 : (a1_1.toList == ([] : List UInt8)) = false:=beq_eq_false_iff_ne.mpr c9
    have c9b1 : (a1_1.toList != ([] : List UInt8)) = true:=bne_iff_ne.mpr c9
    obtain rfl:=Option.some.inj H
    go_enter Try.func96,Try.ntmps96
    go_wp2_with (first|((with_reducible refine gate_dst (N:=3) rfl ?_);refine box_event ?hg (N:=3) ?hd (cs:=#[.string a1_0,.string a1_1,.int .i64 a1_2]) (t:=61) ?hr ?_;(case hd=>rfl);(case hg=>rfl);(case hr=>first|(go_simp;done)|(go_simp;rfl));intro gb159 hg w13 hbox hb;have n0_:=hs_ HB hb;have n1_:=qn.mk (hbox);have n2_:=qn.mk ((by rw [hg];exact (qj (by repeat (first|(with_reducible first|exact HB.out|apply qf|apply qa|apply qd)|exact HB.out))) : w.heap.size ≤ gb159));have n3_:=qn.mk ((by rw [hg];exact (qj (by repeat (first|(with_reducible first|exact HB.out|apply qf|apply qa|apply qd)|exact HB.out))) : w.heap.size ≤ gb159));clear HB;have HB:=n0_;have BK159:=n1_;have GW159:=n2_;have GE159:=n3_;clear n0_ n1_ n2_ n3_;clear hb hbox hg;have hcz14_0 : w13.cell? ⟨gb159,0,none⟩ = some (.string a1_0):=(qh BK159.out 0).trans rfl;have hcz14_1 : w13.cell? ⟨gb159,1,none⟩ = some (.string a1_1):=(qh BK159.out 1).trans rfl;have hcz14_2 : w13.cell? ⟨gb159,2,none⟩ = some (.int .i64 a1_2):=(qh BK159.out 2).trans rfl;have hfz14_0:=qi BK159.out 0;have hfz14_1:=qi BK159.out 1;have hfz14_2:=qi BK159.out 2))
    go_ret
    exact ⟨by first|rfl|(simp [errW_none,errW_some] <;> rfl)|(simp [*,errW_none,errW_some] <;> rfl),by repeat (first|(with_reducible first|exact HB.out|apply qf|apply qa|apply qd|refine qg ?_ GE159.out)|exact HB.out)⟩

end Go.Proofs.Ytfmemcffbfahhaa.QFnPages
