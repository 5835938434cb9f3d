/- Lean functions for the Go functions that the law FnTrees reaches, and that each Go function comes to just its Lean function's answer; by a program of this session. -/
import Derived.Test.YtcnoccefdejphaaZFnTreesx0
import Derived.Test.YtcnoccefdejphaaZFnTreesx2
namespace Go.Proofs.Ytcnoccefdejphaa.QFnTrees
open Go.RowKit Go.Proofs.YtcnoccefdejphaaW.PrintWords Go.Proofs.YtcnoccefdejphaaW.PrintLast Go.Proofs.YtcnoccefdejphaaW.PrintMore
attribute [local go_sem] max2_int min2_int max_two min_two max_three min_three max_four min_four   -- for this text's walks alone
set_option linter.unusedVariables false
set_option linter.unusedSimpArgs false

/-! ### impl_VarText: function 89 -/
def impl_VarText.l0 : Nat → Int → List Int → Option (ByteArray × Bool)
 | 0,_,_=>none
 | k + 1,x0,x4=>if x0 > 127 then (if x4.length < 140737488355328 then (impl_VarText.l0 k (wrap64 (Int.tdiv x0 128)) (x4 ++ [(wrap64 ((Int.tmod x0 128) + 128)) % 256])) else (none)) else (if x4.length < 140737488355328 then (some (strOfNums (x4 ++ [(x0) % 256]),true)) else (none))
def impl_VarText.f (k : Nat) (a0 : Int) : Option (ByteArray × Bool):=(impl_in.f a0 0 1000000000).bind fun t119=>(if t119 = true then (impl_VarText.l0 k a0 ([] : List Int)) else (some ((⟨#[]⟩ : ByteArray),false)))
theorem impl_VarText.mono_l : ∀ k,(∀ y0 y1,LeO (impl_VarText.l0 k y0 y1) (impl_VarText.l0 (k + 1) y0 y1))
 | 0=>fun _ _ r h=>by simp [impl_VarText.l0] at h
 | k + 1=>by
  have ih0:=impl_VarText.mono_l k
  intro y0 y1
  unfold impl_VarText.l0
  repeat' first|(with_reducible first|exact ih0 _ _|exact LeO.refl _|exact LeO.none _|refine LeO.ite ?_ ?_|refine LeO.bind ?_ (fun _=>?_))|exact ih0 _ _|exact LeO.none _|refine LeO.ite ?_ ?_|refine LeO.bind ?_ (fun _=>?_)
theorem impl_VarText.mono : ∀ a0 k,LeO (impl_VarText.f k a0) (impl_VarText.f (k + 1) a0):=by
 intro a0 k
 have ih0:=impl_VarText.mono_l k
 unfold impl_VarText.f
 repeat' first|(with_reducible first|exact ih0 _ _|exact LeO.refl _|exact LeO.none _|refine LeO.ite ?_ ?_|refine LeO.bind ?_ (fun _=>?_))|exact ih0 _ _|exact LeO.none _|refine LeO.ite ?_ ?_|refine LeO.bind ?_ (fun _=>?_)
set_option maxHeartbeats 8000000 in
set_option maxRecDepth 100000 in
theorem impl_VarText.calls (k : Nat) (a0 : Int) (r1 : ByteArray) (r2 : Bool) (w : World) (h : impl_VarText.f k a0 = some (r1,r2)) :
  Calls Try.prog 89 #[.int .i64 a0] w fun e w'=>e = .returned (.tuple #[.string r1,.bool r2]) ∧ Below w.heap.size w w':=by
 have HB:=qo.mk (Below.refl w.heap.size w)
 have H : ((impl_in.f a0 0 1000000000).bind fun t119=>(if t119 = true then (impl_VarText.l0 k a0 ([] : List Int)) else (some ((⟨#[]⟩ : ByteArray),false)))) = some (r1,r2):=h
 clear h
 replace H:=Option.bind_eq_some_iff.mp H
 obtain ⟨t119,A20,H⟩:=H
 replace H : (if t119 = true then (impl_VarText.l0 k a0 ([] : List Int)) else (some ((⟨#[]⟩ : ByteArray),false))) = some (r1,r2):=H
 have A2:=qo.mk A20
 clear A20
 by_cases c3 : t119 = true
 ·subst c3
  have H1 : (impl_VarText.l0 k a0 ([] : List Int)) = some (r1,r2):=by rw [if_pos rfl] at H;exact H
  clear H
  have H:=H1
  clear H1
  have H':=qo.mk H
  clear H
  go_enter Try.func89,Try.ntmps89
  go_wp2_with (first|((with_reducible refine gate_callee (f:=42) rfl ?_);refine goesL_ (some 6) rfl rfl Try.func42 (by kernel_rfl) rfl #[.int .i64 a0,.int .i64 0,.int .i64 1000000000] rfl sm_ ?_;(with_reducible refine (impl_in.calls a0 0 1000000000 true _ A2.out).mono ?_);rintro e w' ⟨rfl,⟨nd,rfl⟩⟩;refine ⟨_,rfl,?_⟩))
  go_loopg [0,4] k (fun kq v0 v4 w'=>∃ (x0_1 : Int) (x4_1 : List Int),v0 = .int .i64 x0_1 ∧ qo (impl_VarText.l0 kq x0_1 x4_1 = some (r1,r2)) ∧ qo (kq ≤ k) ∧ qo (Kd.R (Kd.int .u8) 5 w' w.heap.size (fun _=>True) v4 x4_1) ∧ qo (Below w.heap.size w w'))
  case atStart=>exact ⟨(a0),(([] : List Int)),rs_,H',⟨Nat.le_refl _⟩,⟨by first|exact Kd.R_nil _ _ _ _ _|exact Kd.N_nil _ _ _ _ _|exact Kd.V_nil _ _ _ _ _|exact Kd.Q_nil _ _ _ _ _|exact Kd.S_nil _ _ _ _ _⟩,⟨hx_⟩⟩
  clear H'
  try clear p2
  try clear c3
  obtain ⟨x0_1,x4_1,rfl,HA,HK1,HO_4,HB⟩:=hrel
  obtain _|k1:=gk
  ·exact absurd HA.out (by simp [impl_VarText.l0])
  have H:=HA.out
  clear HA
  simp only [impl_VarText.l0] at H
  by_cases c4 : x0_1 > 127
  ·rw [if_pos c4] at H
   have c4b0 : decide (127 < x0_1) = true:=decide_eq_true c4
   clear c4
   by_cases c5 : x4_1.length < 140737488355328
   ·rw [if_pos c5] at H
    have LMc5:=qo.mk c5
    clear c5
    obtain ⟨y120,hy120⟩ : ∃ y_ : List Int,y_ = (x4_1 ++ [(wrap64 ((Int.tmod x0_1 128) + 128)) % 256]):=⟨_,rfl⟩
    replace H : (impl_VarText.l0 k1 (wrap64 (Int.tdiv x0_1 128)) y120) = some (r1,r2):=by first|(rw [hy120];with_reducible exact H)|(have H2_:=(Option.bind_some _ _).symm.trans H;rw [hy120];with_reducible exact H2_)|(have H2_:=(Option.bind_some _ _).symm.trans H;with_reducible exact H2_)|with_reducible exact H|(rw [hy120];exact H)|exact H
    have Ny120:=qo.mk hy120
    clear hy120
    have H':=qo.mk H
    clear H
    go_wp2_with (first|((with_reducible refine gate_builtin (b:=.append) (xs:=#[.tmp 10,.tmp 15]) rfl ?_);at_builtin;refine Kd.R_append (Kd.int .u8) (w0:=w) w.heap.size rfl (.tmp 10) (.tmp 15) 46 5 (.int .u8 0) 1 rfl Try.underlying46 info5 rfl (by decide) (by omega) u4 x4_1 ((wrap64 ((Int.tmod x0_1 128) + 128)) % 256) [.int .u8 ((wrap64 ((Int.tmod x0_1 128) + 128)) % 256)] (fun _=>True) (fun _=>False) rfl rfl ?aP (fun _ hk=>hk.elim) ?aF ?aO ?aB ?aS ?aL ?_;(case aP=>exact rfl);(case aB=>exact hx_);(case aF=>exact (fun _ _=>trivial));(case aO=>exact (by (with_reducible repeat (first|apply Kd.R_alloc|apply Kd.R_drewN|apply Kd.R_drew));exact HO_4.out));(case aS=>exact (qk hx_));(case aL=>have:=LMc5.out;omega);intro v121 w6 ho hb hg hat;rw [← Ny120.out] at ho;replace HB:=qo.mk (hb);have HO122:=qo.mk (ho);clear HO_4;clear ho hb hg hat))
    go_roundg k1
    case measure=>have:=HK1.out;omega
    case rel=>exact ⟨(wrap64 (Int.tdiv x0_1 128)),(y120),rs_,H',⟨by have:=HK1.out;omega⟩,⟨by (with_reducible repeat (first|apply Kd.R_alloc|apply Kd.R_drewN|apply Kd.R_drew));exact HO122.out⟩,⟨hx_⟩⟩
   rw [if_neg c5] at H
   exact absurd H (by simp)
  rw [if_neg c4] at H
  have c4b0 : decide (127 < x0_1) = false:=decide_eq_false c4
  clear c4
  by_cases c7 : x4_1.length < 140737488355328
  ·rw [if_pos c7] at H
   have LMc7:=qo.mk c7
   clear c7
   obtain ⟨y123,hy123⟩ : ∃ y_ : List Int,y_ = (x4_1 ++ [(x0_1) % 256]):=⟨_,rfl⟩
   replace H : (some (strOfNums y123,true)) = some (r1,r2):=by first|(rw [hy123];with_reducible exact H)|(have H2_:=(Option.bind_some _ _).symm.trans H;rw [hy123];with_reducible exact H2_)|(have H2_:=(Option.bind_some _ _).symm.trans H;with_reducible exact H2_)|with_reducible exact H|(rw [hy123];exact H)|exact H
   have Ny123:=qo.mk hy123
   clear hy123
   simp only [Option.some.injEq,Prod.mk.injEq] at H
   obtain ⟨rfl,rfl⟩:=H
   go_wp2_with (first|((with_reducible refine gate_builtin (b:=.append) (xs:=#[.tmp 19,.tmp 22]) rfl ?_);at_builtin;refine Kd.R_append (Kd.int .u8) (w0:=w) w.heap.size rfl (.tmp 19) (.tmp 22) 46 5 (.int .u8 0) 1 rfl Try.underlying46 info5 rfl (by decide) (by omega) u4 x4_1 ((x0_1) % 256) [.int .u8 ((x0_1) % 256)] (fun _=>True) (fun _=>False) rfl rfl ?aP (fun _ hk=>hk.elim) ?aF ?aO ?aB ?aS ?aL ?_;(case aP=>exact rfl);(case aB=>exact hx_);(case aF=>exact (fun _ _=>trivial));(case aO=>exact (by (with_reducible repeat (first|apply Kd.R_alloc|apply Kd.R_drewN|apply Kd.R_drew));exact HO_4.out));(case aS=>exact (qk hx_));(case aL=>have:=LMc7.out;omega);intro v124 w8 ho hb hg hat;rw [← Ny123.out] at ho;replace HB:=qo.mk (hb);have HO125:=qo.mk (ho);clear HO_4;clear ho hb hg hat;have hcv9:=own_string (P:=Try.prog) Try.underlying46 Try.underlying5 Try.underlying9 (Kd.own_of_R HO125.out)))
   go_ret2
   exact ⟨rt_,hx_⟩
  rw [if_neg c7] at H
  exact absurd H (by simp)
 replace c3:=Bool.eq_false_iff.mpr c3
 subst c3
 have H1 : (some ((⟨#[]⟩ : ByteArray),false)) = some (r1,r2):=by rw [if_neg (show ¬ (false = true) by decide)] at H;exact H
 clear H
 have H:=H1
 clear H1
 simp only [Option.some.injEq,Prod.mk.injEq] at H
 obtain ⟨rfl,rfl⟩:=H
 go_enter Try.func89,Try.ntmps89
 go_wp2_with (first|((with_reducible refine gate_callee (f:=42) rfl ?_);refine goesL_ (some 6) rfl rfl Try.func42 (by kernel_rfl) rfl #[.int .i64 a0,.int .i64 0,.int .i64 1000000000] rfl sm_ ?_;(with_reducible refine (impl_in.calls a0 0 1000000000 false _ A2.out).mono ?_);rintro e w' ⟨rfl,⟨nd,rfl⟩⟩;refine ⟨_,rfl,?_⟩))
 go_ret2
 exact ⟨rt_,hx_⟩

/-! ### impl_ShortText: function 88 -/
def impl_ShortText.f (k : Nat) (a0 : ByteArray) : Option (ByteArray × Bool):=if (a0.size : Int) > 8000 then (some ((⟨#[]⟩ : ByteArray),false)) else ((impl_VarText.f k (a0.size : Int)).bind fun bt126=>(if bt126.1.size + a0.size ≤ 9223372036854775807 then (some (bt126.1 ++ a0,true)) else (none)))
theorem impl_ShortText.mono : ∀ a0 k,LeO (impl_ShortText.f k a0) (impl_ShortText.f (k + 1) a0):=by
 intro a0 k
 unfold impl_ShortText.f
 repeat' first|(with_reducible first|exact impl_VarText.mono _ _|exact LeO.refl _|exact LeO.none _|refine LeO.ite ?_ ?_|refine LeO.bind ?_ (fun _=>?_))|exact impl_VarText.mono _ _|exact LeO.none _|refine LeO.ite ?_ ?_|refine LeO.bind ?_ (fun _=>?_)
set_option maxHeartbeats 8000000 in
set_option maxRecDepth 100000 in
theorem impl_ShortText.calls (k : Nat) (a0 : ByteArray) (r1 : ByteArray) (r2 : Bool) (w : World) (h : impl_ShortText.f k a0 = some (r1,r2)) :
  Calls Try.prog 88 #[.string a0] w fun e w'=>e = .returned (.tuple #[.string r1,.bool r2]) ∧ Below w.heap.size w w':=by
 have HB:=qo.mk (Below.refl w.heap.size w)
 have H : (if (a0.size : Int) > 8000 then (some ((⟨#[]⟩ : ByteArray),false)) else ((impl_VarText.f k (a0.size : Int)).bind fun bt126=>(if bt126.1.size + a0.size ≤ 9223372036854775807 then (some (bt126.1 ++ a0,true)) else (none)))) = some (r1,r2):=h
 clear h
 by_cases c2 : (a0.size : Int) > 8000
 ·rw [if_pos c2] at H
  have c2b0 : decide (8000 < (a0.size : Int)) = true:=decide_eq_true c2
  have c2b1 : decide (8000 < a0.size) = true:=decide_eq_true (by omega)
  clear c2
  simp only [Option.some.injEq,Prod.mk.injEq] at H
  obtain ⟨rfl,rfl⟩:=H
  go_enter Try.func88,Try.ntmps88
  go_wp2
  go_ret2
  exact ⟨rt_,hx_⟩
 rw [if_neg c2] at H
 have c2b0 : decide (8000 < (a0.size : Int)) = false:=decide_eq_false c2
 have c2b1 : decide (8000 < a0.size) = false:=decide_eq_false (by omega)
 clear c2
 replace H:=Option.bind_eq_some_iff.mp H
 obtain ⟨⟨t126,t127⟩,A30,H⟩:=H
 replace H : (if t126.size + a0.size ≤ 9223372036854775807 then (some (t126 ++ a0,true)) else (none)) = some (r1,r2):=H
 have A3:=qo.mk A30
 clear A30
 by_cases c4 : t126.size + a0.size ≤ 9223372036854775807
 ·rw [if_pos c4] at H
  have c4b0:=eq_true c4
  have c4b1 : decide (t126.size + a0.size ≤ 9223372036854775807) = true:=decide_eq_true c4
  try have c4b2 : (9223372036854775807 < t126.size + a0.size) = False:=eq_false (Nat.not_lt.2 c4)
  simp only [Option.some.injEq,Prod.mk.injEq] at H
  obtain ⟨rfl,rfl⟩:=H
  go_enter Try.func88,Try.ntmps88
  go_wp2_with (first|((with_reducible refine gate_callee (f:=89) rfl ?_);refine goesL_ (some 12) rfl rfl Try.func89 (by kernel_rfl) rfl #[.int .i64 (a0.size : Int)] rfl sm_ ?_;(with_reducible refine (impl_VarText.calls k (a0.size : Int) t126 t127 _ A3.out).mono ?_);rintro e w5 ⟨rfl,hb⟩;refine ⟨_,rfl,?_⟩;replace HB:=hs_ HB hb;(try clear hb);(try clear hb2);(try clear hk);(try clear hi)))
  go_ret2
  exact ⟨rt_,hx_⟩
 rw [if_neg c4] at H
 exact absurd H (by simp)

/-! ### impl_ItemSize: function 69 -/
def impl_ItemSize.f (k : Nat) (a0 : Int) (a1_0 : ByteArray) (a1_1 : ByteArray) (a1_2 : Int) : Option (Int):=(impl_ShortText.f k a1_0).bind fun bt129=>(if a0 = 1 then ((impl_ShortText.f k a1_1).bind fun bt131=>(some (wrap64 ((bt129.1.size : Int) + (bt131.1.size : Int))))) else (if a0 = 2 then ((impl_VarText.f k a1_2).bind fun bt133=>(some (wrap64 ((bt129.1.size : Int) + (bt133.1.size : Int))))) else (some 0)))
theorem impl_ItemSize.mono : ∀ a0 a1 a2 a3 k,LeO (impl_ItemSize.f k a0 a1 a2 a3) (impl_ItemSize.f (k + 1) a0 a1 a2 a3):=by
 intro a0 a1 a2 a3 k
 unfold impl_ItemSize.f
 repeat' first|(with_reducible first|exact impl_ShortText.mono _ _|exact impl_VarText.mono _ _|exact LeO.refl _|exact LeO.none _|refine LeO.ite ?_ ?_|refine LeO.bind ?_ (fun _=>?_))|exact impl_ShortText.mono _ _|exact impl_VarText.mono _ _|exact LeO.none _|refine LeO.ite ?_ ?_|refine LeO.bind ?_ (fun _=>?_)
set_option maxHeartbeats 8000000 in
set_option maxRecDepth 100000 in
theorem impl_ItemSize.calls (k : Nat) (a0 : Int) (a1_0 : ByteArray) (a1_1 : ByteArray) (a1_2 : Int) (r : Int) (w : World) (h : impl_ItemSize.f k a0 a1_0 a1_1 a1_2 = some r) :
  Calls Try.prog 69 #[.int .i64 a0,.agg #[.string a1_0,.string a1_1,.int .i64 a1_2]] w fun e w'=>e = .returned (.int .i64 r) ∧ Below w.heap.size w w':=by
 have hu71:=Try.underlying71
 have HB:=qo.mk (Below.refl w.heap.size w)
 have H : ((impl_ShortText.f k a1_0).bind fun bt129=>(if a0 = 1 then ((impl_ShortText.f k a1_1).bind fun bt131=>(some (wrap64 ((bt129.1.size : Int) + (bt131.1.size : Int))))) else (if a0 = 2 then ((impl_VarText.f k a1_2).bind fun bt133=>(some (wrap64 ((bt129.1.size : Int) + (bt133.1.size : Int))))) else (some 0)))) = some r:=h
 clear h
 replace H:=Option.bind_eq_some_iff.mp H
 obtain ⟨⟨t129,t130⟩,A30,H⟩:=H
 replace H : (if a0 = 1 then ((impl_ShortText.f k a1_1).bind fun bt131=>(some (wrap64 ((t129.size : Int) + (bt131.1.size : Int))))) else (if a0 = 2 then ((impl_VarText.f k a1_2).bind fun bt133=>(some (wrap64 ((t129.size : Int) + (bt133.1.size : Int))))) else (some 0))) = some r:=H
 have A3:=qo.mk A30
 clear A30
 by_cases c4 : a0 = 1
 ·rw [if_pos c4] at H
  have c4b0 : (a0 == 1) = true:=beq_iff_eq.mpr c4
  have c4b1 : (a0 != 1) = false:=bne_eq_false_iff_eq.mpr c4
  clear c4
  replace H:=Option.bind_eq_some_iff.mp H
  obtain ⟨⟨t131,t132⟩,A50,H⟩:=H
  replace H : (some (wrap64 ((t129.size : Int) + (t131.size : Int)))) = some r:=H
  have A5:=qo.mk A50
  clear A50
  obtain rfl:=Option.some.inj H
  go_enter Try.func69,Try.ntmps69
  go_wp2_with (first|((with_reducible refine gate_dst (N:=3) rfl ?_);refine box_event ?hg (N:=3) ?hd (cs:=#[.string a1_0,.string a1_1,.int .i64 a1_2]) (t:=71) ?hr ?_;(case hd=>rfl);(case hg=>rfl);(case hr=>first|(go_simp;done)|(go_simp;rfl));intro gb128 hg w6 hbox hb;have BK128:=qo.mk (hbox);have GW128:=hl_ (w:=w) hg;have GE128:=hl_ (w:=w) hg;replace HB:=hs_ HB hb;clear hb hbox hg;obtain ⟨hcz7_0,hcz7_1,hcz7_2,hfz7_0,hfz7_1,hfz7_2⟩:=c3f_ BK128.out)|((with_reducible refine gate_callee (f:=88) rfl ?_);refine goesL_ (some 14) rfl rfl Try.func88 (by kernel_rfl) rfl #[.string a1_0] rfl sm_ ?_;(with_reducible refine (impl_ShortText.calls k a1_0 t129 t130 _ A3.out).mono ?_);rintro e w8 ⟨rfl,hb⟩;refine ⟨_,rfl,?_⟩;replace BK128:=bb_ BK128 hb;replace HB:=hs_ HB hb;(try clear hb);(try clear hb2);(try clear hk);(try clear hi);obtain ⟨hcz9_0,hcz9_1,hcz9_2,hfz9_0,hfz9_1,hfz9_2⟩:=c3f_ BK128.out)|((with_reducible refine gate_callee (f:=88) rfl ?_);refine goesL_ (some 23) rfl rfl Try.func88 (by kernel_rfl) rfl #[.string a1_1] rfl sm_ ?_;(with_reducible refine (impl_ShortText.calls k a1_1 t131 t132 _ A5.out).mono ?_);rintro e w10 ⟨rfl,hb⟩;refine ⟨_,rfl,?_⟩;replace BK128:=bb_ BK128 hb;replace HB:=hs_ HB hb;(try clear hb);(try clear hb2);(try clear hk);(try clear hi)))
  go_ret
  exact ⟨rt_,hx_⟩
 rw [if_neg c4] at H
 have c4b0 : (a0 == 1) = false:=beq_eq_false_iff_ne.mpr c4
 have c4b1 : (a0 != 1) = true:=bne_iff_ne.mpr c4
 by_cases c11 : a0 = 2
 ·rw [if_pos c11] at H
  have c11b0 : (a0 == 2) = true:=beq_iff_eq.mpr c11
  have c11b1 : (a0 != 2) = false:=bne_eq_false_iff_eq.mpr c11
  clear c11
  replace H:=Option.bind_eq_some_iff.mp H
  obtain ⟨⟨t133,t134⟩,A120,H⟩:=H
  replace H : (some (wrap64 ((t129.size : Int) + (t133.size : Int)))) = some r:=H
  have A12:=qo.mk A120
  clear A120
  obtain rfl:=Option.some.inj H
  go_enter Try.func69,Try.ntmps69
  go_wp2_with (first|((with_reducible refine gate_dst (N:=3) rfl ?_);refine box_event ?hg (N:=3) ?hd (cs:=#[.string a1_0,.string a1_1,.int .i64 a1_2]) (t:=71) ?hr ?_;(case hd=>rfl);(case hg=>rfl);(case hr=>first|(go_simp;done)|(go_simp;rfl));intro gb128 hg w13 hbox hb;have BK128:=qo.mk (hbox);have GW128:=hl_ (w:=w) hg;have GE128:=hl_ (w:=w) hg;replace HB:=hs_ HB hb;clear hb hbox hg;obtain ⟨hcz14_0,hcz14_1,hcz14_2,hfz14_0,hfz14_1,hfz14_2⟩:=c3f_ BK128.out)|((with_reducible refine gate_callee (f:=88) rfl ?_);refine goesL_ (some 14) rfl rfl Try.func88 (by kernel_rfl) rfl #[.string a1_0] rfl sm_ ?_;(with_reducible refine (impl_ShortText.calls k a1_0 t129 t130 _ A3.out).mono ?_);rintro e w15 ⟨rfl,hb⟩;refine ⟨_,rfl,?_⟩;replace BK128:=bb_ BK128 hb;replace HB:=hs_ HB hb;(try clear hb);(try clear hb2);(try clear hk);(try clear hi);obtain ⟨hcz16_0,hcz16_1,hcz16_2,hfz16_0,hfz16_1,hfz16_2⟩:=c3f_ BK128.out)|((with_reducible refine gate_callee (f:=89) rfl ?_);refine goesL_ (some 36) rfl rfl Try.func89 (by kernel_rfl) rfl #[.int .i64 a1_2] rfl sm_ ?_;(with_reducible refine (impl_VarText.calls k a1_2 t133 t134 _ A12.out).mono ?_);rintro e w17 ⟨rfl,hb⟩;refine ⟨_,rfl,?_⟩;replace BK128:=bb_ BK128 hb;replace HB:=hs_ HB hb;(try clear hb);(try clear hb2);(try clear hk);(try clear hi)))
  go_ret
  exact ⟨rt_,hx_⟩
 rw [if_neg c11] at H
 have c11b0 : (a0 == 2) = false:=beq_eq_false_iff_ne.mpr c11
 have c11b1 : (a0 != 2) = true:=bne_iff_ne.mpr c11
 obtain rfl:=Option.some.inj H
 go_enter Try.func69,Try.ntmps69
 go_wp2_with (first|((with_reducible refine gate_dst (N:=3) rfl ?_);refine box_event ?hg (N:=3) ?hd (cs:=#[.string a1_0,.string a1_1,.int .i64 a1_2]) (t:=71) ?hr ?_;(case hd=>rfl);(case hg=>rfl);(case hr=>first|(go_simp;done)|(go_simp;rfl));intro gb128 hg w18 hbox hb;have BK128:=qo.mk (hbox);have GW128:=hl_ (w:=w) hg;have GE128:=hl_ (w:=w) hg;replace HB:=hs_ HB hb;clear hb hbox hg;obtain ⟨hcz19_0,hcz19_1,hcz19_2,hfz19_0,hfz19_1,hfz19_2⟩:=c3f_ BK128.out)|((with_reducible refine gate_callee (f:=88) rfl ?_);refine goesL_ (some 14) rfl rfl Try.func88 (by kernel_rfl) rfl #[.string a1_0] rfl sm_ ?_;(with_reducible refine (impl_ShortText.calls k a1_0 t129 t130 _ A3.out).mono ?_);rintro e w20 ⟨rfl,hb⟩;refine ⟨_,rfl,?_⟩;replace BK128:=bb_ BK128 hb;replace HB:=hs_ HB hb;(try clear hb);(try clear hb2);(try clear hk);(try clear hi)))
 go_ret
 exact ⟨rt_,hx_⟩

/-! ### impl_SumMore: function 103 -/
mutual
def impl_SumMore.l0 : Nat → Int → ByteArray → Int → Int → Option (Int)
 | 0,_,_,_,_=>none
 | k + 1,x0,x1,x8,x9=>if x9 < x8 then (if 0 ≤ x9 then (if x9 < (x1.size : Int) then (impl_SumMore.l1 k (Go.bits .xor .u32 x0 ((bt x1 x9) % 4294967296)) x1 x8 x9 0) else (none)) else (none)) else (some x0)
def impl_SumMore.l1 : Nat → Int → ByteArray → Int → Int → Int → Option (Int)
 | 0,_,_,_,_,_=>none
 | k + 1,x0,x1,x8,x9,x18=>if x18 < 8 then (if (Go.bits .and .u32 x0 1) = 1 then (impl_SumMore.l1 k (Go.bits .xor .u32 (x0 / 2) 3558460437) x1 x8 x9 (wrap64 (x18 + 1))) else (impl_SumMore.l1 k (x0 / 2) x1 x8 x9 (wrap64 (x18 + 1)))) else (impl_SumMore.l0 k x0 x1 x8 (wrap64 (x9 + 1)))
end
def impl_SumMore.f (k : Nat) (a0 : Int) (a1 : ByteArray) : Option (Int):=impl_SumMore.l0 k a0 a1 (a1.size : Int) 0
theorem impl_SumMore.mono_l : ∀ k,(∀ y0 y1 y2 y3,LeO (impl_SumMore.l0 k y0 y1 y2 y3) (impl_SumMore.l0 (k + 1) y0 y1 y2 y3)) ∧ (∀ y0 y1 y2 y3 y4,LeO (impl_SumMore.l1 k y0 y1 y2 y3 y4) (impl_SumMore.l1 (k + 1) y0 y1 y2 y3 y4))
 | 0=>⟨fun _ _ _ _ r h=>by simp [impl_SumMore.l0] at h,fun _ _ _ _ _ r h=>by simp [impl_SumMore.l1] at h⟩
 | k + 1=>by
  obtain ⟨ih0,ih1⟩:=impl_SumMore.mono_l k
  refine ⟨?_,?_⟩ <;> intros <;> first|unfold impl_SumMore.l0|unfold impl_SumMore.l1
  all_goals repeat' first|(with_reducible first|exact ih0 _ _ _ _|exact ih1 _ _ _ _ _|exact LeO.refl _|exact LeO.none _|refine LeO.ite ?_ ?_|refine LeO.bind ?_ (fun _=>?_))|exact ih0 _ _ _ _|exact ih1 _ _ _ _ _|exact LeO.none _|refine LeO.ite ?_ ?_|refine LeO.bind ?_ (fun _=>?_)
theorem impl_SumMore.mono : ∀ a0 a1 k,LeO (impl_SumMore.f k a0 a1) (impl_SumMore.f (k + 1) a0 a1):=by
 intro a0 a1 k
 obtain ⟨ih0,ih1⟩:=impl_SumMore.mono_l k
 unfold impl_SumMore.f
 repeat' first|(with_reducible first|exact ih0 _ _ _ _|exact ih1 _ _ _ _ _|exact LeO.refl _|exact LeO.none _|refine LeO.ite ?_ ?_|refine LeO.bind ?_ (fun _=>?_))|exact ih0 _ _ _ _|exact ih1 _ _ _ _ _|exact LeO.none _|refine LeO.ite ?_ ?_|refine LeO.bind ?_ (fun _=>?_)
set_option maxHeartbeats 8000000 in
set_option maxRecDepth 100000 in
theorem impl_SumMore.calls (k : Nat) (a0 : Int) (a1 : ByteArray) (r : Int) (w : World) (h : impl_SumMore.f k a0 a1 = some r) :
  Calls Try.prog 103 #[.int .u32 a0,.string a1] w fun e w'=>e = .returned (.int .u32 r) ∧ Drawn0 w w':=by
 have H : (impl_SumMore.l0 k a0 a1 (a1.size : Int) 0) = some r:=h
 clear h
 have H':=qo.mk H
 clear H
 go_enter Try.func103,Try.ntmps103
 go_wp2
 go_loopg [0,9] k (fun kq v0 v9 w'=>∃ (x0_1 : Int) (x9_1 : Int),v0 = .int .u32 x0_1 ∧ v9 = .int .i64 x9_1 ∧ qo (impl_SumMore.l0 kq x0_1 a1 (a1.size : Int) x9_1 = some r) ∧ qo (kq ≤ k) ∧ Drawn0 w w')
 case atStart=>exact ⟨(a0),(0),rs_,rs_,H',⟨Nat.le_refl _⟩,by repeat (first|exact Drawn0.refl _|apply Drawn0.step)⟩
 clear H'
 try clear c1
 try clear p2
 obtain ⟨x0_1,x9_1,rfl,rfl,HA,HK1,⟨m1,rfl⟩⟩:=hrel
 obtain _|k1:=gk
 ·exact absurd HA.out (by simp [impl_SumMore.l0])
 have H:=HA.out
 clear HA
 simp only [impl_SumMore.l0] at H
 by_cases c3 : x9_1 < (a1.size : Int)
 ·rw [if_pos c3] at H
  have c3b0 : decide (x9_1 < (a1.size : Int)) = true:=decide_eq_true c3
  clear c3
  by_cases c4 : 0 ≤ x9_1
  ·rw [if_pos c4] at H
   have c4b0 : decide (0 ≤ x9_1) = true:=decide_eq_true c4
   clear c4
   by_cases c5 : x9_1 < (a1.size : Int)
   ·rw [if_pos c5] at H
    have c5b0 : decide (x9_1 < (a1.size : Int)) = true:=decide_eq_true c5
    clear c5
    have H':=qo.mk H
    clear H
    have p6 : 0 ≤ (x9_1 : Int):=dt_
    have q6 : x9_1 < (a1.size : Int):=dt_
    have hx6:=bt_at a1 x9_1
    replace p6:=eq_true p6
    replace q6:=eq_true q6
    go_wp2
    go_loopg [0,18] k1 (fun kq v0 v18 w'=>∃ (x0_2 : Int) (x18_2 : Int),v0 = .int .u32 x0_2 ∧ v18 = .int .i64 x18_2 ∧ qo (impl_SumMore.l1 kq x0_2 a1 (a1.size : Int) x9_1 x18_2 = some r) ∧ qo (kq ≤ k1) ∧ Drawn0 w w')
    case atStart=>exact ⟨(Go.bits .xor .u32 x0_1 ((bt a1 x9_1) % 4294967296)),(0),rs_,rs_,H',⟨Nat.le_refl _⟩,by repeat (first|exact Drawn0.refl _|apply Drawn0.step)⟩
    clear H'
    try clear c1
    try clear p2
    try clear c3
    try clear c3b0
    try clear c4
    try clear c4b0
    try clear c5
    try clear c5b0
    try clear p6
    try clear q6
    try clear hx6
    try clear p2
    try clear p6
    try clear q6
    obtain ⟨x0_2,x18_2,rfl,rfl,HA,HK2,⟨m2,rfl⟩⟩:=hrel
    obtain _|k2:=gk
    ·exact absurd HA.out (by simp [impl_SumMore.l1])
    have H:=HA.out
    clear HA
    simp only [impl_SumMore.l1] at H
    by_cases c7 : x18_2 < 8
    ·rw [if_pos c7] at H
     have c7b0 : decide (x18_2 < 8) = true:=decide_eq_true c7
     clear c7
     by_cases c8 : (Go.bits .and .u32 x0_2 1) = 1
     ·rw [if_pos c8] at H
      have c8b0 : ((Go.bits .and .u32 x0_2 1) == 1) = true:=beq_iff_eq.mpr c8
      have c8b1 : ((Go.bits .and .u32 x0_2 1) != 1) = false:=bne_eq_false_iff_eq.mpr c8
      clear c8
      have H':=qo.mk H
      clear H
      go_wp2
      go_roundg k2
      case measure=>have:=HK1.out;have:=HK2.out;omega
      case rel=>exact ⟨(Go.bits .xor .u32 (x0_2 / 2) 3558460437),(wrap64 (x18_2 + 1)),rs_,rs_,H',⟨by have:=HK1.out;have:=HK2.out;omega⟩,by repeat (first|exact Drawn0.refl _|apply Drawn0.step)⟩
     rw [if_neg c8] at H
     have c8b0 : ((Go.bits .and .u32 x0_2 1) == 1) = false:=beq_eq_false_iff_ne.mpr c8
     have c8b1 : ((Go.bits .and .u32 x0_2 1) != 1) = true:=bne_iff_ne.mpr c8
     have H':=qo.mk H
     clear H
     go_wp2
     go_roundg k2
     case measure=>have:=HK1.out;have:=HK2.out;omega
     case rel=>exact ⟨(x0_2 / 2),(wrap64 (x18_2 + 1)),rs_,rs_,H',⟨by have:=HK1.out;have:=HK2.out;omega⟩,by repeat (first|exact Drawn0.refl _|apply Drawn0.step)⟩
    rw [if_neg c7] at H
    have c7b0 : decide (x18_2 < 8) = false:=decide_eq_false c7
    clear c7
    have H':=qo.mk H
    clear H
    go_wp2
    go_roundg k2
    case measure=>have:=HK1.out;have:=HK2.out;omega
    case rel=>exact ⟨(x0_2),(wrap64 (x9_1 + 1)),rs_,rs_,H',⟨by have:=HK1.out;have:=HK2.out;omega⟩,by repeat (first|exact Drawn0.refl _|apply Drawn0.step)⟩
   rw [if_neg c5] at H
   exact absurd H (by simp)
  rw [if_neg c4] at H
  exact absurd H (by simp)
 rw [if_neg c3] at H
 have c3b0 : decide (x9_1 < (a1.size : Int)) = false:=decide_eq_false c3
 clear c3
 obtain rfl:=Option.some.inj H
 go_wp2
 go_ret
 exact ⟨by first|rfl|(simp;done)|(simp [*];done),by repeat (first|exact Drawn0.refl _|apply Drawn0.step)⟩

/-! ### impl_SumOf: function 90 -/
def impl_SumOf.f (k : Nat) (a0 : ByteArray) : Option (Int):=(impl_SumMore.f k 4294967295 a0).bind fun t135=>(some t135)
theorem impl_SumOf.mono : ∀ a0 k,LeO (impl_SumOf.f k a0) (impl_SumOf.f (k + 1) a0):=by
 intro a0 k
 unfold impl_SumOf.f
 repeat' first|(with_reducible first|exact impl_SumMore.mono _ _ _|exact LeO.refl _|exact LeO.none _|refine LeO.ite ?_ ?_|refine LeO.bind ?_ (fun _=>?_))|exact impl_SumMore.mono _ _ _|exact LeO.none _|refine LeO.ite ?_ ?_|refine LeO.bind ?_ (fun _=>?_)
set_option maxHeartbeats 8000000 in
set_option maxRecDepth 100000 in
theorem impl_SumOf.calls (k : Nat) (a0 : ByteArray) (r : Int) (w : World) (h : impl_SumOf.f k a0 = some r) :
  Calls Try.prog 90 #[.string a0] w fun e w'=>e = .returned (.int .u32 r) ∧ Drawn0 w w':=by
 have H : ((impl_SumMore.f k 4294967295 a0).bind fun t135=>(some t135)) = some r:=h
 clear h
 replace H:=Option.bind_eq_some_iff.mp H
 obtain ⟨t135,A20,H⟩:=H
 replace H : (some t135) = some r:=H
 have A2:=qo.mk A20
 clear A20
 obtain rfl:=Option.some.inj H
 go_enter Try.func90,Try.ntmps90
 go_wp2_with (first|((with_reducible refine gate_callee (f:=103) rfl ?_);refine goesL_ (some 4) rfl rfl Try.func103 (by kernel_rfl) rfl #[.int .u32 4294967295,.string a0] rfl sm_ ?_;(with_reducible refine (impl_SumMore.calls k 4294967295 a0 t135 _ A2.out).mono ?_);rintro e w' ⟨rfl,⟨nd,rfl⟩⟩;refine ⟨_,rfl,?_⟩))
 go_ret
 exact ⟨by first|rfl|(simp;done)|(simp [*];done),by repeat (first|exact Drawn0.refl _|apply Drawn0.step)⟩

/-! ### impl_EndsPage: function 70 -/
def impl_EndsPage.f (k : Nat) (a0 : ByteArray) : Option (Bool):=(impl_SumOf.f k a0).bind fun t136=>(some ((Int.tmod t136 4) == 0))
theorem impl_EndsPage.mono : ∀ a0 k,LeO (impl_EndsPage.f k a0) (impl_EndsPage.f (k + 1) a0):=by
 intro a0 k
 unfold impl_EndsPage.f
 repeat' first|(with_reducible first|exact impl_SumOf.mono _ _|exact LeO.refl _|exact LeO.none _|refine LeO.ite ?_ ?_|refine LeO.bind ?_ (fun _=>?_))|exact impl_SumOf.mono _ _|exact LeO.none _|refine LeO.ite ?_ ?_|refine LeO.bind ?_ (fun _=>?_)
set_option maxHeartbeats 8000000 in
set_option maxRecDepth 100000 in
theorem impl_EndsPage.calls (k : Nat) (a0 : ByteArray) (r : Bool) (w : World) (h : impl_EndsPage.f k a0 = some r) :
  Calls Try.prog 70 #[.string a0] w fun e w'=>e = .returned (.bool r) ∧ Drawn0 w w':=by
 have H : ((impl_SumOf.f k a0).bind fun t136=>(some ((Int.tmod t136 4) == 0))) = some r:=h
 clear h
 replace H:=Option.bind_eq_some_iff.mp H
 obtain ⟨t136,A20,H⟩:=H
 replace H : (some ((Int.tmod t136 4) == 0)) = some r:=H
 have A2:=qo.mk A20
 clear A20
 obtain rfl:=Option.some.inj H
 go_enter Try.func70,Try.ntmps70
 go_wp2_with (first|((with_reducible refine gate_callee (f:=90) rfl ?_);refine goesL_ (some 4) rfl rfl Try.func90 (by kernel_rfl) rfl #[.string a0] rfl sm_ ?_;(with_reducible refine (impl_SumOf.calls k a0 t136 _ A2.out).mono ?_);rintro e w' ⟨rfl,⟨nd,rfl⟩⟩;refine ⟨_,rfl,?_⟩))
 go_ret
 exact ⟨by first|rfl|(simp;done)|(simp [*];done),by repeat (first|exact Drawn0.refl _|apply Drawn0.step)⟩

/-! ### impl_CutItems: function 44 -/
mutual
def impl_CutItems.l0 : Nat → Int → List (List (S71)) → List (S71) → Int → List (S71) → Int → Int → Option ((List (List (S71))))
 | 0,_,_,_,_,_,_,_=>none
 | k + 1,x0,x5,x6,x7,x11,x12,x13=>if x13 < x12 then (if 0 ≤ x13 then (if x13 < (x11.length : Int) then ((impl_ItemSize.f k x0 ((rd_T71 x11 x13).f0) ((rd_T71 x11 x13).f1) ((rd_T71 x11 x13).f2)).bind fun t142=>(if (x6.length : Int) > 0 then (impl_CutItems.j1 k x0 x5 x6 x7 t142 x11 x12 x13 (decide ((wrap64 (x7 + t142)) > 54)) ((rd_T71 x11 x13).f0) ((rd_T71 x11 x13).f1) ((rd_T71 x11 x13).f2)) else (impl_CutItems.j1 k x0 x5 x6 x7 t142 x11 x12 x13 false ((rd_T71 x11 x13).f0) ((rd_T71 x11 x13).f1) ((rd_T71 x11 x13).f2)))) else (none)) else (none)) else (if (x6.length : Int) > 0 then (if x5.length < 5864062014805 then (some (x5 ++ [x6])) else (none)) else (some x5))
def impl_CutItems.j1 : Nat → Int → List (List (S71)) → List (S71) → Int → Int → List (S71) → Int → Int → Bool → ByteArray → ByteArray → Int → Option ((List (List (S71))))
 | 0,_,_,_,_,_,_,_,_,_,_,_,_=>none
 | k + 1,x0,x5,x6,x7,x10,x11,x12,x13,x28,x142000,x142001,x142002=>if x28 = true then (if x5.length < 5864062014805 then ((some (x5 ++ [x6] : List (List (S71)))).bind fun y143=>(if ([] : List (S71)).length < 3518437208883 then ((some (([] : List (S71)) ++ [(⟨x142000,x142001,x142002⟩ : S71)] : List (S71))).bind fun y146=>(if x0 = 1 then ((impl_EndsPage.f k x142000).bind fun t149=>(if t149 = true then (if y143.length < 5864062014805 then (impl_CutItems.l0 k x0 (y143 ++ [y146]) ([] : List (S71)) 0 x11 x12 (wrap64 (x13 + 1))) else (none)) else (impl_CutItems.l0 k x0 y143 y146 (wrap64 (0 + x10)) x11 x12 (wrap64 (x13 + 1))))) else (impl_CutItems.l0 k x0 y143 y146 (wrap64 (0 + x10)) x11 x12 (wrap64 (x13 + 1))))) else (none))) else (none)) else (if x6.length < 3518437208883 then ((some (x6 ++ [(⟨x142000,x142001,x142002⟩ : S71)] : List (S71))).bind fun y153=>(if x0 = 1 then ((impl_EndsPage.f k x142000).bind fun t156=>(if t156 = true then (if x5.length < 5864062014805 then (impl_CutItems.l0 k x0 (x5 ++ [y153]) ([] : List (S71)) 0 x11 x12 (wrap64 (x13 + 1))) else (none)) else (impl_CutItems.l0 k x0 x5 y153 (wrap64 (x7 + x10)) x11 x12 (wrap64 (x13 + 1))))) else (impl_CutItems.l0 k x0 x5 y153 (wrap64 (x7 + x10)) x11 x12 (wrap64 (x13 + 1))))) else (none))
end
def impl_CutItems.f (k : Nat) (a0 : Int) (l1 : List (S71)) : Option ((List (List (S71)))):=impl_CutItems.l0 k a0 ([] : List (List (S71))) ([] : List (S71)) 0 l1 (l1.length : Int) 0
theorem impl_CutItems.mono_l : ∀ k,(∀ y0 y1 y2 y3 y4 y5 y6,LeO (impl_CutItems.l0 k y0 y1 y2 y3 y4 y5 y6) (impl_CutItems.l0 (k + 1) y0 y1 y2 y3 y4 y5 y6)) ∧ (∀ y0 y1 y2 y3 y4 y5 y6 y7 y8 y9 y10 y11,LeO (impl_CutItems.j1 k y0 y1 y2 y3 y4 y5 y6 y7 y8 y9 y10 y11) (impl_CutItems.j1 (k + 1) y0 y1 y2 y3 y4 y5 y6 y7 y8 y9 y10 y11))
 | 0=>⟨fun _ _ _ _ _ _ _ r h=>by simp [impl_CutItems.l0] at h,fun _ _ _ _ _ _ _ _ _ _ _ _ r h=>by simp [impl_CutItems.j1] at h⟩
 | k + 1=>by
  obtain ⟨ih0,ih1⟩:=impl_CutItems.mono_l k
  refine ⟨?_,?_⟩ <;> intros <;> first|unfold impl_CutItems.l0|unfold impl_CutItems.j1
  all_goals repeat' first|(with_reducible first|exact ih0 _ _ _ _ _ _ _|exact ih1 _ _ _ _ _ _ _ _ _ _ _ _|exact impl_EndsPage.mono _ _|exact impl_ItemSize.mono _ _ _ _ _|exact LeO.refl _|exact LeO.none _|refine LeO.ite ?_ ?_|refine LeO.bind ?_ (fun _=>?_))|exact ih0 _ _ _ _ _ _ _|exact ih1 _ _ _ _ _ _ _ _ _ _ _ _|exact impl_EndsPage.mono _ _|exact impl_ItemSize.mono _ _ _ _ _|exact LeO.none _|refine LeO.ite ?_ ?_|refine LeO.bind ?_ (fun _=>?_)
theorem impl_CutItems.mono : ∀ a0 a1 k,LeO (impl_CutItems.f k a0 a1) (impl_CutItems.f (k + 1) a0 a1):=by
 intro a0 a1 k
 obtain ⟨ih0,ih1⟩:=impl_CutItems.mono_l k
 unfold impl_CutItems.f
 repeat' first|(with_reducible first|exact ih0 _ _ _ _ _ _ _|exact ih1 _ _ _ _ _ _ _ _ _ _ _ _|exact impl_EndsPage.mono _ _|exact impl_ItemSize.mono _ _ _ _ _|exact LeO.refl _|exact LeO.none _|refine LeO.ite ?_ ?_|refine LeO.bind ?_ (fun _=>?_))|exact ih0 _ _ _ _ _ _ _|exact ih1 _ _ _ _ _ _ _ _ _ _ _ _|exact impl_EndsPage.mono _ _|exact impl_ItemSize.mono _ _ _ _ _|exact LeO.none _|refine LeO.ite ?_ ?_|refine LeO.bind ?_ (fun _=>?_)
set_option maxHeartbeats 8000000 in
set_option maxRecDepth 100000 in
theorem impl_CutItems.calls (k : Nat) (a0 : Int) (A1 : Option Addr) (c1 : Nat) (l1 : List (S71)) (r : List (List (S71))) (w : World) (hr1 : Kd.C k71 w A1 l1.length l1) (hc1 : l1.length ≤ c1) (h : impl_CutItems.f k a0 l1 = some r) :
  Calls Try.prog 44 #[.int .i64 a0,.slice A1 l1.length c1] w fun e w'=>∃ v0_ : Value,e = .returned (v0_) ∧ Kd.S (Kd.slice 71 k71) 68 w' w.heap.size (fun _=>True) v0_ r ∧ Below w.heap.size w w':=by
 have hu71:=Try.underlying71
 have HR1:=qo.mk hr1
 have HC1:=qo.mk hc1
 clear hr1 hc1
 have HB:=qo.mk (Below.refl w.heap.size w)
 have H : (impl_CutItems.l0 k a0 ([] : List (List (S71))) ([] : List (S71)) 0 l1 (l1.length : Int) 0) = some r:=h
 clear h
 have H':=qo.mk H
 clear H
 go_enter Try.func44,Try.ntmps44
 go_wp2
 go_loopg [5,6,7,13] k (fun kq v5 v6 v7 v13 w'=>∃ (x5_1 : List (List (S71))) (x6_1 : List (S71)) (x7_1 : Int) (x13_1 : Int),v7 = .int .i64 x7_1 ∧ v13 = .int .i64 x13_1 ∧ qo (impl_CutItems.l0 kq a0 x5_1 x6_1 x7_1 l1 (l1.length : Int) x13_1 = some r) ∧ qo (kq ≤ k) ∧ qo (Kd.S (Kd.slice 71 k71) 68 w' w.heap.size (fun k_=>some k_ ≠ (v6 : Value).ownBlock) v5 x5_1) ∧ qo (Kd.R k71 71 w' w.heap.size (fun _=>True) v6 x6_1) ∧ qo (Below w.heap.size w w'))
 case atStart=>exact ⟨(([] : List (List (S71)))),(([] : List (S71))),(0),(0),rs_,rs_,H',⟨Nat.le_refl _⟩,⟨by first|exact Kd.S_nil _ _ _ _ _|exact Kd.N_nil _ _ _ _ _|exact Kd.V_nil _ _ _ _ _|exact Kd.Q_nil _ _ _ _ _|exact Kd.R_nil _ _ _ _ _⟩,⟨by first|exact Kd.R_nil _ _ _ _ _|exact Kd.N_nil _ _ _ _ _|exact Kd.V_nil _ _ _ _ _|exact Kd.Q_nil _ _ _ _ _|exact Kd.S_nil _ _ _ _ _⟩,⟨hx_⟩⟩
 clear H'
 try clear c1
 try clear p2
 obtain ⟨x5_1,x6_1,x7_1,x13_1,rfl,rfl,HA,HK1,HO_5,HO_6,HB⟩:=hrel
 obtain _|k1:=gk
 ·exact absurd HA.out (by simp [impl_CutItems.l0])
 have H:=HA.out
 clear HA
 simp only [impl_CutItems.l0] at H
 by_cases c3 : x13_1 < (l1.length : Int)
 ·rw [if_pos c3] at H
  have c3b0 : decide (x13_1 < (l1.length : Int)) = true:=decide_eq_true c3
  clear c3
  by_cases c4 : 0 ≤ x13_1
  ·rw [if_pos c4] at H
   have c4b0 : decide (0 ≤ x13_1) = true:=decide_eq_true c4
   clear c4
   by_cases c5 : x13_1 < (l1.length : Int)
   ·rw [if_pos c5] at H
    have c5b0 : decide (x13_1 < (l1.length : Int)) = true:=decide_eq_true c5
    clear c5
    replace H:=Option.bind_eq_some_iff.mp H
    obtain ⟨t142,A60,H⟩:=H
    replace H : (if (x6_1.length : Int) > 0 then (impl_CutItems.j1 k1 a0 x5_1 x6_1 x7_1 t142 l1 (l1.length : Int) x13_1 (decide ((wrap64 (x7_1 + t142)) > 54)) ((rd_T71 l1 x13_1).f0) ((rd_T71 l1 x13_1).f1) ((rd_T71 l1 x13_1).f2)) else (impl_CutItems.j1 k1 a0 x5_1 x6_1 x7_1 t142 l1 (l1.length : Int) x13_1 false ((rd_T71 l1 x13_1).f0) ((rd_T71 l1 x13_1).f1) ((rd_T71 l1 x13_1).f2))) = some r:=H
    have A6:=qo.mk A60
    clear A60
    have HC7:=qo.mk H
    clear H
    have p140 : 0 ≤ (x13_1 : Int):=dt_
    have q140 : x13_1 < (l1.length : Int):=dt_
    obtain ⟨ad140,e140,hx140_0,hx140_1,hx140_2⟩:=at_T71 HR1.out x13_1 p140 q140
    cases e140
    replace hx140_0:=cb_ HB hx140_0
    replace hx140_1:=cb_ HB hx140_1
    replace hx140_2:=cb_ HB hx140_2
    replace p140:=eq_true p140
    replace q140:=eq_true q140
    go_upto_region 8 with (first|((with_reducible refine gate_dst (N:=9) rfl ?_);refine box_event ?hg (N:=9) ?hd (cs:=#[.string (⟨#[]⟩ : ByteArray),.string (⟨#[]⟩ : ByteArray),.int .i64 0]) (t:=71) ?hr ?_;(case hd=>rfl);(case hg=>rfl);(case hr=>first|(go_simp;done)|(go_simp;rfl));intro gb141 hg w8 hbox hb;replace HO_5:=qo.mk (Kd.S_below (Kd.S_elderB (by (with_reducible repeat (first|apply Kd.S_alloc|apply Kd.S_drewN|apply Kd.S_drew));exact HO_5.out) gb141 (Nat.le_of_eq hg.symm)) hb);replace HO_6:=qo.mk (Kd.R_below (Kd.R_elderB (by (with_reducible repeat (first|apply Kd.R_alloc|apply Kd.R_drewN|apply Kd.R_drew));exact HO_6.out) gb141 (Nat.le_of_eq hg.symm)) hb);have BK141:=qo.mk (hbox);have GW141:=hl_ (w:=w) hg;have GE141:=hl_ (w:=w) hg;replace HB:=hs_ HB hb;clear hb hbox hg;obtain ⟨hcz9_0,hcz9_1,hcz9_2,hfz9_0,hfz9_1,hfz9_2⟩:=c3f_ BK141.out)|((with_reducible refine gate_callee (f:=69) rfl ?_);refine goesL_ (some 19) rfl rfl Try.func69 (by kernel_rfl) rfl #[.int .i64 a0,.agg #[.string ((rd_T71 l1 x13_1).f0),.string ((rd_T71 l1 x13_1).f1),.int .i64 ((rd_T71 l1 x13_1).f2)]] rfl sm_ ?_;(with_reducible refine (impl_ItemSize.calls k1 a0 ((rd_T71 l1 x13_1).f0) ((rd_T71 l1 x13_1).f1) ((rd_T71 l1 x13_1).f2) t142 _ A6.out).mono ?_);rintro e w10 ⟨rfl,hb⟩;refine ⟨_,rfl,?_⟩;replace HO_5:=qo.mk (Kd.S_below (by (with_reducible repeat (first|apply Kd.S_alloc|apply Kd.S_drewN|apply Kd.S_drew));exact (Kd.S_mono (Kd.S_far (p:=⟨gb141,2,none⟩) (Kd.S_far (p:=⟨gb141,1,none⟩) (Kd.S_far (p:=⟨gb141,0,none⟩) (Kd.S_mono HO_5.out (fun k_ hk=>(⟨hk,hk.2⟩ : _ ∧ k_ ≠ gb141))) (fun _ hk=>hk.2) (.string ((rd_T71 l1 x13_1).f0))) (fun _ hk=>hk.2) (.string ((rd_T71 l1 x13_1).f1))) (fun _ hk=>hk.2) (.int .i64 ((rd_T71 l1 x13_1).f2))) (fun _ h_=>h_.1))) hb);replace HO_6:=qo.mk (Kd.R_below (by (with_reducible repeat (first|apply Kd.R_alloc|apply Kd.R_drewN|apply Kd.R_drew));exact (Kd.R_mono (Kd.R_far (p:=⟨gb141,2,none⟩) (Kd.R_far (p:=⟨gb141,1,none⟩) (Kd.R_far (p:=⟨gb141,0,none⟩) (Kd.R_mono HO_6.out (fun k_ hk=>(⟨hk,hk.2⟩ : _ ∧ k_ ≠ gb141))) (fun _ hk=>hk.2) (.string ((rd_T71 l1 x13_1).f0))) (fun _ hk=>hk.2) (.string ((rd_T71 l1 x13_1).f1))) (fun _ hk=>hk.2) (.int .i64 ((rd_T71 l1 x13_1).f2))) (fun _ h_=>h_.1))) hb);replace BK141:=qo.mk (qm (g:=gb141) (o:=.cells #[.string ((rd_T71 l1 x13_1).f0),.string ((rd_T71 l1 x13_1).f1),.int .i64 ((rd_T71 l1 x13_1).f2)] 71 (0,0)) (by (with_reducible repeat (first|refine qb ?_ _|refine qe ?_|refine qc ?_ _));refine blk_put (cs:=#[.string ((rd_T71 l1 x13_1).f0),.string ((rd_T71 l1 x13_1).f1),.int .i64 0]) ?_ 2 _ rfl;(with_reducible repeat (first|refine qb ?_ _|refine qe ?_|refine qc ?_ _));refine blk_put (cs:=#[.string ((rd_T71 l1 x13_1).f0),.string (⟨#[]⟩ : ByteArray),.int .i64 0]) ?_ 1 _ rfl;(with_reducible repeat (first|refine qb ?_ _|refine qe ?_|refine qc ?_ _));refine blk_put (cs:=#[.string (⟨#[]⟩ : ByteArray),.string (⟨#[]⟩ : ByteArray),.int .i64 0]) ?_ 0 _ rfl;(with_reducible repeat (first|refine qb ?_ _|refine qe ?_|refine qc ?_ _));exact BK141.out) hb);replace HB:=hs_ HB hb;(try clear hb);(try clear hb2);(try clear hk);(try clear hi)))
    (try simp only [Act.put,List.setIfInBounds_toArray,List.set_cons_zero,List.set_cons_succ])
    go_cut [28] (fun v28 wc=>∃ (kq : Nat) (x28_6 : Bool),v28 = .bool x28_6 ∧ qo (impl_CutItems.j1 kq a0 x5_1 x6_1 x7_1 t142 l1 (l1.length : Int) x13_1 x28_6 ((rd_T71 l1 x13_1).f0) ((rd_T71 l1 x13_1).f1) ((rd_T71 l1 x13_1).f2) = some r) ∧ qo (kq ≤ k1) ∧ qo (Kd.S (Kd.slice 71 k71) 68 wc w.heap.size (fun k_=>some k_ ≠ (u6 : Value).ownBlock ∧ k_ ≠ gb141) u5 x5_1) ∧ qo (Kd.R k71 71 wc w.heap.size (fun k_=>k_ ≠ gb141) u6 x6_1) ∧ qo (wc.heap[gb141]? = some (.cells #[.string ((rd_T71 l1 x13_1).f0),.string ((rd_T71 l1 x13_1).f1),.int .i64 ((rd_T71 l1 x13_1).f2)] 71 (0,0))) ∧ qo (Below w.heap.size w wc))
    case first =>
     have H:=HC7.out
     clear HC7
     by_cases c11 : (x6_1.length : Int) > 0
     ·rw [if_pos c11] at H
      have c11b0 : decide (0 < (x6_1.length : Int)) = true:=decide_eq_true c11
      have c11b1 : decide (0 < x6_1.length) = true:=decide_eq_true (by omega)
      clear c11
      (first|rw [c11b0]|(simp only [i64_w,i32_w];rw [c11b0])|skip)
      have H':=qo.mk H
      clear H
      obtain ⟨Ao12,co12,eo12⟩:=Kd.R_slice HO_6.out
      subst eo12
      go_wp2
      go_meet
      case rel=>exact ⟨_,(decide ((wrap64 (x7_1 + t142)) > 54)),rs_,H',⟨by have:=HK1.out;first|omega|exact Nat.le_refl _⟩,⟨by (with_reducible repeat (first|apply Kd.S_alloc|apply Kd.S_drewN|apply Kd.S_drew));exact HO_5.out⟩,⟨by (with_reducible repeat (first|apply Kd.R_alloc|apply Kd.R_drewN|apply Kd.R_drew));exact Kd.R_mono HO_6.out (fun _ hk=>hk.2)⟩,(bx_ BK141),⟨hx_⟩⟩
     rw [if_neg c11] at H
     have c11b0 : decide (0 < (x6_1.length : Int)) = false:=decide_eq_false c11
     have c11b1 : decide (0 < x6_1.length) = false:=decide_eq_false (by omega)
     clear c11
     (first|rw [c11b0]|(simp only [i64_w,i32_w];rw [c11b0])|skip)
     have H':=qo.mk H
     clear H
     obtain ⟨Ao13,co13,eo13⟩:=Kd.R_slice HO_6.out
     subst eo13
     go_wp2
     go_meet
     case rel=>exact ⟨_,(false),rs_,H',⟨by have:=HK1.out;first|omega|exact Nat.le_refl _⟩,⟨by (with_reducible repeat (first|apply Kd.S_alloc|apply Kd.S_drewN|apply Kd.S_drew));exact HO_5.out⟩,⟨by (with_reducible repeat (first|apply Kd.R_alloc|apply Kd.R_drewN|apply Kd.R_drew));exact Kd.R_mono HO_6.out (fun _ hk=>hk.2)⟩,(bx_ BK141),⟨hx_⟩⟩
    clear HC7
    try clear c1
    try clear p1
    try clear q1
    try clear hx1
    try clear p2
    try clear c3
    try clear c3b0
    try clear c4
    try clear c4b0
    try clear c5
    try clear c5b0
    try clear c6
    try clear p6
    try clear c11
    try clear c11b0
    try clear c11b1
    try clear hcz9_0
    try clear hcz9_1
    try clear hcz9_2
    try clear hfz9_0
    try clear hfz9_1
    try clear hfz9_2
    try clear hx140_0
    try clear hx140_1
    try clear hx140_2
    try clear p140
    try clear p2
    try clear q140
    obtain ⟨kq,x28_6,rfl,HA,HJ6,HO_5,HO_6,BK141,HB⟩:=hcut
    obtain _|kj6:=kq
    ·exact absurd HA.out (by simp [impl_CutItems.j1])
    have H:=HA.out
    clear HA
    simp only [impl_CutItems.j1] at H
    by_cases c14 : x28_6 = true
    ·subst c14
     have H1 : (if x5_1.length < 5864062014805 then ((some (x5_1 ++ [x6_1] : List (List (S71)))).bind fun y143=>(if ([] : List (S71)).length < 3518437208883 then ((some (([] : List (S71)) ++ [(⟨((rd_T71 l1 x13_1).f0),((rd_T71 l1 x13_1).f1),((rd_T71 l1 x13_1).f2)⟩ : S71)] : List (S71))).bind fun y146=>(if a0 = 1 then ((impl_EndsPage.f kj6 ((rd_T71 l1 x13_1).f0)).bind fun t149=>(if t149 = true then (if y143.length < 5864062014805 then (impl_CutItems.l0 kj6 a0 (y143 ++ [y146]) ([] : List (S71)) 0 l1 (l1.length : Int) (wrap64 (x13_1 + 1))) else (none)) else (impl_CutItems.l0 kj6 a0 y143 y146 (wrap64 (0 + t142)) l1 (l1.length : Int) (wrap64 (x13_1 + 1))))) else (impl_CutItems.l0 kj6 a0 y143 y146 (wrap64 (0 + t142)) l1 (l1.length : Int) (wrap64 (x13_1 + 1))))) else (none))) else (none)) = some r:=by rw [if_pos rfl] at H;exact H
     clear H
     have H:=H1
     clear H1
     by_cases c15 : x5_1.length < 5864062014805
     ·rw [if_pos c15] at H
      have LMc15:=qo.mk c15
      clear c15
      obtain ⟨y143,hy143⟩ : ∃ y_ : List (List (S71)),y_ = (x5_1 ++ [x6_1]):=⟨_,rfl⟩
      replace H : (if ([] : List (S71)).length < 3518437208883 then ((some (([] : List (S71)) ++ [(⟨((rd_T71 l1 x13_1).f0),((rd_T71 l1 x13_1).f1),((rd_T71 l1 x13_1).f2)⟩ : S71)] : List (S71))).bind fun y146=>(if a0 = 1 then ((impl_EndsPage.f kj6 ((rd_T71 l1 x13_1).f0)).bind fun t149=>(if t149 = true then (if y143.length < 5864062014805 then (impl_CutItems.l0 kj6 a0 (y143 ++ [y146]) ([] : List (S71)) 0 l1 (l1.length : Int) (wrap64 (x13_1 + 1))) else (none)) else (impl_CutItems.l0 kj6 a0 y143 y146 (wrap64 (0 + t142)) l1 (l1.length : Int) (wrap64 (x13_1 + 1))))) else (impl_CutItems.l0 kj6 a0 y143 y146 (wrap64 (0 + t142)) l1 (l1.length : Int) (wrap64 (x13_1 + 1))))) else (none)) = some r:=by first|(rw [hy143];with_reducible exact H)|(have H2_:=(Option.bind_some _ _).symm.trans H;rw [hy143];with_reducible exact H2_)|(have H2_:=(Option.bind_some _ _).symm.trans H;with_reducible exact H2_)|with_reducible exact H|(rw [hy143];exact H)|exact H
      have Ny143:=qo.mk hy143
      clear hy143
      by_cases c16 : ([] : List (S71)).length < 3518437208883
      ·rw [if_pos c16] at H
       have LMc16:=qo.mk c16
       clear c16
       obtain ⟨y146,hy146⟩ : ∃ y_ : List (S71),y_ = (([] : List (S71)) ++ [(⟨((rd_T71 l1 x13_1).f0),((rd_T71 l1 x13_1).f1),((rd_T71 l1 x13_1).f2)⟩ : S71)]):=⟨_,rfl⟩
       replace H : (if a0 = 1 then ((impl_EndsPage.f kj6 ((rd_T71 l1 x13_1).f0)).bind fun t149=>(if t149 = true then (if y143.length < 5864062014805 then (impl_CutItems.l0 kj6 a0 (y143 ++ [y146]) ([] : List (S71)) 0 l1 (l1.length : Int) (wrap64 (x13_1 + 1))) else (none)) else (impl_CutItems.l0 kj6 a0 y143 y146 (wrap64 (0 + t142)) l1 (l1.length : Int) (wrap64 (x13_1 + 1))))) else (impl_CutItems.l0 kj6 a0 y143 y146 (wrap64 (0 + t142)) l1 (l1.length : Int) (wrap64 (x13_1 + 1)))) = some r:=by first|(rw [hy146];with_reducible exact H)|(have H2_:=(Option.bind_some _ _).symm.trans H;rw [hy146];with_reducible exact H2_)|(have H2_:=(Option.bind_some _ _).symm.trans H;with_reducible exact H2_)|with_reducible exact H|(rw [hy146];exact H)|exact H
       have Ny146:=qo.mk hy146
       clear hy146
       by_cases c17 : a0 = 1
       ·rw [if_pos c17] at H
        have c17b0 : (a0 == 1) = true:=beq_iff_eq.mpr c17
        have c17b1 : (a0 != 1) = false:=bne_eq_false_iff_eq.mpr c17
        clear c17
        replace H:=Option.bind_eq_some_iff.mp H
        obtain ⟨t149,A180,H⟩:=H
        replace H : (if t149 = true then (if y143.length < 5864062014805 then (impl_CutItems.l0 kj6 a0 (y143 ++ [y146]) ([] : List (S71)) 0 l1 (l1.length : Int) (wrap64 (x13_1 + 1))) else (none)) else (impl_CutItems.l0 kj6 a0 y143 y146 (wrap64 (0 + t142)) l1 (l1.length : Int) (wrap64 (x13_1 + 1)))) = some r:=H
        have A18:=qo.mk A180
        clear A180
        by_cases c19 : t149 = true
        ·subst c19
         have H1 : (if y143.length < 5864062014805 then (impl_CutItems.l0 kj6 a0 (y143 ++ [y146]) ([] : List (S71)) 0 l1 (l1.length : Int) (wrap64 (x13_1 + 1))) else (none)) = some r:=by rw [if_pos rfl] at H;exact H
         clear H
         have H:=H1
         clear H1
         by_cases c20 : y143.length < 5864062014805
         ·rw [if_pos c20] at H
          have LMc20:=qo.mk c20
          clear c20
          obtain ⟨y150,hy150⟩ : ∃ y_ : List (List (S71)),y_ = (y143 ++ [y146]):=⟨_,rfl⟩
          replace H : (impl_CutItems.l0 kj6 a0 y150 ([] : List (S71)) 0 l1 (l1.length : Int) (wrap64 (x13_1 + 1))) = some r:=by first|(rw [hy150];with_reducible exact H)|(have H2_:=(Option.bind_some _ _).symm.trans H;rw [hy150];with_reducible exact H2_)|(have H2_:=(Option.bind_some _ _).symm.trans H;with_reducible exact H2_)|with_reducible exact H|(rw [hy150];exact H)|exact H
          have Ny150:=qo.mk hy150
          clear hy150
          have H':=qo.mk H
          clear H
          obtain ⟨Ao22,co22,eo22⟩:=Kd.R_slice HO_6.out
          subst eo22
          go_wp2_with (first|((with_reducible refine gate_builtin (b:=.append) (xs:=#[.tmp 29,.tmp 31]) rfl ?_);at_builtin;refine Kd.S_append (Kd.slice 71 k71) (w0:=w) w.heap.size rfl (.tmp 29) (.tmp 31) 72 68 (.slice none 0 0) 24 rfl Try.underlying72 info68 rfl (by decide) (by omega) u5 x5_1 x6_1 [.slice Ao22 x6_1.length co22] (fun k_=>k_ ≠ gb141) (fun k_=>some k_ = (.slice Ao22 x6_1.length co22 : Value).ownBlock) rfl rfl ?aP (fun k_ hk_=>((Kd.R_mono (ok':=fun k_=>((fun k_=>k_ ≠ gb141)) k_ ∧ some k_ ≠ (u5 : Value).ownBlock) (Kd.R_apart' (HO_6.out) (Kd.S_typed HO_5.out) (by decide)) (fun k_ hk=>⟨hk.1,hk.2⟩))).1 k_ hk_.symm) ?aF ?aO ?aB ?aS ?aL ?_;(case aP=>exact Kd.M_row (Kd.R_mono (Kd.R_tight rfl (Kd.R_mono (ok':=fun k_=>((fun k_=>k_ ≠ gb141)) k_ ∧ some k_ ≠ (u5 : Value).ownBlock) (Kd.R_apart' (HO_6.out) (Kd.S_typed HO_5.out) (by decide)) (fun k_ hk=>⟨hk.1,hk.2⟩))) (fun _ h_=>h_)));(case aB=>exact hx_);(case aF=>exact (fun k_ hk=>Kd.freshB (g:=gb141) (o:=.cells #[.string ((rd_T71 l1 x13_1).f0),.string ((rd_T71 l1 x13_1).f1),.int .i64 ((rd_T71 l1 x13_1).f2)] 71 (0,0)) (bx_ BK141).out k_ hk));(case aO=>exact (by (with_reducible repeat (first|apply Kd.S_alloc|apply Kd.S_drewN|apply Kd.S_drew));exact Kd.S_mono HO_5.out (fun k_ hk=>⟨hk.2,fun e_=>hk.1 e_⟩)));(case aS=>exact (qk hx_));(case aL=>have:=LMc15.out;omega);intro v144 w21 ho hb hg hat;rw [← Ny143.out] at ho;replace BK141:=qo.mk (blk_grown (g:=gb141) (o:=.cells #[.string ((rd_T71 l1 x13_1).f0),.string ((rd_T71 l1 x13_1).f1),.int .i64 ((rd_T71 l1 x13_1).f2)] 71 (0,0)) (bx_ BK141).out hg (Kd.S_ne HO_5.out BK141.out (by decide)));replace HB:=qo.mk (hb);have HO145:=qo.mk (ho);clear HO_5 HO_6;clear ho hb hg hat;obtain ⟨hcz23_0,hcz23_1,hcz23_2,hfz23_0,hfz23_1,hfz23_2⟩:=c3f_ BK141.out)|((with_reducible refine gate_builtin (b:=.append) (xs:=#[.tmp 33,.tmp 35]) rfl ?_);at_builtin;refine Kd.R_append k71 (w0:=w) w.heap.size rfl (.tmp 33) (.tmp 35) 68 71 (.agg #[(.string ⟨#[]⟩),(.string ⟨#[]⟩),(.int .i64 0)]) 40 rfl Try.underlying68 info71 rfl (by decide) (by omega) (.slice none 0 0) ([] : List (S71)) (⟨((rd_T71 l1 x13_1).f0),((rd_T71 l1 x13_1).f1),((rd_T71 l1 x13_1).f2)⟩ : S71) [.string ((rd_T71 l1 x13_1).f0),.string ((rd_T71 l1 x13_1).f1),.int .i64 ((rd_T71 l1 x13_1).f2)] (fun k_=>k_ ≠ gb141) (fun _=>False) rfl rfl ?aP (fun _ hk=>hk.elim) ?aF ?aO ?aB ?aS ?aL ?_;(case aP=>exact k71_mkM _ _ _ (⟨((rd_T71 l1 x13_1).f0),((rd_T71 l1 x13_1).f1),((rd_T71 l1 x13_1).f2)⟩ : S71));(case aB=>exact hx_);(case aF=>exact (fun k_ hk=>Kd.freshB (g:=gb141) (o:=.cells #[.string ((rd_T71 l1 x13_1).f0),.string ((rd_T71 l1 x13_1).f1),.int .i64 ((rd_T71 l1 x13_1).f2)] 71 (0,0)) (bx_ BK141).out k_ hk));(case aO=>exact ((Kd.R_nil _ _ _ _ (fun k_=>k_ ≠ gb141))));(case aS=>exact (qk hx_));(case aL=>have:=LMc16.out;omega);intro v147 w24 ho hb hg hat;rw [← Ny146.out] at ho;replace BK141:=qo.mk (blk_grown (g:=gb141) (o:=.cells #[.string ((rd_T71 l1 x13_1).f0),.string ((rd_T71 l1 x13_1).f1),.int .i64 ((rd_T71 l1 x13_1).f2)] 71 (0,0)) (bx_ BK141).out hg (by simp [Value.ownBlock]));replace HO145:=qo.mk (Kd.S_after (Kd.S_apart_nil (by (with_reducible repeat (first|apply Kd.S_alloc|apply Kd.S_drewN|apply Kd.S_drew));exact HO145.out)) hg hat);replace HB:=qo.mk (hb);have HO148:=qo.mk (ho);clear ho hb hg hat;obtain ⟨hcz25_0,hcz25_1,hcz25_2,hfz25_0,hfz25_1,hfz25_2⟩:=c3f_ BK141.out)|(go_at_call 70;(with_reducible refine (impl_EndsPage.calls kj6 ((rd_T71 l1 x13_1).f0) true _ A18.out).mono ?_);rintro e w' ⟨rfl,⟨nd,rfl⟩⟩;obtain ⟨Ao27,co27,eo27⟩:=Kd.R_slice HO148.out;subst eo27)|((with_reducible refine gate_builtin (b:=.append) (xs:=#[.tmp 47,.tmp 49]) rfl ?_);at_builtin;refine Kd.S_append (Kd.slice 71 k71) (w0:=w) w.heap.size rfl (.tmp 47) (.tmp 49) 72 68 (.slice none 0 0) 24 rfl Try.underlying72 info68 rfl (by decide) (by omega) v144 y143 y146 [.slice Ao27 y146.length co27] (fun k_=>k_ ≠ gb141) (fun k_=>some k_ = (.slice Ao27 y146.length co27 : Value).ownBlock) rfl rfl ?aP (fun k_ hk_=>((Kd.R_mono (ok':=fun k_=>((fun k_=>k_ ≠ gb141)) k_ ∧ some k_ ≠ (v144 : Value).ownBlock) (Kd.R_apart' (HO148.out) (Kd.S_typed HO145.out) (by decide)) (fun k_ hk=>⟨hk.1,hk.2⟩))).1 k_ hk_.symm) ?aF ?aO ?aB ?aS ?aL ?_;(case aP=>exact Kd.M_row (Kd.R_mono (Kd.R_tight rfl (Kd.R_mono (ok':=fun k_=>((fun k_=>k_ ≠ gb141)) k_ ∧ some k_ ≠ (v144 : Value).ownBlock) (Kd.R_apart' (HO148.out) (Kd.S_typed HO145.out) (by decide)) (fun k_ hk=>⟨hk.1,hk.2⟩))) (fun _ h_=>h_)));(case aB=>exact hx_);(case aF=>exact (fun k_ hk=>Kd.freshB (g:=gb141) (o:=.cells #[.string ((rd_T71 l1 x13_1).f0),.string ((rd_T71 l1 x13_1).f1),.int .i64 ((rd_T71 l1 x13_1).f2)] 71 (0,0)) (bx_ BK141).out k_ hk));(case aO=>exact (by (with_reducible repeat (first|apply Kd.S_alloc|apply Kd.S_drewN|apply Kd.S_drew));exact Kd.S_mono HO145.out (fun k_ hk=>⟨hk.1,fun e_=>hk.2 e_⟩)));(case aS=>exact (qk hx_));(case aL=>have:=LMc20.out;omega);intro v151 w26 ho hb hg hat;rw [← Ny150.out] at ho;replace BK141:=qo.mk (blk_grown (g:=gb141) (o:=.cells #[.string ((rd_T71 l1 x13_1).f0),.string ((rd_T71 l1 x13_1).f1),.int .i64 ((rd_T71 l1 x13_1).f2)] 71 (0,0)) (bx_ BK141).out hg (Kd.S_ne HO145.out BK141.out (by decide)));replace HB:=qo.mk (hb);have HO152:=qo.mk (ho);clear HO145 HO148;clear ho hb hg hat))
          go_roundg kj6
          case measure=>have:=HK1.out;have:=HJ6.out;omega
          case rel=>exact ⟨(y150),(([] : List (S71))),(0),(wrap64 (x13_1 + 1)),rs_,rs_,H',⟨by have:=HK1.out;have:=HJ6.out;omega⟩,⟨by (with_reducible repeat (first|apply Kd.S_alloc|apply Kd.S_drewN|apply Kd.S_drew));exact Kd.S_mono HO152.out (fun _ hk=>(by simp [Value.ownBlock]))⟩,⟨by first|exact Kd.R_nil _ _ _ _ _|exact Kd.N_nil _ _ _ _ _|exact Kd.V_nil _ _ _ _ _|exact Kd.Q_nil _ _ _ _ _|exact Kd.S_nil _ _ _ _ _⟩,⟨hx_⟩⟩
         rw [if_neg c20] at H
         exact absurd H (by simp)
        replace c19:=Bool.eq_false_iff.mpr c19
        subst c19
        have H1 : (impl_CutItems.l0 kj6 a0 y143 y146 (wrap64 (0 + t142)) l1 (l1.length : Int) (wrap64 (x13_1 + 1))) = some r:=by rw [if_neg (show ¬ (false = true) by decide)] at H;exact H
        clear H
        have H:=H1
        clear H1
        have H':=qo.mk H
        clear H
        obtain ⟨Ao29,co29,eo29⟩:=Kd.R_slice HO_6.out
        subst eo29
        go_wp2_with (first|((with_reducible refine gate_builtin (b:=.append) (xs:=#[.tmp 29,.tmp 31]) rfl ?_);at_builtin;refine Kd.S_append (Kd.slice 71 k71) (w0:=w) w.heap.size rfl (.tmp 29) (.tmp 31) 72 68 (.slice none 0 0) 24 rfl Try.underlying72 info68 rfl (by decide) (by omega) u5 x5_1 x6_1 [.slice Ao29 x6_1.length co29] (fun k_=>k_ ≠ gb141) (fun k_=>some k_ = (.slice Ao29 x6_1.length co29 : Value).ownBlock) rfl rfl ?aP (fun k_ hk_=>((Kd.R_mono (ok':=fun k_=>((fun k_=>k_ ≠ gb141)) k_ ∧ some k_ ≠ (u5 : Value).ownBlock) (Kd.R_apart' (HO_6.out) (Kd.S_typed HO_5.out) (by decide)) (fun k_ hk=>⟨hk.1,hk.2⟩))).1 k_ hk_.symm) ?aF ?aO ?aB ?aS ?aL ?_;(case aP=>exact Kd.M_row (Kd.R_mono (Kd.R_tight rfl (Kd.R_mono (ok':=fun k_=>((fun k_=>k_ ≠ gb141)) k_ ∧ some k_ ≠ (u5 : Value).ownBlock) (Kd.R_apart' (HO_6.out) (Kd.S_typed HO_5.out) (by decide)) (fun k_ hk=>⟨hk.1,hk.2⟩))) (fun _ h_=>h_)));(case aB=>exact hx_);(case aF=>exact (fun k_ hk=>Kd.freshB (g:=gb141) (o:=.cells #[.string ((rd_T71 l1 x13_1).f0),.string ((rd_T71 l1 x13_1).f1),.int .i64 ((rd_T71 l1 x13_1).f2)] 71 (0,0)) (bx_ BK141).out k_ hk));(case aO=>exact (by (with_reducible repeat (first|apply Kd.S_alloc|apply Kd.S_drewN|apply Kd.S_drew));exact Kd.S_mono HO_5.out (fun k_ hk=>⟨hk.2,fun e_=>hk.1 e_⟩)));(case aS=>exact (qk hx_));(case aL=>have:=LMc15.out;omega);intro v144 w28 ho hb hg hat;rw [← Ny143.out] at ho;replace BK141:=qo.mk (blk_grown (g:=gb141) (o:=.cells #[.string ((rd_T71 l1 x13_1).f0),.string ((rd_T71 l1 x13_1).f1),.int .i64 ((rd_T71 l1 x13_1).f2)] 71 (0,0)) (bx_ BK141).out hg (Kd.S_ne HO_5.out BK141.out (by decide)));replace HB:=qo.mk (hb);have HO145:=qo.mk (ho);clear HO_5 HO_6;clear ho hb hg hat;obtain ⟨hcz30_0,hcz30_1,hcz30_2,hfz30_0,hfz30_1,hfz30_2⟩:=c3f_ BK141.out)|((with_reducible refine gate_builtin (b:=.append) (xs:=#[.tmp 33,.tmp 35]) rfl ?_);at_builtin;refine Kd.R_append k71 (w0:=w) w.heap.size rfl (.tmp 33) (.tmp 35) 68 71 (.agg #[(.string ⟨#[]⟩),(.string ⟨#[]⟩),(.int .i64 0)]) 40 rfl Try.underlying68 info71 rfl (by decide) (by omega) (.slice none 0 0) ([] : List (S71)) (⟨((rd_T71 l1 x13_1).f0),((rd_T71 l1 x13_1).f1),((rd_T71 l1 x13_1).f2)⟩ : S71) [.string ((rd_T71 l1 x13_1).f0),.string ((rd_T71 l1 x13_1).f1),.int .i64 ((rd_T71 l1 x13_1).f2)] (fun k_=>k_ ≠ gb141) (fun _=>False) rfl rfl ?aP (fun _ hk=>hk.elim) ?aF ?aO ?aB ?aS ?aL ?_;(case aP=>exact k71_mkM _ _ _ (⟨((rd_T71 l1 x13_1).f0),((rd_T71 l1 x13_1).f1),((rd_T71 l1 x13_1).f2)⟩ : S71));(case aB=>exact hx_);(case aF=>exact (fun k_ hk=>Kd.freshB (g:=gb141) (o:=.cells #[.string ((rd_T71 l1 x13_1).f0),.string ((rd_T71 l1 x13_1).f1),.int .i64 ((rd_T71 l1 x13_1).f2)] 71 (0,0)) (bx_ BK141).out k_ hk));(case aO=>exact ((Kd.R_nil _ _ _ _ (fun k_=>k_ ≠ gb141))));(case aS=>exact (qk hx_));(case aL=>have:=LMc16.out;omega);intro v147 w31 ho hb hg hat;rw [← Ny146.out] at ho;replace BK141:=qo.mk (blk_grown (g:=gb141) (o:=.cells #[.string ((rd_T71 l1 x13_1).f0),.string ((rd_T71 l1 x13_1).f1),.int .i64 ((rd_T71 l1 x13_1).f2)] 71 (0,0)) (bx_ BK141).out hg (by simp [Value.ownBlock]));replace HO145:=qo.mk (Kd.S_after (Kd.S_apart_nil (by (with_reducible repeat (first|apply Kd.S_alloc|apply Kd.S_drewN|apply Kd.S_drew));exact HO145.out)) hg hat);replace HB:=qo.mk (hb);have HO148:=qo.mk (ho);clear ho hb hg hat;obtain ⟨hcz32_0,hcz32_1,hcz32_2,hfz32_0,hfz32_1,hfz32_2⟩:=c3f_ BK141.out)|(go_at_call 70;(with_reducible refine (impl_EndsPage.calls kj6 ((rd_T71 l1 x13_1).f0) false _ A18.out).mono ?_);rintro e w' ⟨rfl,⟨nd,rfl⟩⟩))
        go_roundg kj6
        case measure=>have:=HK1.out;have:=HJ6.out;omega
        case rel=>exact ⟨(y143),(y146),(wrap64 (0 + t142)),(wrap64 (x13_1 + 1)),rs_,rs_,H',⟨by have:=HK1.out;have:=HJ6.out;omega⟩,⟨by (with_reducible repeat (first|apply Kd.S_alloc|apply Kd.S_drewN|apply Kd.S_drew));exact Kd.S_mono HO145.out (fun _ hk=>hk.2)⟩,⟨by (with_reducible repeat (first|apply Kd.R_alloc|apply Kd.R_drewN|apply Kd.R_drew));exact Kd.R_mono HO148.out (fun _ hk=>trivial)⟩,⟨hx_⟩⟩
       rw [if_neg c17] at H
       have c17b0 : (a0 == 1) = false:=beq_eq_false_iff_ne.mpr c17
       have c17b1 : (a0 != 1) = true:=bne_iff_ne.mpr c17
       have H':=qo.mk H
       clear H
       obtain ⟨Ao34,co34,eo34⟩:=Kd.R_slice HO_6.out
       subst eo34
       go_wp2_with (first|((with_reducible refine gate_builtin (b:=.append) (xs:=#[.tmp 29,.tmp 31]) rfl ?_);at_builtin;refine Kd.S_append (Kd.slice 71 k71) (w0:=w) w.heap.size rfl (.tmp 29) (.tmp 31) 72 68 (.slice none 0 0) 24 rfl Try.underlying72 info68 rfl (by decide) (by omega) u5 x5_1 x6_1 [.slice Ao34 x6_1.length co34] (fun k_=>k_ ≠ gb141) (fun k_=>some k_ = (.slice Ao34 x6_1.length co34 : Value).ownBlock) rfl rfl ?aP (fun k_ hk_=>((Kd.R_mono (ok':=fun k_=>((fun k_=>k_ ≠ gb141)) k_ ∧ some k_ ≠ (u5 : Value).ownBlock) (Kd.R_apart' (HO_6.out) (Kd.S_typed HO_5.out) (by decide)) (fun k_ hk=>⟨hk.1,hk.2⟩))).1 k_ hk_.symm) ?aF ?aO ?aB ?aS ?aL ?_;(case aP=>exact Kd.M_row (Kd.R_mono (Kd.R_tight rfl (Kd.R_mono (ok':=fun k_=>((fun k_=>k_ ≠ gb141)) k_ ∧ some k_ ≠ (u5 : Value).ownBlock) (Kd.R_apart' (HO_6.out) (Kd.S_typed HO_5.out) (by decide)) (fun k_ hk=>⟨hk.1,hk.2⟩))) (fun _ h_=>h_)));(case aB=>exact hx_);(case aF=>exact (fun k_ hk=>Kd.freshB (g:=gb141) (o:=.cells #[.string ((rd_T71 l1 x13_1).f0),.string ((rd_T71 l1 x13_1).f1),.int .i64 ((rd_T71 l1 x13_1).f2)] 71 (0,0)) (bx_ BK141).out k_ hk));(case aO=>exact (by (with_reducible repeat (first|apply Kd.S_alloc|apply Kd.S_drewN|apply Kd.S_drew));exact Kd.S_mono HO_5.out (fun k_ hk=>⟨hk.2,fun e_=>hk.1 e_⟩)));(case aS=>exact (qk hx_));(case aL=>have:=LMc15.out;omega);intro v144 w33 ho hb hg hat;rw [← Ny143.out] at ho;replace BK141:=qo.mk (blk_grown (g:=gb141) (o:=.cells #[.string ((rd_T71 l1 x13_1).f0),.string ((rd_T71 l1 x13_1).f1),.int .i64 ((rd_T71 l1 x13_1).f2)] 71 (0,0)) (bx_ BK141).out hg (Kd.S_ne HO_5.out BK141.out (by decide)));replace HB:=qo.mk (hb);have HO145:=qo.mk (ho);clear HO_5 HO_6;clear ho hb hg hat;obtain ⟨hcz35_0,hcz35_1,hcz35_2,hfz35_0,hfz35_1,hfz35_2⟩:=c3f_ BK141.out)|((with_reducible refine gate_builtin (b:=.append) (xs:=#[.tmp 33,.tmp 35]) rfl ?_);at_builtin;refine Kd.R_append k71 (w0:=w) w.heap.size rfl (.tmp 33) (.tmp 35) 68 71 (.agg #[(.string ⟨#[]⟩),(.string ⟨#[]⟩),(.int .i64 0)]) 40 rfl Try.underlying68 info71 rfl (by decide) (by omega) (.slice none 0 0) ([] : List (S71)) (⟨((rd_T71 l1 x13_1).f0),((rd_T71 l1 x13_1).f1),((rd_T71 l1 x13_1).f2)⟩ : S71) [.string ((rd_T71 l1 x13_1).f0),.string ((rd_T71 l1 x13_1).f1),.int .i64 ((rd_T71 l1 x13_1).f2)] (fun k_=>k_ ≠ gb141) (fun _=>False) rfl rfl ?aP (fun _ hk=>hk.elim) ?aF ?aO ?aB ?aS ?aL ?_;(case aP=>exact k71_mkM _ _ _ (⟨((rd_T71 l1 x13_1).f0),((rd_T71 l1 x13_1).f1),((rd_T71 l1 x13_1).f2)⟩ : S71));(case aB=>exact hx_);(case aF=>exact (fun k_ hk=>Kd.freshB (g:=gb141) (o:=.cells #[.string ((rd_T71 l1 x13_1).f0),.string ((rd_T71 l1 x13_1).f1),.int .i64 ((rd_T71 l1 x13_1).f2)] 71 (0,0)) (bx_ BK141).out k_ hk));(case aO=>exact ((Kd.R_nil _ _ _ _ (fun k_=>k_ ≠ gb141))));(case aS=>exact (qk hx_));(case aL=>have:=LMc16.out;omega);intro v147 w36 ho hb hg hat;rw [← Ny146.out] at ho;replace BK141:=qo.mk (blk_grown (g:=gb141) (o:=.cells #[.string ((rd_T71 l1 x13_1).f0),.string ((rd_T71 l1 x13_1).f1),.int .i64 ((rd_T71 l1 x13_1).f2)] 71 (0,0)) (bx_ BK141).out hg (by simp [Value.ownBlock]));replace HO145:=qo.mk (Kd.S_after (Kd.S_apart_nil (by (with_reducible repeat (first|apply Kd.S_alloc|apply Kd.S_drewN|apply Kd.S_drew));exact HO145.out)) hg hat);replace HB:=qo.mk (hb);have HO148:=qo.mk (ho);clear ho hb hg hat))
       go_roundg kj6
       case measure=>have:=HK1.out;have:=HJ6.out;omega
       case rel=>exact ⟨(y143),(y146),(wrap64 (0 + t142)),(wrap64 (x13_1 + 1)),rs_,rs_,H',⟨by have:=HK1.out;have:=HJ6.out;omega⟩,⟨by (with_reducible repeat (first|apply Kd.S_alloc|apply Kd.S_drewN|apply Kd.S_drew));exact Kd.S_mono HO145.out (fun _ hk=>hk.2)⟩,⟨by (with_reducible repeat (first|apply Kd.R_alloc|apply Kd.R_drewN|apply Kd.R_drew));exact Kd.R_mono HO148.out (fun _ hk=>trivial)⟩,⟨hx_⟩⟩
      rw [if_neg c16] at H
      exact absurd H (by simp)
     rw [if_neg c15] at H
     exact absurd H (by simp)
    replace c14:=Bool.eq_false_iff.mpr c14
    subst c14
    have H1 : (if x6_1.length < 3518437208883 then ((some (x6_1 ++ [(⟨((rd_T71 l1 x13_1).f0),((rd_T71 l1 x13_1).f1),((rd_T71 l1 x13_1).f2)⟩ : S71)] : List (S71))).bind fun y153=>(if a0 = 1 then ((impl_EndsPage.f kj6 ((rd_T71 l1 x13_1).f0)).bind fun t156=>(if t156 = true then (if x5_1.length < 5864062014805 then (impl_CutItems.l0 kj6 a0 (x5_1 ++ [y153]) ([] : List (S71)) 0 l1 (l1.length : Int) (wrap64 (x13_1 + 1))) else (none)) else (impl_CutItems.l0 kj6 a0 x5_1 y153 (wrap64 (x7_1 + t142)) l1 (l1.length : Int) (wrap64 (x13_1 + 1))))) else (impl_CutItems.l0 kj6 a0 x5_1 y153 (wrap64 (x7_1 + t142)) l1 (l1.length : Int) (wrap64 (x13_1 + 1))))) else (none)) = some r:=by rw [if_neg (show ¬ (false = true) by decide)] at H;exact H
    clear H
    have H:=H1
    clear H1
    by_cases c37 : x6_1.length < 3518437208883
    ·rw [if_pos c37] at H
     have LMc37:=qo.mk c37
     clear c37
     obtain ⟨y153,hy153⟩ : ∃ y_ : List (S71),y_ = (x6_1 ++ [(⟨((rd_T71 l1 x13_1).f0),((rd_T71 l1 x13_1).f1),((rd_T71 l1 x13_1).f2)⟩ : S71)]):=⟨_,rfl⟩
     replace H : (if a0 = 1 then ((impl_EndsPage.f kj6 ((rd_T71 l1 x13_1).f0)).bind fun t156=>(if t156 = true then (if x5_1.length < 5864062014805 then (impl_CutItems.l0 kj6 a0 (x5_1 ++ [y153]) ([] : List (S71)) 0 l1 (l1.length : Int) (wrap64 (x13_1 + 1))) else (none)) else (impl_CutItems.l0 kj6 a0 x5_1 y153 (wrap64 (x7_1 + t142)) l1 (l1.length : Int) (wrap64 (x13_1 + 1))))) else (impl_CutItems.l0 kj6 a0 x5_1 y153 (wrap64 (x7_1 + t142)) l1 (l1.length : Int) (wrap64 (x13_1 + 1)))) = some r:=by first|(rw [hy153];with_reducible exact H)|(have H2_:=(Option.bind_some _ _).symm.trans H;rw [hy153];with_reducible exact H2_)|(have H2_:=(Option.bind_some _ _).symm.trans H;with_reducible exact H2_)|with_reducible exact H|(rw [hy153];exact H)|exact H
     have Ny153:=qo.mk hy153
     clear hy153
     by_cases c38 : a0 = 1
     ·rw [if_pos c38] at H
      have c38b0 : (a0 == 1) = true:=beq_iff_eq.mpr c38
      have c38b1 : (a0 != 1) = false:=bne_eq_false_iff_eq.mpr c38
      clear c38
      replace H:=Option.bind_eq_some_iff.mp H
      obtain ⟨t156,A390,H⟩:=H
      replace H : (if t156 = true then (if x5_1.length < 5864062014805 then (impl_CutItems.l0 kj6 a0 (x5_1 ++ [y153]) ([] : List (S71)) 0 l1 (l1.length : Int) (wrap64 (x13_1 + 1))) else (none)) else (impl_CutItems.l0 kj6 a0 x5_1 y153 (wrap64 (x7_1 + t142)) l1 (l1.length : Int) (wrap64 (x13_1 + 1)))) = some r:=H
      have A39:=qo.mk A390
      clear A390
      by_cases c40 : t156 = true
      ·subst c40
       have H1 : (if x5_1.length < 5864062014805 then (impl_CutItems.l0 kj6 a0 (x5_1 ++ [y153]) ([] : List (S71)) 0 l1 (l1.length : Int) (wrap64 (x13_1 + 1))) else (none)) = some r:=by rw [if_pos rfl] at H;exact H
       clear H
       have H:=H1
       clear H1
       by_cases c41 : x5_1.length < 5864062014805
       ·rw [if_pos c41] at H
        have LMc41:=qo.mk c41
        clear c41
        obtain ⟨y157,hy157⟩ : ∃ y_ : List (List (S71)),y_ = (x5_1 ++ [y153]):=⟨_,rfl⟩
        replace H : (impl_CutItems.l0 kj6 a0 y157 ([] : List (S71)) 0 l1 (l1.length : Int) (wrap64 (x13_1 + 1))) = some r:=by first|(rw [hy157];with_reducible exact H)|(have H2_:=(Option.bind_some _ _).symm.trans H;rw [hy157];with_reducible exact H2_)|(have H2_:=(Option.bind_some _ _).symm.trans H;with_reducible exact H2_)|with_reducible exact H|(rw [hy157];exact H)|exact H
        have Ny157:=qo.mk hy157
        clear hy157
        have H':=qo.mk H
        clear H
        obtain ⟨hcz42_0,hcz42_1,hcz42_2,hfz42_0,hfz42_1,hfz42_2⟩:=c3f_ BK141.out
        go_wp2_with (first|((with_reducible refine gate_builtin (b:=.append) (xs:=#[.tmp 33,.tmp 35]) rfl ?_);at_builtin;refine Kd.R_append k71 (w0:=w) w.heap.size rfl (.tmp 33) (.tmp 35) 68 71 (.agg #[(.string ⟨#[]⟩),(.string ⟨#[]⟩),(.int .i64 0)]) 40 rfl Try.underlying68 info71 rfl (by decide) (by omega) u6 x6_1 (⟨((rd_T71 l1 x13_1).f0),((rd_T71 l1 x13_1).f1),((rd_T71 l1 x13_1).f2)⟩ : S71) [.string ((rd_T71 l1 x13_1).f0),.string ((rd_T71 l1 x13_1).f1),.int .i64 ((rd_T71 l1 x13_1).f2)] (fun k_=>k_ ≠ gb141) (fun _=>False) rfl rfl ?aP (fun _ hk=>hk.elim) ?aF ?aO ?aB ?aS ?aL ?_;(case aP=>exact k71_mkM _ _ _ (⟨((rd_T71 l1 x13_1).f0),((rd_T71 l1 x13_1).f1),((rd_T71 l1 x13_1).f2)⟩ : S71));(case aB=>exact hx_);(case aF=>exact (fun k_ hk=>Kd.freshB (g:=gb141) (o:=.cells #[.string ((rd_T71 l1 x13_1).f0),.string ((rd_T71 l1 x13_1).f1),.int .i64 ((rd_T71 l1 x13_1).f2)] 71 (0,0)) (bx_ BK141).out k_ hk));(case aO=>exact (by (with_reducible repeat (first|apply Kd.R_alloc|apply Kd.R_drewN|apply Kd.R_drew));exact HO_6.out));(case aS=>exact (qk hx_));(case aL=>have:=LMc37.out;omega);intro v154 w43 ho hb hg hat;rw [← Ny153.out] at ho;replace HO_5:=qo.mk (Kd.S_after (ok:=(fun k_=>k_ ≠ gb141)) (by (with_reducible repeat (first|apply Kd.S_alloc|apply Kd.S_drewN|apply Kd.S_drew));exact Kd.S_mono HO_5.out (fun _ hk=>⟨hk.2,hk.1⟩)) hg hat);replace BK141:=qo.mk (blk_grown (g:=gb141) (o:=.cells #[.string ((rd_T71 l1 x13_1).f0),.string ((rd_T71 l1 x13_1).f1),.int .i64 ((rd_T71 l1 x13_1).f2)] 71 (0,0)) (bx_ BK141).out hg (Kd.R_away HO_6.out (fun _ hk=>hk)));replace HB:=qo.mk (hb);have HO155:=qo.mk (ho);clear HO_6;clear ho hb hg hat;obtain ⟨hcz44_0,hcz44_1,hcz44_2,hfz44_0,hfz44_1,hfz44_2⟩:=c3f_ BK141.out)|(go_at_call 70;(with_reducible refine (impl_EndsPage.calls kj6 ((rd_T71 l1 x13_1).f0) true _ A39.out).mono ?_);rintro e w' ⟨rfl,⟨nd,rfl⟩⟩;obtain ⟨Ao46,co46,eo46⟩:=Kd.R_slice HO155.out;subst eo46)|((with_reducible refine gate_builtin (b:=.append) (xs:=#[.tmp 47,.tmp 49]) rfl ?_);at_builtin;refine Kd.S_append (Kd.slice 71 k71) (w0:=w) w.heap.size rfl (.tmp 47) (.tmp 49) 72 68 (.slice none 0 0) 24 rfl Try.underlying72 info68 rfl (by decide) (by omega) u5 x5_1 y153 [.slice Ao46 y153.length co46] (fun k_=>k_ ≠ gb141) (fun k_=>some k_ = (.slice Ao46 y153.length co46 : Value).ownBlock) rfl rfl ?aP (fun k_ hk_=>((Kd.R_mono (ok':=fun k_=>((fun k_=>k_ ≠ gb141)) k_ ∧ some k_ ≠ (u5 : Value).ownBlock) (Kd.R_apart' (HO155.out) (Kd.S_typed HO_5.out) (by decide)) (fun k_ hk=>⟨hk.1,hk.2⟩))).1 k_ hk_.symm) ?aF ?aO ?aB ?aS ?aL ?_;(case aP=>exact Kd.M_row (Kd.R_mono (Kd.R_tight rfl (Kd.R_mono (ok':=fun k_=>((fun k_=>k_ ≠ gb141)) k_ ∧ some k_ ≠ (u5 : Value).ownBlock) (Kd.R_apart' (HO155.out) (Kd.S_typed HO_5.out) (by decide)) (fun k_ hk=>⟨hk.1,hk.2⟩))) (fun _ h_=>h_)));(case aB=>exact hx_);(case aF=>exact (fun k_ hk=>Kd.freshB (g:=gb141) (o:=.cells #[.string ((rd_T71 l1 x13_1).f0),.string ((rd_T71 l1 x13_1).f1),.int .i64 ((rd_T71 l1 x13_1).f2)] 71 (0,0)) (bx_ BK141).out k_ hk));(case aO=>exact (by (with_reducible repeat (first|apply Kd.S_alloc|apply Kd.S_drewN|apply Kd.S_drew));exact Kd.S_mono HO_5.out (fun k_ hk=>⟨hk.1,fun e_=>hk.2 e_⟩)));(case aS=>exact (qk hx_));(case aL=>have:=LMc41.out;omega);intro v158 w45 ho hb hg hat;rw [← Ny157.out] at ho;replace BK141:=qo.mk (blk_grown (g:=gb141) (o:=.cells #[.string ((rd_T71 l1 x13_1).f0),.string ((rd_T71 l1 x13_1).f1),.int .i64 ((rd_T71 l1 x13_1).f2)] 71 (0,0)) (bx_ BK141).out hg (Kd.S_ne HO_5.out BK141.out (by decide)));replace HB:=qo.mk (hb);have HO159:=qo.mk (ho);clear HO_5 HO155;clear ho hb hg hat))
        go_roundg kj6
        case measure=>have:=HK1.out;have:=HJ6.out;omega
        case rel=>exact ⟨(y157),(([] : List (S71))),(0),(wrap64 (x13_1 + 1)),rs_,rs_,H',⟨by have:=HK1.out;have:=HJ6.out;omega⟩,⟨by (with_reducible repeat (first|apply Kd.S_alloc|apply Kd.S_drewN|apply Kd.S_drew));exact Kd.S_mono HO159.out (fun _ hk=>(by simp [Value.ownBlock]))⟩,⟨by first|exact Kd.R_nil _ _ _ _ _|exact Kd.N_nil _ _ _ _ _|exact Kd.V_nil _ _ _ _ _|exact Kd.Q_nil _ _ _ _ _|exact Kd.S_nil _ _ _ _ _⟩,⟨hx_⟩⟩
       rw [if_neg c41] at H
       exact absurd H (by simp)
      replace c40:=Bool.eq_false_iff.mpr c40
      subst c40
      have H1 : (impl_CutItems.l0 kj6 a0 x5_1 y153 (wrap64 (x7_1 + t142)) l1 (l1.length : Int) (wrap64 (x13_1 + 1))) = some r:=by rw [if_neg (show ¬ (false = true) by decide)] at H;exact H
      clear H
      have H:=H1
      clear H1
      have H':=qo.mk H
      clear H
      obtain ⟨hcz47_0,hcz47_1,hcz47_2,hfz47_0,hfz47_1,hfz47_2⟩:=c3f_ BK141.out
      go_wp2_with (first|((with_reducible refine gate_builtin (b:=.append) (xs:=#[.tmp 33,.tmp 35]) rfl ?_);at_builtin;refine Kd.R_append k71 (w0:=w) w.heap.size rfl (.tmp 33) (.tmp 35) 68 71 (.agg #[(.string ⟨#[]⟩),(.string ⟨#[]⟩),(.int .i64 0)]) 40 rfl Try.underlying68 info71 rfl (by decide) (by omega) u6 x6_1 (⟨((rd_T71 l1 x13_1).f0),((rd_T71 l1 x13_1).f1),((rd_T71 l1 x13_1).f2)⟩ : S71) [.string ((rd_T71 l1 x13_1).f0),.string ((rd_T71 l1 x13_1).f1),.int .i64 ((rd_T71 l1 x13_1).f2)] (fun k_=>k_ ≠ gb141) (fun _=>False) rfl rfl ?aP (fun _ hk=>hk.elim) ?aF ?aO ?aB ?aS ?aL ?_;(case aP=>exact k71_mkM _ _ _ (⟨((rd_T71 l1 x13_1).f0),((rd_T71 l1 x13_1).f1),((rd_T71 l1 x13_1).f2)⟩ : S71));(case aB=>exact hx_);(case aF=>exact (fun k_ hk=>Kd.freshB (g:=gb141) (o:=.cells #[.string ((rd_T71 l1 x13_1).f0),.string ((rd_T71 l1 x13_1).f1),.int .i64 ((rd_T71 l1 x13_1).f2)] 71 (0,0)) (bx_ BK141).out k_ hk));(case aO=>exact (by (with_reducible repeat (first|apply Kd.R_alloc|apply Kd.R_drewN|apply Kd.R_drew));exact HO_6.out));(case aS=>exact (qk hx_));(case aL=>have:=LMc37.out;omega);intro v154 w48 ho hb hg hat;rw [← Ny153.out] at ho;replace HO_5:=qo.mk (Kd.S_after (ok:=(fun k_=>k_ ≠ gb141)) (by (with_reducible repeat (first|apply Kd.S_alloc|apply Kd.S_drewN|apply Kd.S_drew));exact Kd.S_mono HO_5.out (fun _ hk=>⟨hk.2,hk.1⟩)) hg hat);replace BK141:=qo.mk (blk_grown (g:=gb141) (o:=.cells #[.string ((rd_T71 l1 x13_1).f0),.string ((rd_T71 l1 x13_1).f1),.int .i64 ((rd_T71 l1 x13_1).f2)] 71 (0,0)) (bx_ BK141).out hg (Kd.R_away HO_6.out (fun _ hk=>hk)));replace HB:=qo.mk (hb);have HO155:=qo.mk (ho);clear HO_6;clear ho hb hg hat;obtain ⟨hcz49_0,hcz49_1,hcz49_2,hfz49_0,hfz49_1,hfz49_2⟩:=c3f_ BK141.out)|(go_at_call 70;(with_reducible refine (impl_EndsPage.calls kj6 ((rd_T71 l1 x13_1).f0) false _ A39.out).mono ?_);rintro e w' ⟨rfl,⟨nd,rfl⟩⟩))
      go_roundg kj6
      case measure=>have:=HK1.out;have:=HJ6.out;omega
      case rel=>exact ⟨(x5_1),(y153),(wrap64 (x7_1 + t142)),(wrap64 (x13_1 + 1)),rs_,rs_,H',⟨by have:=HK1.out;have:=HJ6.out;omega⟩,⟨by (with_reducible repeat (first|apply Kd.S_alloc|apply Kd.S_drewN|apply Kd.S_drew));exact Kd.S_mono HO_5.out (fun _ hk=>hk.2)⟩,⟨by (with_reducible repeat (first|apply Kd.R_alloc|apply Kd.R_drewN|apply Kd.R_drew));exact Kd.R_mono HO155.out (fun _ hk=>trivial)⟩,⟨hx_⟩⟩
     rw [if_neg c38] at H
     have c38b0 : (a0 == 1) = false:=beq_eq_false_iff_ne.mpr c38
     have c38b1 : (a0 != 1) = true:=bne_iff_ne.mpr c38
     have H':=qo.mk H
     clear H
     obtain ⟨hcz50_0,hcz50_1,hcz50_2,hfz50_0,hfz50_1,hfz50_2⟩:=c3f_ BK141.out
     go_wp2_with (first|((with_reducible refine gate_builtin (b:=.append) (xs:=#[.tmp 33,.tmp 35]) rfl ?_);at_builtin;refine Kd.R_append k71 (w0:=w) w.heap.size rfl (.tmp 33) (.tmp 35) 68 71 (.agg #[(.string ⟨#[]⟩),(.string ⟨#[]⟩),(.int .i64 0)]) 40 rfl Try.underlying68 info71 rfl (by decide) (by omega) u6 x6_1 (⟨((rd_T71 l1 x13_1).f0),((rd_T71 l1 x13_1).f1),((rd_T71 l1 x13_1).f2)⟩ : S71) [.string ((rd_T71 l1 x13_1).f0),.string ((rd_T71 l1 x13_1).f1),.int .i64 ((rd_T71 l1 x13_1).f2)] (fun k_=>k_ ≠ gb141) (fun _=>False) rfl rfl ?aP (fun _ hk=>hk.elim) ?aF ?aO ?aB ?aS ?aL ?_;(case aP=>exact k71_mkM _ _ _ (⟨((rd_T71 l1 x13_1).f0),((rd_T71 l1 x13_1).f1),((rd_T71 l1 x13_1).f2)⟩ : S71));(case aB=>exact hx_);(case aF=>exact (fun k_ hk=>Kd.freshB (g:=gb141) (o:=.cells #[.string ((rd_T71 l1 x13_1).f0),.string ((rd_T71 l1 x13_1).f1),.int .i64 ((rd_T71 l1 x13_1).f2)] 71 (0,0)) (bx_ BK141).out k_ hk));(case aO=>exact (by (with_reducible repeat (first|apply Kd.R_alloc|apply Kd.R_drewN|apply Kd.R_drew));exact HO_6.out));(case aS=>exact (qk hx_));(case aL=>have:=LMc37.out;omega);intro v154 w51 ho hb hg hat;rw [← Ny153.out] at ho;replace HO_5:=qo.mk (Kd.S_after (ok:=(fun k_=>k_ ≠ gb141)) (by (with_reducible repeat (first|apply Kd.S_alloc|apply Kd.S_drewN|apply Kd.S_drew));exact Kd.S_mono HO_5.out (fun _ hk=>⟨hk.2,hk.1⟩)) hg hat);replace BK141:=qo.mk (blk_grown (g:=gb141) (o:=.cells #[.string ((rd_T71 l1 x13_1).f0),.string ((rd_T71 l1 x13_1).f1),.int .i64 ((rd_T71 l1 x13_1).f2)] 71 (0,0)) (bx_ BK141).out hg (Kd.R_away HO_6.out (fun _ hk=>hk)));replace HB:=qo.mk (hb);have HO155:=qo.mk (ho);clear HO_6;clear ho hb hg hat))
     go_roundg kj6
     case measure=>have:=HK1.out;have:=HJ6.out;omega
     case rel=>exact ⟨(x5_1),(y153),(wrap64 (x7_1 + t142)),(wrap64 (x13_1 + 1)),rs_,rs_,H',⟨by have:=HK1.out;have:=HJ6.out;omega⟩,⟨by (with_reducible repeat (first|apply Kd.S_alloc|apply Kd.S_drewN|apply Kd.S_drew));exact Kd.S_mono HO_5.out (fun _ hk=>hk.2)⟩,⟨by (with_reducible repeat (first|apply Kd.R_alloc|apply Kd.R_drewN|apply Kd.R_drew));exact Kd.R_mono HO155.out (fun _ hk=>trivial)⟩,⟨hx_⟩⟩
    rw [if_neg c37] at H
    exact absurd H (by simp)
   rw [if_neg c5] at H
   exact absurd H (by simp)
  rw [if_neg c4] at H
  exact absurd H (by simp)
 rw [if_neg c3] at H
 have c3b0 : decide (x13_1 < (l1.length : Int)) = false:=decide_eq_false c3
 clear c3
 by_cases c52 : (x6_1.length : Int) > 0
 ·rw [if_pos c52] at H
  have c52b0 : decide (0 < (x6_1.length : Int)) = true:=decide_eq_true c52
  have c52b1 : decide (0 < x6_1.length) = true:=decide_eq_true (by omega)
  clear c52
  by_cases c53 : x5_1.length < 5864062014805
  ·rw [if_pos c53] at H
   have LMc53:=qo.mk c53
   clear c53
   obtain ⟨y137,hy137⟩ : ∃ y_ : List (List (S71)),y_ = (x5_1 ++ [x6_1]):=⟨_,rfl⟩
   replace H : (some y137) = some r:=by first|(rw [hy137];with_reducible exact H)|(have H2_:=(Option.bind_some _ _).symm.trans H;rw [hy137];with_reducible exact H2_)|(have H2_:=(Option.bind_some _ _).symm.trans H;with_reducible exact H2_)|with_reducible exact H|(rw [hy137];exact H)|exact H
   have Ny137:=qo.mk hy137
   clear hy137
   obtain rfl:=Option.some.inj H
   obtain ⟨Ao54,co54,eo54⟩:=Kd.R_slice HO_6.out
   subst eo54
   go_wp2_with (first|((with_reducible refine gate_builtin (b:=.append) (xs:=#[.tmp 55,.tmp 57]) rfl ?_);at_builtin;refine Kd.S_append (Kd.slice 71 k71) (w0:=w) w.heap.size rfl (.tmp 55) (.tmp 57) 72 68 (.slice none 0 0) 24 rfl Try.underlying72 info68 rfl (by decide) (by omega) u5 x5_1 x6_1 [.slice Ao54 x6_1.length co54] (fun _=>True) (fun k_=>some k_ = (.slice Ao54 x6_1.length co54 : Value).ownBlock) rfl rfl ?aP (fun k_ hk_=>((Kd.R_mono (ok':=fun k_=>((fun _=>True)) k_ ∧ some k_ ≠ (u5 : Value).ownBlock) (Kd.R_apart' (HO_6.out) (Kd.S_typed HO_5.out) (by decide)) (fun k_ hk=>⟨trivial,hk.2⟩))).1 k_ hk_.symm) ?aF ?aO ?aB ?aS ?aL ?_;(case aP=>exact Kd.M_row (Kd.R_mono (Kd.R_tight rfl (Kd.R_mono (ok':=fun k_=>((fun _=>True)) k_ ∧ some k_ ≠ (u5 : Value).ownBlock) (Kd.R_apart' (HO_6.out) (Kd.S_typed HO_5.out) (by decide)) (fun k_ hk=>⟨trivial,hk.2⟩))) (fun _ h_=>h_)));(case aB=>exact hx_);(case aF=>exact (fun _ _=>trivial));(case aO=>exact (by (with_reducible repeat (first|apply Kd.S_alloc|apply Kd.S_drewN|apply Kd.S_drew));exact Kd.S_mono HO_5.out (fun k_ hk=>⟨trivial,fun e_=>hk e_⟩)));(case aS=>exact (qk hx_));(case aL=>have:=LMc53.out;omega);intro v138 w55 ho hb hg hat;rw [← Ny137.out] at ho;replace HB:=qo.mk (hb);have HO139:=qo.mk (ho);clear HO_5 HO_6;clear ho hb hg hat))
   go_ret
   exact ⟨_,rt_,by (with_reducible repeat (first|apply Kd.S_alloc|apply Kd.S_drewN|apply Kd.S_drew));exact HO139.out,hx_⟩
  rw [if_neg c53] at H
  exact absurd H (by simp)
 rw [if_neg c52] at H
 have c52b0 : decide (0 < (x6_1.length : Int)) = false:=decide_eq_false c52
 have c52b1 : decide (0 < x6_1.length) = false:=decide_eq_false (by omega)
 clear c52
 obtain rfl:=Option.some.inj H
 obtain ⟨Ao56,co56,eo56⟩:=Kd.R_slice HO_6.out
 subst eo56
 go_wp2
 go_ret
 exact ⟨_,rt_,by (with_reducible repeat (first|apply Kd.S_alloc|apply Kd.S_drewN|apply Kd.S_drew));exact Kd.S_mono HO_5.out (fun _ hk=>trivial),hx_⟩

end Go.Proofs.Ytcnoccefdejphaa.QFnTrees
