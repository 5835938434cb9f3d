/- Lean functions for the Go functions that the law FnExactPlaceTree reaches, and that each Go function comes to just its Lean function's answer; by a program of this session. -/
import Derived.Test.YtcnoccefdejphaaZFnExactPlaceTreex0
import Derived.Test.YtcnoccefdejphaaZFnExactPlaceTreex1
namespace Go.Proofs.Ytcnoccefdejphaa.QFnExactPlaceTree
open Go.RowKit Go.Proofs.YtcnoccefdejphaaW.PrintWords Go.Proofs.YtcnoccefdejphaaW.PrintLast Go.Proofs.YtcnoccefdejphaaW.PrintMore
attribute [local go_sem] max2_int min2_int max_two min_two max_three min_three max_four min_four   -- for this text's walks alone
set_option linter.unusedVariables false
set_option linter.unusedSimpArgs false

/-! ### spec_DeviceOk: function 31 -/
mutual
def spec_DeviceOk.j0 : Nat → Bool → List ByteArray → List (S96) → Option (Bool)
 | 0,_,_,_=>none
 | k + 1,x15,x115000,x115001=>if x15 = true then (some false) else (spec_DeviceOk.l0 k 0 x115000 x115001)
def spec_DeviceOk.l0 : Nat → Int → List ByteArray → List (S96) → Option (Bool)
 | 0,_,_,_=>none
 | k + 1,x3,x115000,x115001=>if x3 < (x115000.length : Int) then (if 0 ≤ x3 then (if ((rdOf ByteArray.empty x115000 x3).size : Int) > 64 then (some false) else (spec_DeviceOk.l0 k (wrap64 (x3 + 1)) x115000 x115001)) else (none)) else (spec_DeviceOk.l1 k 0 x115000 x115001)
def spec_DeviceOk.l1 : Nat → Int → List ByteArray → List (S96) → Option (Bool)
 | 0,_,_,_=>none
 | k + 1,x4,x115000,x115001=>if x4 < (x115001.length : Int) then (if 0 ≤ x4 then ((spec_l03Put.f x115000 x115001 ((rd_T96 x115001 x4).f0) ((rd_T96 x115001 x4).f1)).bind fun t118=>(if t118 = true then (spec_DeviceOk.l1 k (wrap64 (x4 + 1)) x115000 x115001) else (some false))) else (none)) else (some true)
end
def spec_DeviceOk.f (k : Nat) (l0_0 : List ByteArray) (l0_1 : List (S96)) : Option (Bool):=(spec_l01In.f (l0_0.length : Int) 1 400).bind fun t115=>(if t115 = true then (spec_DeviceOk.j0 k (decide ((l0_1.length : Int) > 400)) l0_0 l0_1) else (spec_DeviceOk.j0 k true l0_0 l0_1))
theorem spec_DeviceOk.mono_l : ∀ k,(∀ y0 y1 y2,LeO (spec_DeviceOk.j0 k y0 y1 y2) (spec_DeviceOk.j0 (k + 1) y0 y1 y2)) ∧ (∀ y0 y1 y2,LeO (spec_DeviceOk.l0 k y0 y1 y2) (spec_DeviceOk.l0 (k + 1) y0 y1 y2)) ∧ (∀ y0 y1 y2,LeO (spec_DeviceOk.l1 k y0 y1 y2) (spec_DeviceOk.l1 (k + 1) y0 y1 y2))
 | 0=>⟨fun _ _ _ r h=>by simp [spec_DeviceOk.j0] at h,fun _ _ _ r h=>by simp [spec_DeviceOk.l0] at h,fun _ _ _ r h=>by simp [spec_DeviceOk.l1] at h⟩
 | k + 1=>by
  obtain ⟨ih0,ih1,ih2⟩:=spec_DeviceOk.mono_l k
  refine ⟨?_,?_,?_⟩ <;> intros <;> first|unfold spec_DeviceOk.j0|unfold spec_DeviceOk.l0|unfold spec_DeviceOk.l1
  all_goals repeat' first|(with_reducible first|exact ih0 _ _ _|exact ih1 _ _ _|exact ih2 _ _ _|exact LeO.refl _|exact LeO.none _|refine LeO.ite ?_ ?_|refine LeO.bind ?_ (fun _=>?_))|exact ih0 _ _ _|exact ih1 _ _ _|exact ih2 _ _ _|exact LeO.none _|refine LeO.ite ?_ ?_|refine LeO.bind ?_ (fun _=>?_)
theorem spec_DeviceOk.mono : ∀ a0 a1 k,LeO (spec_DeviceOk.f k a0 a1) (spec_DeviceOk.f (k + 1) a0 a1):=by
 intro a0 a1 k
 obtain ⟨ih0,ih1,ih2⟩:=spec_DeviceOk.mono_l k
 unfold spec_DeviceOk.f
 repeat' first|(with_reducible first|exact ih0 _ _ _|exact ih1 _ _ _|exact ih2 _ _ _|exact LeO.refl _|exact LeO.none _|refine LeO.ite ?_ ?_|refine LeO.bind ?_ (fun _=>?_))|exact ih0 _ _ _|exact ih1 _ _ _|exact ih2 _ _ _|exact LeO.none _|refine LeO.ite ?_ ?_|refine LeO.bind ?_ (fun _=>?_)
def spec_DeviceOk.T11 : Bool × List (List Nat × List Nat):=(true,[([],[]),([],[]),([1],[1]),([],[]),([2,3],[2,3]),([4],[4]),([0,5],[0,5]),([6],[6])])
def spec_DeviceOk.B11 : List Nat:=[0,0,2,0,14,30,63,127]
theorem spec_DeviceOk.tab11 : rtab .any (opsOf Try.f31 11) = spec_DeviceOk.T11:=by kernel_rfl
theorem spec_DeviceOk.bits11 : waitsOk spec_DeviceOk.T11.2 spec_DeviceOk.B11 = true:=by kernel_rfl
set_option maxHeartbeats 8000000 in
set_option maxRecDepth 100000 in
theorem spec_DeviceOk.calls (k : Nat) (A0_0 : Option Addr) (c0_0 : Nat) (l0_0 : List ByteArray) (A0_1 : Option Addr) (c0_1 : Nat) (l0_1 : List (S96)) (r : Bool) (w : World) (hr0_0 : Kd.C Kd.string w A0_0 l0_0.length l0_0) (hc0_0 : l0_0.length ≤ c0_0) (hr0_1 : Kd.C k96 w A0_1 l0_1.length l0_1) (hc0_1 : l0_1.length ≤ c0_1) (h : spec_DeviceOk.f k l0_0 l0_1 = some r) :
  Calls Try.prog 31 #[.agg #[.slice A0_0 l0_0.length c0_0,.slice A0_1 l0_1.length c0_1]] w fun e w'=>e = .returned (.bool r) ∧ Below w.heap.size w w':=by
 have hu32:=Try.underlying32
 have hu96:=Try.underlying96
 have HR0_0:=qo.mk hr0_0
 have HC0_0:=qo.mk hc0_0
 clear hr0_0 hc0_0
 have HR0_1:=qo.mk hr0_1
 have HC0_1:=qo.mk hc0_1
 clear hr0_1 hc0_1
 have HB:=qo.mk (Below.refl w.heap.size w)
 have H : ((spec_l01In.f (l0_0.length : Int) 1 400).bind fun t115=>(if t115 = true then (spec_DeviceOk.j0 k (decide ((l0_1.length : Int) > 400)) l0_0 l0_1) else (spec_DeviceOk.j0 k true l0_0 l0_1))) = some r:=h
 clear h
 have HC2:=qo.mk H
 clear H
 go_enter Try.func31,Try.ntmps31
 go_upto_region 1 with (first|((with_reducible refine gate_dst (N:=1) rfl ?_);(try (refine gate_guard (by rfl) ?_;dsimp only));refine box_event ?hg (N:=1) ?hd (cs:=#[.slice A0_0 l0_0.length c0_0,.slice A0_1 l0_1.length c0_1]) (t:=32) ?hr ?_;(case hd=>rfl);(case hg=>rfl);(case hr=>first|(go_simp;done)|(go_simp;rfl));intro gb114 hg w3 hbox hb;have BK114:=qo.mk (hbox);have GW114:=hl_ (w:=w) hg;have GE114:=hl_ (w:=w) hg;replace HB:=hs_ HB hb;clear hb hbox hg))
 (try simp only [Act.put,List.setIfInBounds_toArray,List.set_cons_zero,List.set_cons_succ])
 go_cut [15] (fun v15 wc=>∃ (kq : Nat) (x15_1 : Bool),v15 = .bool x15_1 ∧ qo (spec_DeviceOk.j0 kq x15_1 l0_0 l0_1 = some r) ∧ qo (kq ≤ k) ∧ qo (wc.heap[gb114]? = some (.cells #[(.slice A0_0 l0_0.length c0_0),(.slice A0_1 l0_1.length c0_1)] 32 (0,0))) ∧ qo (Below w.heap.size w wc))
 case first =>
  have H:=HC2.out
  clear HC2
  replace H:=Option.bind_eq_some_iff.mp H
  obtain ⟨t115,A40,H⟩:=H
  replace H : (if t115 = true then (spec_DeviceOk.j0 k (decide ((l0_1.length : Int) > 400)) l0_0 l0_1) else (spec_DeviceOk.j0 k true l0_0 l0_1)) = some r:=H
  have A4:=qo.mk A40
  clear A40
  by_cases c5 : t115 = true
  ·subst c5
   have H1 : (spec_DeviceOk.j0 k (decide ((l0_1.length : Int) > 400)) l0_0 l0_1) = some r:=by rw [if_pos rfl] at H;exact H
   clear H
   have H:=H1
   clear H1
   have H':=qo.mk H
   clear H
   obtain ⟨hcz6_0,hcz6_1,hfz6_0,hfz6_1⟩:=c2f_ BK114.out
   go_wp2_with (first|((with_reducible refine gate_callee (f:=33) rfl ?_);refine goesL_ (some 8) rfl rfl Try.func33 (by kernel_rfl) rfl #[.int .i64 (l0_0.length : Int),.int .i64 1,.int .i64 400] rfl sm_ ?_;(with_reducible refine (spec_l01In.calls (l0_0.length : Int) 1 400 true _ A4.out).mono ?_);rintro e w' ⟨rfl,⟨nd,rfl⟩⟩;refine ⟨_,rfl,?_⟩))
   go_meet
   case rel=>exact ⟨_,(decide ((l0_1.length : Int) > 400)),rs_,H',⟨by first|omega|exact Nat.le_refl _⟩,(bx_ BK114),⟨hx_⟩⟩
  replace c5:=Bool.eq_false_iff.mpr c5
  subst c5
  have H1 : (spec_DeviceOk.j0 k true l0_0 l0_1) = some r:=by rw [if_neg (show ¬ (false = true) by decide)] at H;exact H
  clear H
  have H:=H1
  clear H1
  have H':=qo.mk H
  clear H
  obtain ⟨hcz7_0,hcz7_1,hfz7_0,hfz7_1⟩:=c2f_ BK114.out
  go_wp2_with (first|((with_reducible refine gate_callee (f:=33) rfl ?_);refine goesL_ (some 8) rfl rfl Try.func33 (by kernel_rfl) rfl #[.int .i64 (l0_0.length : Int),.int .i64 1,.int .i64 400] rfl sm_ ?_;(with_reducible refine (spec_l01In.calls (l0_0.length : Int) 1 400 false _ A4.out).mono ?_);rintro e w' ⟨rfl,⟨nd,rfl⟩⟩;refine ⟨_,rfl,?_⟩))
  go_meet
  case rel=>exact ⟨_,(true),rs_,H',⟨by first|omega|exact Nat.le_refl _⟩,(bx_ BK114),⟨hx_⟩⟩
 clear HC2
 try clear p2
 try clear c3
 try clear c5
 try clear hcz6_0
 try clear hcz6_1
 try clear hcz7_0
 try clear hcz7_1
 try clear hfz6_0
 try clear hfz6_1
 try clear hfz7_0
 try clear hfz7_1
 obtain ⟨kq,x15_1,rfl,HA,HJ1,BK114,HB⟩:=hcut
 obtain _|kj1:=kq
 ·exact absurd HA.out (by simp [spec_DeviceOk.j0])
 have H:=HA.out
 clear HA
 simp only [spec_DeviceOk.j0] at H
 by_cases c8 : x15_1 = true
 ·subst c8
  have H1 : (some false) = some r:=by rw [if_pos rfl] at H;exact H
  clear H
  have H:=H1
  clear H1
  obtain rfl:=Option.some.inj H
  go_wp2
  go_ret
  exact ⟨rt_,hx_⟩
 replace c8:=Bool.eq_false_iff.mpr c8
 subst c8
 have H1 : (spec_DeviceOk.l0 kj1 0 l0_0 l0_1) = some r:=by rw [if_neg (show ¬ (false = true) by decide)] at H;exact H
 clear H
 have H:=H1
 clear H1
 have H':=qo.mk H
 clear H
 go_wp2
 go_loopg [3] kj1 (fun kq v3 w'=>∃ (x3_2 : Int),v3 = .int .i64 x3_2 ∧ qo (spec_DeviceOk.l0 kq x3_2 l0_0 l0_1 = some r) ∧ qo (kq ≤ kj1) ∧ qo (w'.heap[gb114]? = some (.cells #[(.slice A0_0 l0_0.length c0_0),(.slice A0_1 l0_1.length c0_1)] 32 (0,0))) ∧ qo (Below w.heap.size w w'))
 case atStart=>exact ⟨(0),rs_,H',⟨Nat.le_refl _⟩,(bx_ BK114),⟨hx_⟩⟩
 clear H'
 try clear p2
 try clear c3
 try clear c5
 try clear c8
 try clear hcz6_0
 try clear hcz6_1
 try clear hcz7_0
 try clear hcz7_1
 try clear hfz6_0
 try clear hfz6_1
 try clear hfz7_0
 try clear hfz7_1
 try clear p2
 obtain ⟨x3_2,rfl,HA,HK2,BK114,HB⟩:=hrel
 obtain _|k2:=gk
 ·exact absurd HA.out (by simp [spec_DeviceOk.l0])
 have H:=HA.out
 clear HA
 simp only [spec_DeviceOk.l0] at H
 by_cases c9 : x3_2 < (l0_0.length : Int)
 ·rw [if_pos c9] at H
  have c9b0 : decide (x3_2 < (l0_0.length : Int)) = true:=decide_eq_true c9
  clear c9
  by_cases c10 : 0 ≤ x3_2
  ·rw [if_pos c10] at H
   have c10b0 : decide (0 ≤ x3_2) = true:=decide_eq_true c10
   clear c10
   by_cases c11 : ((rdOf ByteArray.empty l0_0 x3_2).size : Int) > 64
   ·rw [if_pos c11] at H
    have c11b0 : decide (64 < ((rdOf ByteArray.empty l0_0 x3_2).size : Int)) = true:=decide_eq_true c11
    have c11b1 : decide (64 < (rdOf ByteArray.empty l0_0 x3_2).size) = true:=decide_eq_true (by omega)
    clear c11
    obtain rfl:=Option.some.inj H
    obtain ⟨hcz12_0,hcz12_1,hfz12_0,hfz12_1⟩:=c2f_ BK114.out
    have p116 : 0 ≤ (x3_2 : Int):=dt_
    have q116 : x3_2 < (l0_0.length : Int):=dt_
    obtain ⟨ad116,e116,hx116_0⟩:=Kd.at_string HR0_0.out x3_2 p116 q116
    cases e116
    replace hx116_0:=cb_ HB hx116_0
    replace p116:=eq_true p116
    replace q116:=eq_true q116
    go_wp2
    go_ret
    exact ⟨rt_,hx_⟩
   rw [if_neg c11] at H
   have c11b0 : decide (64 < ((rdOf ByteArray.empty l0_0 x3_2).size : Int)) = false:=decide_eq_false c11
   have c11b1 : decide (64 < (rdOf ByteArray.empty l0_0 x3_2).size) = false:=decide_eq_false (by omega)
   clear c11
   have H':=qo.mk H
   clear H
   obtain ⟨hcz13_0,hcz13_1,hfz13_0,hfz13_1⟩:=c2f_ BK114.out
   have p116 : 0 ≤ (x3_2 : Int):=dt_
   have q116 : x3_2 < (l0_0.length : Int):=dt_
   obtain ⟨ad116,e116,hx116_0⟩:=Kd.at_string HR0_0.out x3_2 p116 q116
   cases e116
   replace hx116_0:=cb_ HB hx116_0
   replace p116:=eq_true p116
   replace q116:=eq_true q116
   go_wp2
   go_roundg k2
   case measure=>have:=HJ1.out;have:=HK2.out;omega
   case rel=>exact ⟨(wrap64 (x3_2 + 1)),rs_,H',⟨by have:=HJ1.out;have:=HK2.out;omega⟩,(bx_ BK114),⟨hx_⟩⟩
  rw [if_neg c10] at H
  exact absurd H (by simp)
 rw [if_neg c9] at H
 have c9b0 : decide (x3_2 < (l0_0.length : Int)) = false:=decide_eq_false c9
 clear c9
 have H':=qo.mk H
 clear H
 obtain ⟨hcz14_0,hcz14_1,hfz14_0,hfz14_1⟩:=c2f_ BK114.out
 go_wp2
 go_loopg [4] k2 (fun kq v4 w'=>∃ (x4_3 : Int),v4 = .int .i64 x4_3 ∧ qo (spec_DeviceOk.l1 kq x4_3 l0_0 l0_1 = some r) ∧ qo (kq ≤ k2) ∧ qo (w'.heap[gb114]? = some (.cells #[(.slice A0_0 l0_0.length c0_0),(.slice A0_1 l0_1.length c0_1)] 32 (0,0))) ∧ qo (Below w.heap.size w w'))
 case atStart=>exact ⟨(0),rs_,H',⟨Nat.le_refl _⟩,(bx_ BK114),⟨hx_⟩⟩
 clear H'
 try clear c1
 try clear p1
 try clear q1
 try clear hx1
 try clear p2
 try clear c3
 try clear c5
 try clear p6
 try clear c8
 try clear c9
 try clear c9b0
 try clear c10
 try clear c10b0
 try clear c11
 try clear c11b0
 try clear c11b1
 try clear p11
 try clear q11
 try clear hx11
 try clear hcz12_0
 try clear hcz12_1
 try clear hcz13_0
 try clear hcz13_1
 try clear hcz14_0
 try clear hcz14_1
 try clear hcz6_0
 try clear hcz6_1
 try clear hcz7_0
 try clear hcz7_1
 try clear hfz12_0
 try clear hfz12_1
 try clear hfz13_0
 try clear hfz13_1
 try clear hfz14_0
 try clear hfz14_1
 try clear hfz6_0
 try clear hfz6_1
 try clear hfz7_0
 try clear hfz7_1
 try clear hx116_0
 try clear p116
 try clear p2
 try clear q116
 obtain ⟨x4_3,rfl,HA,HK3,BK114,HB⟩:=hrel
 obtain _|k3:=gk
 ·exact absurd HA.out (by simp [spec_DeviceOk.l1])
 have H:=HA.out
 clear HA
 simp only [spec_DeviceOk.l1] at H
 by_cases c15 : x4_3 < (l0_1.length : Int)
 ·rw [if_pos c15] at H
  have c15b0 : decide (x4_3 < (l0_1.length : Int)) = true:=decide_eq_true c15
  clear c15
  by_cases c16 : 0 ≤ x4_3
  ·rw [if_pos c16] at H
   have c16b0 : decide (0 ≤ x4_3) = true:=decide_eq_true c16
   clear c16
   replace H:=Option.bind_eq_some_iff.mp H
   obtain ⟨t118,A170,H⟩:=H
   replace H : (if t118 = true then (spec_DeviceOk.l1 k3 (wrap64 (x4_3 + 1)) l0_0 l0_1) else (some false)) = some r:=H
   have A17:=qo.mk A170
   clear A170
   by_cases c18 : t118 = true
   ·subst c18
    have H1 : (spec_DeviceOk.l1 k3 (wrap64 (x4_3 + 1)) l0_0 l0_1) = some r:=by rw [if_pos rfl] at H;exact H
    clear H
    have H:=H1
    clear H1
    have H':=qo.mk H
    clear H
    obtain ⟨hcz19_0,hcz19_1,hfz19_0,hfz19_1⟩:=c2f_ BK114.out
    try go_wp2
    replace BK114:=qo.mk (qe BK114.out);replace HB:=qo.mk (qd HB.out)
    have p117 : 0 ≤ (x4_3 : Int):=dt_
    have q117 : x4_3 < (l0_1.length : Int):=dt_
    obtain ⟨ad117,e117,hx117_0,hx117_1⟩:=at_T96 HR0_1.out x4_3 p117 q117
    have hw117_1:=hx117_1
    have hw117_0:=hx117_0
    cases e117
    replace hx117_0:=cb_ HB hx117_0
    replace hx117_1:=cb_ HB hx117_1
    replace p117:=eq_true p117
    replace q117:=eq_true q117
    refine start_ (n:=8) (S:=fun w'=>w'.cell? ⟨gb114,0,none⟩ = some (.slice A0_0 l0_0.length c0_0) ∧ w'.cell? ⟨gb114,1,none⟩ = some (.slice (some ad117) l0_1.length c0_1) ∧ w'.cell? (ad117.add ((x4_3).toNat * 2)) = some (.int .i64 ((rd_T96 l0_1 x4_3).f0)) ∧ w'.cell? ⟨(ad117.add ((x4_3).toNat * 2)).block,(ad117.add ((x4_3).toNat * 2)).off + 1,none⟩ = some (.string ((rd_T96 l0_1 x4_3).f1))) (ds:=[]) (Array.replicate 8 false) (by kernel_rfl) rfl rfl ⟨(qh BK114.out 0).trans rfl,(qh BK114.out 1).trans rfl,(cb_ HB hw117_0:),(cb_ HB hw117_1:)⟩ (fun hHeld=>?_);refine with_tabW spec_DeviceOk.tab11 spec_DeviceOk.bits11 (fun HT_ HW_=>?_)
    generalize wr.drew = w20 at BK114 HB hx117_0 hx117_1 hHeld ⊢
    refine pt_ 1 38 (bz_ 8 2) ?_
    refine pt_ 3 40 (bz_ 8 10) ?_
    refine tt_ 0 37 (bz_ 8 11) hHeld (hy:=Or.inl ⟨by rfl,by rintro w' ⟨s0,s1,s2,s3⟩;go_simp;with_reducible rfl⟩) (h:=?_)
    refine tt_ 2 39 (bz_ 8 15) hHeld (hy:=Or.inl ⟨by rfl,by rintro w' ⟨s0,s1,s2,s3⟩;go_simp;with_reducible rfl⟩) (h:=?_)
    refine pt_ 4 41 (bz_ 8 31) ?_
    refine tt_ 5 42 (bz_ 8 63) hHeld (hy:=Or.inl ⟨by rfl,by rintro w' ⟨s0,s1,s2,s3⟩;go_simp;with_reducible rfl⟩) (h:=?_)
    refine one_ (i:=6) (N:=some 43) (bz_ 8 127) rfl rfl (one_of HT_.out (by kernel_rfl)) (by decide) (fun K hK=>?_)
    refine goes_ Try.func61 (by kernel_rfl) rfl #[.agg #[.slice A0_0 l0_0.length c0_0,.slice (some ad117) l0_1.length c0_1],.agg #[.int .i64 ((rd_T96 l0_1 x4_3).f0),.string ((rd_T96 l0_1 x4_3).f1)]] (by rfl) rfl rfl sm_ ?_
    with_reducible refine (spec_l03Put.calls _ _ l0_0 _ _ l0_1 ((rd_T96 l0_1 x4_3).f0) ((rd_T96 l0_1 x4_3).f1) true _ ?side1 ?side2 ?side3 ?side4 A17.out).mono ?_
    (case side1=>repeat (first|exact (Kd.C_below HR0_0.out HB.out)|(with_reducible refine Kd.C_alloc ?_ _)|(with_reducible refine Kd.C_drewN ?_ _)|(with_reducible refine Kd.C_drew ?_)))
    (case side2=>exact HC0_0.out)
    (case side3=>repeat (first|exact (Kd.C_below HR0_1.out HB.out)|(with_reducible refine Kd.C_alloc ?_ _)|(with_reducible refine Kd.C_drewN ?_ _)|(with_reducible refine Kd.C_drew ?_)))
    (case side4=>exact HC0_1.out)
    rintro e w21 ⟨rfl,hb⟩
    refine ⟨_,rfl,?_⟩
    replace BK114:=bb_ BK114 hb;replace HB:=hs_ HB hb
    (try clear hb)
    (try clear hb2)
    (try clear hk)
    (try clear hi)
    refine hK.out _ _ ⟨(qh BK114.out 0).trans rfl,(qh BK114.out 1).trans rfl,(cb_ HB hw117_0:),(cb_ HB hw117_1:)⟩ (fun hHeld=>?_)
    clear hK K
    refine norm_ (a':=?_) ?_ ?_
    rotate_left
    ·show Act.put _ (some 43) _ = _
     simp only [Act.put,List.setIfInBounds_toArray,List.set_cons_zero,List.set_cons_succ,i64_w,i32_w]
     rfl
    refine pt_ 7 44 (bz_ 8 255) ?_
    refine done_ (done_of HT_.out (by kernel_rfl)) ?_
    try go_wp2
    go_roundg k3
    case measure=>have:=HJ1.out;have:=HK2.out;have:=HK3.out;omega
    case rel=>exact ⟨(wrap64 (x4_3 + 1)),rs_,H',⟨by have:=HJ1.out;have:=HK2.out;have:=HK3.out;omega⟩,(bx_ BK114),⟨hx_⟩⟩
   replace c18:=Bool.eq_false_iff.mpr c18
   subst c18
   have H1 : (some false) = some r:=by rw [if_neg (show ¬ (false = true) by decide)] at H;exact H
   clear H
   have H:=H1
   clear H1
   obtain rfl:=Option.some.inj H
   obtain ⟨hcz22_0,hcz22_1,hfz22_0,hfz22_1⟩:=c2f_ BK114.out
   try go_wp2
   replace BK114:=qo.mk (qe BK114.out);replace HB:=qo.mk (qd HB.out)
   have p117 : 0 ≤ (x4_3 : Int):=dt_
   have q117 : x4_3 < (l0_1.length : Int):=dt_
   obtain ⟨ad117,e117,hx117_0,hx117_1⟩:=at_T96 HR0_1.out x4_3 p117 q117
   have hw117_1:=hx117_1
   have hw117_0:=hx117_0
   cases e117
   replace hx117_0:=cb_ HB hx117_0
   replace hx117_1:=cb_ HB hx117_1
   replace p117:=eq_true p117
   replace q117:=eq_true q117
   refine start_ (n:=8) (S:=fun w'=>w'.cell? ⟨gb114,0,none⟩ = some (.slice A0_0 l0_0.length c0_0) ∧ w'.cell? ⟨gb114,1,none⟩ = some (.slice (some ad117) l0_1.length c0_1) ∧ w'.cell? (ad117.add ((x4_3).toNat * 2)) = some (.int .i64 ((rd_T96 l0_1 x4_3).f0)) ∧ w'.cell? ⟨(ad117.add ((x4_3).toNat * 2)).block,(ad117.add ((x4_3).toNat * 2)).off + 1,none⟩ = some (.string ((rd_T96 l0_1 x4_3).f1))) (ds:=[]) (Array.replicate 8 false) (by kernel_rfl) rfl rfl ⟨(qh BK114.out 0).trans rfl,(qh BK114.out 1).trans rfl,(cb_ HB hw117_0:),(cb_ HB hw117_1:)⟩ (fun hHeld=>?_);refine with_tabW spec_DeviceOk.tab11 spec_DeviceOk.bits11 (fun HT_ HW_=>?_)
   generalize wr.drew = w23 at BK114 HB hx117_0 hx117_1 hHeld ⊢
   refine pt_ 1 38 (bz_ 8 2) ?_
   refine pt_ 3 40 (bz_ 8 10) ?_
   refine tt_ 0 37 (bz_ 8 11) hHeld (hy:=Or.inl ⟨by rfl,by rintro w' ⟨s0,s1,s2,s3⟩;go_simp;with_reducible rfl⟩) (h:=?_)
   refine tt_ 2 39 (bz_ 8 15) hHeld (hy:=Or.inl ⟨by rfl,by rintro w' ⟨s0,s1,s2,s3⟩;go_simp;with_reducible rfl⟩) (h:=?_)
   refine pt_ 4 41 (bz_ 8 31) ?_
   refine tt_ 5 42 (bz_ 8 63) hHeld (hy:=Or.inl ⟨by rfl,by rintro w' ⟨s0,s1,s2,s3⟩;go_simp;with_reducible rfl⟩) (h:=?_)
   refine one_ (i:=6) (N:=some 43) (bz_ 8 127) rfl rfl (one_of HT_.out (by kernel_rfl)) (by decide) (fun K hK=>?_)
   refine goes_ Try.func61 (by kernel_rfl) rfl #[.agg #[.slice A0_0 l0_0.length c0_0,.slice (some ad117) l0_1.length c0_1],.agg #[.int .i64 ((rd_T96 l0_1 x4_3).f0),.string ((rd_T96 l0_1 x4_3).f1)]] (by rfl) rfl rfl sm_ ?_
   with_reducible refine (spec_l03Put.calls _ _ l0_0 _ _ l0_1 ((rd_T96 l0_1 x4_3).f0) ((rd_T96 l0_1 x4_3).f1) false _ ?side1 ?side2 ?side3 ?side4 A17.out).mono ?_
   (case side1=>repeat (first|exact (Kd.C_below HR0_0.out HB.out)|(with_reducible refine Kd.C_alloc ?_ _)|(with_reducible refine Kd.C_drewN ?_ _)|(with_reducible refine Kd.C_drew ?_)))
   (case side2=>exact HC0_0.out)
   (case side3=>repeat (first|exact (Kd.C_below HR0_1.out HB.out)|(with_reducible refine Kd.C_alloc ?_ _)|(with_reducible refine Kd.C_drewN ?_ _)|(with_reducible refine Kd.C_drew ?_)))
   (case side4=>exact HC0_1.out)
   rintro e w24 ⟨rfl,hb⟩
   refine ⟨_,rfl,?_⟩
   replace BK114:=bb_ BK114 hb;replace HB:=hs_ HB hb
   (try clear hb)
   (try clear hb2)
   (try clear hk)
   (try clear hi)
   refine hK.out _ _ ⟨(qh BK114.out 0).trans rfl,(qh BK114.out 1).trans rfl,(cb_ HB hw117_0:),(cb_ HB hw117_1:)⟩ (fun hHeld=>?_)
   clear hK K
   refine norm_ (a':=?_) ?_ ?_
   rotate_left
   ·show Act.put _ (some 43) _ = _
    simp only [Act.put,List.setIfInBounds_toArray,List.set_cons_zero,List.set_cons_succ,i64_w,i32_w]
    rfl
   refine pt_ 7 44 (bz_ 8 255) ?_
   refine done_ (done_of HT_.out (by kernel_rfl)) ?_
   try go_wp2
   go_ret
   exact ⟨rt_,hx_⟩
  rw [if_neg c16] at H
  exact absurd H (by simp)
 rw [if_neg c15] at H
 have c15b0 : decide (x4_3 < (l0_1.length : Int)) = false:=decide_eq_false c15
 clear c15
 obtain rfl:=Option.some.inj H
 obtain ⟨hcz25_0,hcz25_1,hfz25_0,hfz25_1⟩:=c2f_ BK114.out
 go_wp2
 go_ret
 exact ⟨rt_,hx_⟩

end Go.Proofs.Ytcnoccefdejphaa.QFnExactPlaceTree
