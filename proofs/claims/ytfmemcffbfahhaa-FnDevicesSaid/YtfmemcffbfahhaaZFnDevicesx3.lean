/- Lean functions for the Go functions that the law FnDevices reaches, and that each Go function comes to just its Lean function's answer; by a program of this session. -/
import Derived.Test.YtfmemcffbfahhaaZFnDevicesx0
import Derived.Test.YtfmemcffbfahhaaZFnDevicesx2
namespace Go.Proofs.Ytfmemcffbfahhaa.QFnDevices
open Go.RowKit Go.Proofs.YtfmemcffbfahhaaW.PrintWords Go.Proofs.YtfmemcffbfahhaaW.PrintLast Go.Proofs.YtfmemcffbfahhaaW.PrintMore
attribute [local go_sem] max2_int min2_int max_two min_two max_three min_three max_four min_four   -- for this text's walks alone
set_option linter.unusedVariables false
set_option linter.unusedSimpArgs false

/-! ### impl_DeviceOk: function 23 -/
mutual
def impl_DeviceOk.j0 : Nat → Bool → List ByteArray → List (S98) → Option (Bool)
  | 0,_,_,_=>none
  | k + 1,x17,x189000,x189001=>if x17 = true then (some false) else (impl_DeviceOk.l0 k x189000 (x189000.length : Int) 0 x189000 x189001)
def impl_DeviceOk.l0 : Nat → List ByteArray → Int → Int → List ByteArray → List (S98) → Option (Bool)
  | 0,_,_,_,_,_=>none
  | k + 1,x19,x20,x21,x189000,x189001=>if x21 < x20 then (if 0 ≤ x21 then (if x21 < (x19.length : Int) then (if ((rdOf ByteArray.empty x19 x21).size : Int) > 64 then (some false) else (impl_DeviceOk.l0 k x19 x20 (wrap64 (x21 + 1)) x189000 x189001)) else (none)) else (none)) else (impl_DeviceOk.l1 k x189001 (x189001.length : Int) 0 x189000 x189001)
def impl_DeviceOk.l1 : Nat → List (S98) → Int → Int → List ByteArray → List (S98) → Option (Bool)
  | 0,_,_,_,_,_=>none
  | k + 1,x30,x31,x32,x189000,x189001=>if x32 < x31 then (if 0 ≤ x32 then (if x32 < (x30.length : Int) then ((impl_in.f ((rd_T98 x30 x32).f0) 0 (wrap64 ((x189000.length : Int) - 1))).bind fun t193=>(if t193 = true then (if (((rd_T98 x30 x32).f1).size : Int) > 64 then (some false) else (impl_DeviceOk.l1 k x30 x31 (wrap64 (x32 + 1)) x189000 x189001)) else (some false))) else (none)) else (none)) else (some true)
end
def impl_DeviceOk.f (k : Nat) (l0_0 : List ByteArray) (l0_1 : List (S98)) : Option (Bool):=(impl_in.f (l0_0.length : Int) 1 400).bind fun t189=>(if t189 = true then (impl_DeviceOk.j0 k (decide ((l0_1.length : Int) > 400)) l0_0 l0_1) else (impl_DeviceOk.j0 k true l0_0 l0_1))
theorem impl_DeviceOk.mono_l : ∀ k,(∀ y0 y1 y2,LeO (impl_DeviceOk.j0 k y0 y1 y2) (impl_DeviceOk.j0 (k + 1) y0 y1 y2)) ∧ (∀ y0 y1 y2 y3 y4,LeO (impl_DeviceOk.l0 k y0 y1 y2 y3 y4) (impl_DeviceOk.l0 (k + 1) y0 y1 y2 y3 y4)) ∧ (∀ y0 y1 y2 y3 y4,LeO (impl_DeviceOk.l1 k y0 y1 y2 y3 y4) (impl_DeviceOk.l1 (k + 1) y0 y1 y2 y3 y4))
  | 0=>⟨fun _ _ _ r h=>by simp [impl_DeviceOk.j0] at h,fun _ _ _ _ _ r h=>by simp [impl_DeviceOk.l0] at h,fun _ _ _ _ _ r h=>by simp [impl_DeviceOk.l1] at h⟩
  | k + 1=>by
    obtain ⟨ih0,ih1,ih2⟩:=impl_DeviceOk.mono_l k
    refine ⟨?_,?_,?_⟩
    · intro y0 y1 y2
      unfold impl_DeviceOk.j0
      repeat' first
      | (with_reducible exact ih0 _ _ _)
      | (with_reducible exact ih1 _ _ _ _ _)
      | (with_reducible exact ih2 _ _ _ _ _)
      | (with_reducible exact LeO.refl _)
      | (with_reducible exact LeO.none _)
      | (with_reducible refine LeO.ite ?_ ?_)
      | (with_reducible refine LeO.bind ?_ (fun _=>?_))
      | exact ih0 _ _ _
      | exact ih1 _ _ _ _ _
      | exact ih2 _ _ _ _ _
      | exact LeO.none _
      | refine LeO.ite ?_ ?_
      | refine LeO.bind ?_ (fun _=>?_)
    · intro y0 y1 y2 y3 y4
      unfold impl_DeviceOk.l0
      repeat' first
      | (with_reducible exact ih0 _ _ _)
      | (with_reducible exact ih1 _ _ _ _ _)
      | (with_reducible exact ih2 _ _ _ _ _)
      | (with_reducible exact LeO.refl _)
      | (with_reducible exact LeO.none _)
      | (with_reducible refine LeO.ite ?_ ?_)
      | (with_reducible refine LeO.bind ?_ (fun _=>?_))
      | exact ih0 _ _ _
      | exact ih1 _ _ _ _ _
      | exact ih2 _ _ _ _ _
      | exact LeO.none _
      | refine LeO.ite ?_ ?_
      | refine LeO.bind ?_ (fun _=>?_)
    · intro y0 y1 y2 y3 y4
      unfold impl_DeviceOk.l1
      repeat' first
      | (with_reducible exact ih0 _ _ _)
      | (with_reducible exact ih1 _ _ _ _ _)
      | (with_reducible exact ih2 _ _ _ _ _)
      | (with_reducible exact LeO.refl _)
      | (with_reducible exact LeO.none _)
      | (with_reducible refine LeO.ite ?_ ?_)
      | (with_reducible refine LeO.bind ?_ (fun _=>?_))
      | exact ih0 _ _ _
      | exact ih1 _ _ _ _ _
      | exact ih2 _ _ _ _ _
      | exact LeO.none _
      | refine LeO.ite ?_ ?_
      | refine LeO.bind ?_ (fun _=>?_)
theorem impl_DeviceOk.mono : ∀ a0 a1 k,LeO (impl_DeviceOk.f k a0 a1) (impl_DeviceOk.f (k + 1) a0 a1):=by
  intro a0 a1 k
  obtain ⟨ih0,ih1,ih2⟩:=impl_DeviceOk.mono_l k
  unfold impl_DeviceOk.f
  repeat' first
      | (with_reducible exact ih0 _ _ _)
      | (with_reducible exact ih1 _ _ _ _ _)
      | (with_reducible exact ih2 _ _ _ _ _)
      | (with_reducible exact LeO.refl _)
      | (with_reducible exact LeO.none _)
      | (with_reducible refine LeO.ite ?_ ?_)
      | (with_reducible refine LeO.bind ?_ (fun _=>?_))
      | exact ih0 _ _ _
      | exact ih1 _ _ _ _ _
      | exact ih2 _ _ _ _ _
      | exact LeO.none _
      | refine LeO.ite ?_ ?_
      | refine LeO.bind ?_ (fun _=>?_)
set_option maxHeartbeats 8000000 in
set_option maxRecDepth 100000 in
theorem impl_DeviceOk.calls (k : Nat) (A0_0 : Option Addr) (c0_0 : Nat) (l0_0 : List ByteArray) (A0_1 : Option Addr) (c0_1 : Nat) (l0_1 : List (S98)) (r : Bool) (w : World) (hr0_0 : Kd.C Kd.string w A0_0 l0_0.length l0_0) (hc0_0 : l0_0.length ≤ c0_0) (hr0_1 : Kd.C k98 w A0_1 l0_1.length l0_1) (hc0_1 : l0_1.length ≤ c0_1) (h : impl_DeviceOk.f k l0_0 l0_1 = some r) :
    Calls Try.prog 23 #[.agg #[.slice A0_0 l0_0.length c0_0,.slice A0_1 l0_1.length c0_1]] w fun e w'=>e = .returned (.bool r) ∧ Below w.heap.size w w':=by
  have hu40:=Try.underlying40
  have hu98:=Try.underlying98
  have HR0_0:=qn.mk hr0_0
  have HC0_0:=qn.mk hc0_0
  clear hr0_0 hc0_0
  have HR0_1:=qn.mk hr0_1
  have HC0_1:=qn.mk hc0_1
  clear hr0_1 hc0_1
  have HB:=qn.mk (Below.refl w.heap.size w)
  have H : ((impl_in.f (l0_0.length : Int) 1 400).bind fun t189=>(if t189 = true then (impl_DeviceOk.j0 k (decide ((l0_1.length : Int) > 400)) l0_0 l0_1) else (impl_DeviceOk.j0 k true l0_0 l0_1))) = some r:=h
  clear h
  have HC2:=qn.mk H
  clear H
  go_enter Try.func23,Try.ntmps23
  go_upto_region 1 with (first|((with_reducible refine gate_dst (N:=1) rfl ?_);(try (refine gate_guard (by rfl) ?_;dsimp only));refine box_event ?hg (N:=1) ?hd (cs:=#[.slice A0_0 l0_0.length c0_0,.slice A0_1 l0_1.length c0_1]) (t:=40) ?hr ?_;(case hd=>rfl);(case hg=>rfl);(case hr=>first|(go_simp;done)|(go_simp;rfl));intro gb188 hg w3 hbox hb;have n0_:=hs_ HB hb;have n1_:=qn.mk (hbox);have n2_:=qn.mk ((by rw [hg];exact (qj (by repeat (first|(with_reducible first|exact HB.out|apply qf|apply qa|apply qd)|exact HB.out))) : w.heap.size ≤ gb188));have n3_:=qn.mk ((by rw [hg];exact (qj (by repeat (first|(with_reducible first|exact HB.out|apply qf|apply qa|apply qd)|exact HB.out))) : w.heap.size ≤ gb188));clear HB;have HB:=n0_;have BK188:=n1_;have GW188:=n2_;have GE188:=n3_;clear n0_ n1_ n2_ n3_;clear hb hbox hg))
  (try simp only [Act.put,List.setIfInBounds_toArray,List.set_cons_zero,List.set_cons_succ])
  go_cut [17] (fun v17 wc=>∃ (kq : Nat) (x17_1 : Bool),v17 = .bool x17_1 ∧ qn (impl_DeviceOk.j0 kq x17_1 l0_0 l0_1 = some r) ∧ qn (kq ≤ k) ∧ qn (wc.heap[gb188]? = some (.cells #[(.slice A0_0 l0_0.length c0_0),(.slice A0_1 l0_1.length c0_1)] 40 (0,0))) ∧ qn (Below w.heap.size w wc))
  case first =>
    have H:=HC2.out
    clear HC2
    replace H:=Option.bind_eq_some_iff.mp H
    obtain ⟨t189,A40,H⟩:=H
    replace H : (if t189 = true then (impl_DeviceOk.j0 k (decide ((l0_1.length : Int) > 400)) l0_0 l0_1) else (impl_DeviceOk.j0 k true l0_0 l0_1)) = some r:=H
    have A4:=qn.mk A40
    clear A40
    by_cases c5 : t189 = true
    · subst c5
      have H1 : (impl_DeviceOk.j0 k (decide ((l0_1.length : Int) > 400)) l0_0 l0_1) = some r:=by rw [if_pos rfl] at H;exact H
      clear H
      have H:=H1
      clear H1
      have H':=qn.mk H
      clear H
      have hcz6_0 : w3.cell? ⟨gb188,0,none⟩ = some (.slice A0_0 l0_0.length c0_0):=(qh BK188.out 0).trans rfl
      have hcz6_1 : w3.cell? ⟨gb188,1,none⟩ = some (.slice A0_1 l0_1.length c0_1):=(qh BK188.out 1).trans rfl
      have hfz6_0:=qi BK188.out 0
      have hfz6_1:=qi BK188.out 1
      go_wp2_with (first|((with_reducible refine gate_callee (f:=59) rfl ?_);refine goesL_ (some 10) rfl rfl Try.func59 (by kernel_rfl) rfl #[.int .i64 (l0_0.length : Int),.int .i64 1,.int .i64 400] rfl (by (try simp only [List.map_toArray,List.map_cons,List.map_nil]);first|done|rfl|(simp only [List.length_drop,List.length_take];rfl)) ?_;(with_reducible refine (impl_in.calls (l0_0.length : Int) 1 400 true _ A4.out).mono ?_);rintro e w' ⟨rfl,⟨nd,rfl⟩⟩;refine ⟨_,rfl,?_⟩))
      go_meet
      case rel=>exact ⟨_,(decide ((l0_1.length : Int) > 400)),(by first|rfl|(simp;done)|(simp [*];done)),H',⟨by first|omega|exact Nat.le_refl _⟩,⟨by (with_reducible repeat (first|refine qb ?_ _|refine qe ?_|refine qc ?_ _));exact BK188.out⟩,⟨by repeat (first|(with_reducible first|exact HB.out|apply qf|apply qa|apply qd|refine qg ?_ GE188.out)|exact HB.out)⟩⟩
    · replace c5:=Bool.eq_false_iff.mpr c5
      subst c5
      have H1 : (impl_DeviceOk.j0 k true l0_0 l0_1) = some r:=by rw [if_neg (show ¬ (false = true) by decide)] at H;exact H
      clear H
      have H:=H1
      clear H1
      have H':=qn.mk H
      clear H
      have hcz7_0 : w3.cell? ⟨gb188,0,none⟩ = some (.slice A0_0 l0_0.length c0_0):=(qh BK188.out 0).trans rfl
      have hcz7_1 : w3.cell? ⟨gb188,1,none⟩ = some (.slice A0_1 l0_1.length c0_1):=(qh BK188.out 1).trans rfl
      have hfz7_0:=qi BK188.out 0
      have hfz7_1:=qi BK188.out 1
      go_wp2_with (first|((with_reducible refine gate_callee (f:=59) rfl ?_);refine goesL_ (some 10) rfl rfl Try.func59 (by kernel_rfl) rfl #[.int .i64 (l0_0.length : Int),.int .i64 1,.int .i64 400] rfl (by (try simp only [List.map_toArray,List.map_cons,List.map_nil]);first|done|rfl|(simp only [List.length_drop,List.length_take];rfl)) ?_;(with_reducible refine (impl_in.calls (l0_0.length : Int) 1 400 false _ A4.out).mono ?_);rintro e w' ⟨rfl,⟨nd,rfl⟩⟩;refine ⟨_,rfl,?_⟩))
      go_meet
      case rel=>exact ⟨_,(true),(by first|rfl|(simp;done)|(simp [*];done)),H',⟨by first|omega|exact Nat.le_refl _⟩,⟨by (with_reducible repeat (first|refine qb ?_ _|refine qe ?_|refine qc ?_ _));exact BK188.out⟩,⟨by repeat (first|(with_reducible first|exact HB.out|apply qf|apply qa|apply qd|refine qg ?_ GE188.out)|exact HB.out)⟩⟩
  case rest =>
    clear HC2
    try clear c2
    try clear p2
    try clear c5
    try clear hcz6_0
    try clear hcz6_1
    try clear hcz7_0
    try clear hcz7_1
    try clear hfz6_0
    try clear hfz6_1
    try clear hfz7_0
    try clear hfz7_1
    obtain ⟨kq,x17_1,rfl,HA,HJ1,BK188,HB⟩:=hcut
    cases kq with
    | zero=>exact absurd HA.out (by simp [impl_DeviceOk.j0])
    | succ kj1 =>
      have H:=HA.out
      clear HA
      simp only [impl_DeviceOk.j0] at H
      by_cases c8 : x17_1 = true
      · subst c8
        have H1 : (some false) = some r:=by rw [if_pos rfl] at H;exact H
        clear H
        have H:=H1
        clear H1
        obtain rfl:=Option.some.inj H
        go_wp2
        go_ret
        exact ⟨by first|rfl|(simp [errW_none,errW_some] <;> rfl)|(simp [*,errW_none,errW_some] <;> rfl),by repeat (first|(with_reducible first|exact HB.out|apply qf|apply qa|apply qd|refine qg ?_ GE188.out)|exact HB.out)⟩
      · replace c8:=Bool.eq_false_iff.mpr c8
        subst c8
        have H1 : (impl_DeviceOk.l0 kj1 l0_0 (l0_0.length : Int) 0 l0_0 l0_1) = some r:=by rw [if_neg (show ¬ (false = true) by decide)] at H;exact H
        clear H
        have H:=H1
        clear H1
        have H':=qn.mk H
        clear H
        have hcz9_0 : wc.cell? ⟨gb188,0,none⟩ = some (.slice A0_0 l0_0.length c0_0):=(qh BK188.out 0).trans rfl
        have hcz9_1 : wc.cell? ⟨gb188,1,none⟩ = some (.slice A0_1 l0_1.length c0_1):=(qh BK188.out 1).trans rfl
        have hfz9_0:=qi BK188.out 0
        have hfz9_1:=qi BK188.out 1
        go_wp2
        go_loopg [21] kj1 (fun kq v21 w'=>∃ (x21_2 : Int),v21 = .int .i64 x21_2 ∧ qn (impl_DeviceOk.l0 kq l0_0 (l0_0.length : Int) x21_2 l0_0 l0_1 = some r) ∧ qn (kq ≤ kj1) ∧ qn (w'.heap[gb188]? = some (.cells #[(.slice A0_0 l0_0.length c0_0),(.slice A0_1 l0_1.length c0_1)] 40 (0,0))) ∧ qn (Below w.heap.size w w'))
        case atStart=>exact ⟨(0),(by first|rfl|(simp;done)|(simp [*];done)),H',⟨Nat.le_refl _⟩,⟨by (with_reducible repeat (first|refine qb ?_ _|refine qe ?_|refine qc ?_ _));exact BK188.out⟩,⟨by repeat (first|(with_reducible first|exact HB.out|apply qf|apply qa|apply qd|refine qg ?_ GE188.out)|exact HB.out)⟩⟩
        case round =>
          clear H'
          try clear c2
          try clear p2
          try clear c5
          try clear c8
          try clear hcz6_0
          try clear hcz6_1
          try clear hcz7_0
          try clear hcz7_1
          try clear hcz9_0
          try clear hcz9_1
          try clear hfz6_0
          try clear hfz6_1
          try clear hfz7_0
          try clear hfz7_1
          try clear hfz9_0
          try clear hfz9_1
          try clear p2
          obtain ⟨x21_2,rfl,HA,HK2,BK188,HB⟩:=hrel
          cases gk with
          | zero=>exact absurd HA.out (by simp [impl_DeviceOk.l0])
          | succ k2 =>
            have H:=HA.out
            clear HA
            simp only [impl_DeviceOk.l0] at H
            by_cases c10 : x21_2 < (l0_0.length : Int)
            · rw [if_pos c10] at H
              have c10b0 : decide (x21_2 < (l0_0.length : Int)) = true:=decide_eq_true c10
              clear c10
              by_cases c11 : 0 ≤ x21_2
              · rw [if_pos c11] at H
                have c11b0 : decide (0 ≤ x21_2) = true:=decide_eq_true c11
                clear c11
                by_cases c12 : x21_2 < (l0_0.length : Int)
                · rw [if_pos c12] at H
                  have c12b0 : decide (x21_2 < (l0_0.length : Int)) = true:=decide_eq_true c12
                  clear c12
                  by_cases c13 : ((rdOf ByteArray.empty l0_0 x21_2).size : Int) > 64
                  · rw [if_pos c13] at H
                    have c13b0 : decide (64 < ((rdOf ByteArray.empty l0_0 x21_2).size : Int)) = true:=decide_eq_true c13
                    have c13b1 : decide (64 < (rdOf ByteArray.empty l0_0 x21_2).size) = true:=decide_eq_true (by omega)
                    clear c13
                    obtain rfl:=Option.some.inj H
                    have p190 : 0 ≤ (x21_2 : Int):=of_decide_eq_true (by first|(with_reducible assumption)|assumption)
                    have q190 : x21_2 < (l0_0.length : Int):=of_decide_eq_true (by first|(with_reducible assumption)|assumption)
                    obtain ⟨ad190,e190,hx190_0⟩:=Kd.at_string HR0_0.out x21_2 p190 q190
                    cases e190
                    replace hx190_0:=cb_ HB hx190_0
                    replace p190:=eq_true p190
                    replace q190:=eq_true q190
                    go_wp2
                    go_ret
                    exact ⟨by first|rfl|(simp [errW_none,errW_some] <;> rfl)|(simp [*,errW_none,errW_some] <;> rfl),by repeat (first|(with_reducible first|exact HB.out|apply qf|apply qa|apply qd|refine qg ?_ GE188.out)|exact HB.out)⟩
                  · rw [if_neg c13] at H
                    have c13b0 : decide (64 < ((rdOf ByteArray.empty l0_0 x21_2).size : Int)) = false:=decide_eq_false c13
                    have c13b1 : decide (64 < (rdOf ByteArray.empty l0_0 x21_2).size) = false:=decide_eq_false (by omega)
                    clear c13
                    have H':=qn.mk H
                    clear H
                    have p190 : 0 ≤ (x21_2 : Int):=of_decide_eq_true (by first|(with_reducible assumption)|assumption)
                    have q190 : x21_2 < (l0_0.length : Int):=of_decide_eq_true (by first|(with_reducible assumption)|assumption)
                    obtain ⟨ad190,e190,hx190_0⟩:=Kd.at_string HR0_0.out x21_2 p190 q190
                    cases e190
                    replace hx190_0:=cb_ HB hx190_0
                    replace p190:=eq_true p190
                    replace q190:=eq_true q190
                    go_wp2
                    go_roundg k2
                    case measure=>have:=HJ1.out;have:=HK2.out;omega
                    case rel=>exact ⟨(wrap64 (x21_2 + 1)),(by first|rfl|(simp;done)|(simp [*];done)),H',⟨by have:=HJ1.out;have:=HK2.out;omega⟩,⟨by (with_reducible repeat (first|refine qb ?_ _|refine qe ?_|refine qc ?_ _));exact BK188.out⟩,⟨by repeat (first|(with_reducible first|exact HB.out|apply qf|apply qa|apply qd|refine qg ?_ GE188.out)|exact HB.out)⟩⟩
                · rw [if_neg c12] at H
                  exact absurd H (by simp)
              · rw [if_neg c11] at H
                exact absurd H (by simp)
            · rw [if_neg c10] at H
              have c10b0 : decide (x21_2 < (l0_0.length : Int)) = false:=decide_eq_false c10
              clear c10
              have H':=qn.mk H
              clear H
              have hcz14_0 : wr.cell? ⟨gb188,0,none⟩ = some (.slice A0_0 l0_0.length c0_0):=(qh BK188.out 0).trans rfl
              have hcz14_1 : wr.cell? ⟨gb188,1,none⟩ = some (.slice A0_1 l0_1.length c0_1):=(qh BK188.out 1).trans rfl
              have hfz14_0:=qi BK188.out 0
              have hfz14_1:=qi BK188.out 1
              go_wp2
              go_loopg [32] k2 (fun kq v32 w'=>∃ (x32_3 : Int),v32 = .int .i64 x32_3 ∧ qn (impl_DeviceOk.l1 kq l0_1 (l0_1.length : Int) x32_3 l0_0 l0_1 = some r) ∧ qn (kq ≤ k2) ∧ qn (w'.heap[gb188]? = some (.cells #[(.slice A0_0 l0_0.length c0_0),(.slice A0_1 l0_1.length c0_1)] 40 (0,0))) ∧ qn (Below w.heap.size w w'))
              case atStart=>exact ⟨(0),(by first|rfl|(simp;done)|(simp [*];done)),H',⟨Nat.le_refl _⟩,⟨by (with_reducible repeat (first|refine qb ?_ _|refine qe ?_|refine qc ?_ _));exact BK188.out⟩,⟨by repeat (first|(with_reducible first|exact HB.out|apply qf|apply qa|apply qd|refine qg ?_ GE188.out)|exact HB.out)⟩⟩
              case round =>
                clear H'
                try clear c1
                try clear p1
                try clear q1
                try clear hx1
                try clear c2
                try clear p2
                try clear c5
                try clear p6
                try clear c8
                try clear c10
                try clear c10b0
                try clear c11
                try clear c11b0
                try clear c12
                try clear c12b0
                try clear c13
                try clear c13b0
                try clear c13b1
                try clear hcz14_0
                try clear hcz14_1
                try clear hcz6_0
                try clear hcz6_1
                try clear hcz7_0
                try clear hcz7_1
                try clear hcz9_0
                try clear hcz9_1
                try clear hfz14_0
                try clear hfz14_1
                try clear hfz6_0
                try clear hfz6_1
                try clear hfz7_0
                try clear hfz7_1
                try clear hfz9_0
                try clear hfz9_1
                try clear hx190_0
                try clear p190
                try clear p2
                try clear q190
                obtain ⟨x32_3,rfl,HA,HK3,BK188,HB⟩:=hrel
                cases gk with
                | zero=>exact absurd HA.out (by simp [impl_DeviceOk.l1])
                | succ k3 =>
                  have H:=HA.out
                  clear HA
                  simp only [impl_DeviceOk.l1] at H
                  by_cases c15 : x32_3 < (l0_1.length : Int)
                  · rw [if_pos c15] at H
                    have c15b0 : decide (x32_3 < (l0_1.length : Int)) = true:=decide_eq_true c15
                    clear c15
                    by_cases c16 : 0 ≤ x32_3
                    · rw [if_pos c16] at H
                      have c16b0 : decide (0 ≤ x32_3) = true:=decide_eq_true c16
                      clear c16
                      by_cases c17 : x32_3 < (l0_1.length : Int)
                      · rw [if_pos c17] at H
                        have c17b0 : decide (x32_3 < (l0_1.length : Int)) = true:=decide_eq_true c17
                        clear c17
                        replace H:=Option.bind_eq_some_iff.mp H
                        obtain ⟨t193,A180,H⟩:=H
                        replace H : (if t193 = true then (if (((rd_T98 l0_1 x32_3).f1).size : Int) > 64 then (some false) else (impl_DeviceOk.l1 k3 l0_1 (l0_1.length : Int) (wrap64 (x32_3 + 1)) l0_0 l0_1)) else (some false)) = some r:=H
                        have A18:=qn.mk A180
                        clear A180
                        by_cases c19 : t193 = true
                        · subst c19
                          have H1 : (if (((rd_T98 l0_1 x32_3).f1).size : Int) > 64 then (some false) else (impl_DeviceOk.l1 k3 l0_1 (l0_1.length : Int) (wrap64 (x32_3 + 1)) l0_0 l0_1)) = some r:=by rw [if_pos rfl] at H;exact H
                          clear H
                          have H:=H1
                          clear H1
                          by_cases c20 : (((rd_T98 l0_1 x32_3).f1).size : Int) > 64
                          · rw [if_pos c20] at H
                            have c20b0 : decide (64 < (((rd_T98 l0_1 x32_3).f1).size : Int)) = true:=decide_eq_true c20
                            have c20b1 : decide (64 < ((rd_T98 l0_1 x32_3).f1).size) = true:=decide_eq_true (by omega)
                            clear c20
                            obtain rfl:=Option.some.inj H
                            have p191 : 0 ≤ (x32_3 : Int):=of_decide_eq_true (by first|(with_reducible assumption)|assumption)
                            have q191 : x32_3 < (l0_1.length : Int):=of_decide_eq_true (by first|(with_reducible assumption)|assumption)
                            obtain ⟨ad191,e191,hx191_0,hx191_1⟩:=at_T98 HR0_1.out x32_3 p191 q191
                            cases e191
                            replace hx191_0:=cb_ HB hx191_0
                            replace hx191_1:=cb_ HB hx191_1
                            replace p191:=eq_true p191
                            replace q191:=eq_true q191
                            go_wp2_with (first|((with_reducible refine gate_dst (N:=6) rfl ?_);(try (refine gate_guard (by rfl) ?_;dsimp only));refine box_event ?hg (N:=6) ?hd (cs:=#[.int .i64 0,.string (⟨#[]⟩ : ByteArray)]) (t:=98) ?hr ?_;(case hd=>rfl);(case hg=>rfl);(case hr=>first|(go_simp;done)|(go_simp;rfl));intro gb192 hg w21 hbox hb;have n0_:=bb_ BK188 hb;have n1_:=hs_ HB hb;have n2_:=qn.mk (hbox);have n3_:=qn.mk ((by rw [hg];exact (qj (by repeat (first|(with_reducible first|exact HB.out|apply qf|apply qa|apply qd|refine qg ?_ GE188.out)|exact HB.out))) : w.heap.size ≤ gb192));have n4_:=qn.mk ((by rw [hg];exact (qj (by repeat (first|(with_reducible first|exact HB.out|apply qf|apply qa|apply qd|refine qg ?_ GE188.out)|exact HB.out))) : w.heap.size ≤ gb192));have n5_:=qn.mk ((by rw [hg];exact nl_ BK188 : gb188 ≠ gb192));have n6_:=qn.mk ((by rw [hg];exact ng_ BK188 : gb192 ≠ gb188));clear BK188;clear HB;have BK188:=n0_;have HB:=n1_;have BK192:=n2_;have GW192:=n3_;have GE192:=n4_;have NB188_192:=n5_;have NB192_188:=n6_;clear n0_ n1_ n2_ n3_ n4_ n5_ n6_;clear hb hbox hg;have hnb22:=NB192_188.out;have hnc22:=NB188_192.out;have hcz23_0 : w21.cell? ⟨gb192,0,none⟩ = some (.int .i64 0):=(qh BK192.out 0).trans rfl;have hcz23_1 : w21.cell? ⟨gb192,1,none⟩ = some (.string (⟨#[]⟩ : ByteArray)):=(qh BK192.out 1).trans rfl;have hfz23_0:=qi BK192.out 0;have hfz23_1:=qi BK192.out 1;have hcz24_0 : w21.cell? ⟨gb188,0,none⟩ = some (.slice A0_0 l0_0.length c0_0):=(qh BK188.out 0).trans rfl;have hcz24_1 : w21.cell? ⟨gb188,1,none⟩ = some (.slice (some ad191) l0_1.length c0_1):=(qh BK188.out 1).trans rfl;have hfz24_0:=qi BK188.out 0;have hfz24_1:=qi BK188.out 1)|((with_reducible refine gate_callee (f:=59) rfl ?_);refine goesL_ (some 42) rfl rfl Try.func59 (by kernel_rfl) rfl #[.int .i64 ((rd_T98 l0_1 x32_3).f0),.int .i64 0,.int .i64 (wrap64 ((l0_0.length : Int) - 1))] rfl (by (try simp only [List.map_toArray,List.map_cons,List.map_nil]);first|done|rfl|(simp only [List.length_drop,List.length_take];rfl)) ?_;(with_reducible refine (impl_in.calls ((rd_T98 l0_1 x32_3).f0) 0 (wrap64 ((l0_0.length : Int) - 1)) true _ A18.out).mono ?_);rintro e w' ⟨rfl,⟨nd,rfl⟩⟩;refine ⟨_,rfl,?_⟩))
                            go_ret
                            exact ⟨by first|rfl|(simp [errW_none,errW_some] <;> rfl)|(simp [*,errW_none,errW_some] <;> rfl),by repeat (first|(with_reducible first|exact HB.out|apply qf|apply qa|apply qd|refine qg ?_ GE188.out|refine qg ?_ GE192.out)|exact HB.out)⟩
                          · rw [if_neg c20] at H
                            have c20b0 : decide (64 < (((rd_T98 l0_1 x32_3).f1).size : Int)) = false:=decide_eq_false c20
                            have c20b1 : decide (64 < ((rd_T98 l0_1 x32_3).f1).size) = false:=decide_eq_false (by omega)
                            clear c20
                            have H':=qn.mk H
                            clear H
                            have p191 : 0 ≤ (x32_3 : Int):=of_decide_eq_true (by first|(with_reducible assumption)|assumption)
                            have q191 : x32_3 < (l0_1.length : Int):=of_decide_eq_true (by first|(with_reducible assumption)|assumption)
                            obtain ⟨ad191,e191,hx191_0,hx191_1⟩:=at_T98 HR0_1.out x32_3 p191 q191
                            cases e191
                            replace hx191_0:=cb_ HB hx191_0
                            replace hx191_1:=cb_ HB hx191_1
                            replace p191:=eq_true p191
                            replace q191:=eq_true q191
                            go_wp2_with (first|((with_reducible refine gate_dst (N:=6) rfl ?_);(try (refine gate_guard (by rfl) ?_;dsimp only));refine box_event ?hg (N:=6) ?hd (cs:=#[.int .i64 0,.string (⟨#[]⟩ : ByteArray)]) (t:=98) ?hr ?_;(case hd=>rfl);(case hg=>rfl);(case hr=>first|(go_simp;done)|(go_simp;rfl));intro gb192 hg w25 hbox hb;have n0_:=bb_ BK188 hb;have n1_:=hs_ HB hb;have n2_:=qn.mk (hbox);have n3_:=qn.mk ((by rw [hg];exact (qj (by repeat (first|(with_reducible first|exact HB.out|apply qf|apply qa|apply qd|refine qg ?_ GE188.out)|exact HB.out))) : w.heap.size ≤ gb192));have n4_:=qn.mk ((by rw [hg];exact (qj (by repeat (first|(with_reducible first|exact HB.out|apply qf|apply qa|apply qd|refine qg ?_ GE188.out)|exact HB.out))) : w.heap.size ≤ gb192));have n5_:=qn.mk ((by rw [hg];exact nl_ BK188 : gb188 ≠ gb192));have n6_:=qn.mk ((by rw [hg];exact ng_ BK188 : gb192 ≠ gb188));clear BK188;clear HB;have BK188:=n0_;have HB:=n1_;have BK192:=n2_;have GW192:=n3_;have GE192:=n4_;have NB188_192:=n5_;have NB192_188:=n6_;clear n0_ n1_ n2_ n3_ n4_ n5_ n6_;clear hb hbox hg;have hnb26:=NB192_188.out;have hnc26:=NB188_192.out;have hcz27_0 : w25.cell? ⟨gb192,0,none⟩ = some (.int .i64 0):=(qh BK192.out 0).trans rfl;have hcz27_1 : w25.cell? ⟨gb192,1,none⟩ = some (.string (⟨#[]⟩ : ByteArray)):=(qh BK192.out 1).trans rfl;have hfz27_0:=qi BK192.out 0;have hfz27_1:=qi BK192.out 1;have hcz28_0 : w25.cell? ⟨gb188,0,none⟩ = some (.slice A0_0 l0_0.length c0_0):=(qh BK188.out 0).trans rfl;have hcz28_1 : w25.cell? ⟨gb188,1,none⟩ = some (.slice (some ad191) l0_1.length c0_1):=(qh BK188.out 1).trans rfl;have hfz28_0:=qi BK188.out 0;have hfz28_1:=qi BK188.out 1)|((with_reducible refine gate_callee (f:=59) rfl ?_);refine goesL_ (some 42) rfl rfl Try.func59 (by kernel_rfl) rfl #[.int .i64 ((rd_T98 l0_1 x32_3).f0),.int .i64 0,.int .i64 (wrap64 ((l0_0.length : Int) - 1))] rfl (by (try simp only [List.map_toArray,List.map_cons,List.map_nil]);first|done|rfl|(simp only [List.length_drop,List.length_take];rfl)) ?_;(with_reducible refine (impl_in.calls ((rd_T98 l0_1 x32_3).f0) 0 (wrap64 ((l0_0.length : Int) - 1)) true _ A18.out).mono ?_);rintro e w' ⟨rfl,⟨nd,rfl⟩⟩;refine ⟨_,rfl,?_⟩))
                            go_roundg k3
                            case measure=>have:=HJ1.out;have:=HK2.out;have:=HK3.out;omega
                            case rel=>exact ⟨(wrap64 (x32_3 + 1)),(by first|rfl|(simp;done)|(simp [*];done)),H',⟨by have:=HJ1.out;have:=HK2.out;have:=HK3.out;omega⟩,⟨by (with_reducible repeat (first|refine qb ?_ _|refine qe ?_|refine qc ?_ _));refine blk_far ?_ NB188_192.out _;(with_reducible repeat (first|refine qb ?_ _|refine qe ?_|refine qc ?_ _));refine blk_far ?_ NB188_192.out _;(with_reducible repeat (first|refine qb ?_ _|refine qe ?_|refine qc ?_ _));exact BK188.out⟩,⟨by repeat (first|(with_reducible first|exact HB.out|apply qf|apply qa|apply qd|refine qg ?_ GE188.out|refine qg ?_ GE192.out)|exact HB.out)⟩⟩
                        · replace c19:=Bool.eq_false_iff.mpr c19
                          subst c19
                          have H1 : (some false) = some r:=by rw [if_neg (show ¬ (false = true) by decide)] at H;exact H
                          clear H
                          have H:=H1
                          clear H1
                          obtain rfl:=Option.some.inj H
                          have p191 : 0 ≤ (x32_3 : Int):=of_decide_eq_true (by first|(with_reducible assumption)|assumption)
                          have q191 : x32_3 < (l0_1.length : Int):=of_decide_eq_true (by first|(with_reducible assumption)|assumption)
                          obtain ⟨ad191,e191,hx191_0,hx191_1⟩:=at_T98 HR0_1.out x32_3 p191 q191
                          cases e191
                          replace hx191_0:=cb_ HB hx191_0
                          replace hx191_1:=cb_ HB hx191_1
                          replace p191:=eq_true p191
                          replace q191:=eq_true q191
                          go_wp2_with (first|((with_reducible refine gate_dst (N:=6) rfl ?_);(try (refine gate_guard (by rfl) ?_;dsimp only));refine box_event ?hg (N:=6) ?hd (cs:=#[.int .i64 0,.string (⟨#[]⟩ : ByteArray)]) (t:=98) ?hr ?_;(case hd=>rfl);(case hg=>rfl);(case hr=>first|(go_simp;done)|(go_simp;rfl));intro gb192 hg w29 hbox hb;have n0_:=bb_ BK188 hb;have n1_:=hs_ HB hb;have n2_:=qn.mk (hbox);have n3_:=qn.mk ((by rw [hg];exact (qj (by repeat (first|(with_reducible first|exact HB.out|apply qf|apply qa|apply qd|refine qg ?_ GE188.out)|exact HB.out))) : w.heap.size ≤ gb192));have n4_:=qn.mk ((by rw [hg];exact (qj (by repeat (first|(with_reducible first|exact HB.out|apply qf|apply qa|apply qd|refine qg ?_ GE188.out)|exact HB.out))) : w.heap.size ≤ gb192));have n5_:=qn.mk ((by rw [hg];exact nl_ BK188 : gb188 ≠ gb192));have n6_:=qn.mk ((by rw [hg];exact ng_ BK188 : gb192 ≠ gb188));clear BK188;clear HB;have BK188:=n0_;have HB:=n1_;have BK192:=n2_;have GW192:=n3_;have GE192:=n4_;have NB188_192:=n5_;have NB192_188:=n6_;clear n0_ n1_ n2_ n3_ n4_ n5_ n6_;clear hb hbox hg;have hnb30:=NB192_188.out;have hnc30:=NB188_192.out;have hcz31_0 : w29.cell? ⟨gb192,0,none⟩ = some (.int .i64 0):=(qh BK192.out 0).trans rfl;have hcz31_1 : w29.cell? ⟨gb192,1,none⟩ = some (.string (⟨#[]⟩ : ByteArray)):=(qh BK192.out 1).trans rfl;have hfz31_0:=qi BK192.out 0;have hfz31_1:=qi BK192.out 1;have hcz32_0 : w29.cell? ⟨gb188,0,none⟩ = some (.slice A0_0 l0_0.length c0_0):=(qh BK188.out 0).trans rfl;have hcz32_1 : w29.cell? ⟨gb188,1,none⟩ = some (.slice (some ad191) l0_1.length c0_1):=(qh BK188.out 1).trans rfl;have hfz32_0:=qi BK188.out 0;have hfz32_1:=qi BK188.out 1)|((with_reducible refine gate_callee (f:=59) rfl ?_);refine goesL_ (some 42) rfl rfl Try.func59 (by kernel_rfl) rfl #[.int .i64 ((rd_T98 l0_1 x32_3).f0),.int .i64 0,.int .i64 (wrap64 ((l0_0.length : Int) - 1))] rfl (by (try simp only [List.map_toArray,List.map_cons,List.map_nil]);first|done|rfl|(simp only [List.length_drop,List.length_take];rfl)) ?_;(with_reducible refine (impl_in.calls ((rd_T98 l0_1 x32_3).f0) 0 (wrap64 ((l0_0.length : Int) - 1)) false _ A18.out).mono ?_);rintro e w' ⟨rfl,⟨nd,rfl⟩⟩;refine ⟨_,rfl,?_⟩))
                          go_ret
                          exact ⟨by first|rfl|(simp [errW_none,errW_some] <;> rfl)|(simp [*,errW_none,errW_some] <;> rfl),by repeat (first|(with_reducible first|exact HB.out|apply qf|apply qa|apply qd|refine qg ?_ GE188.out|refine qg ?_ GE192.out)|exact HB.out)⟩
                      · rw [if_neg c17] at H
                        exact absurd H (by simp)
                    · rw [if_neg c16] at H
                      exact absurd H (by simp)
                  · rw [if_neg c15] at H
                    have c15b0 : decide (x32_3 < (l0_1.length : Int)) = false:=decide_eq_false c15
                    clear c15
                    obtain rfl:=Option.some.inj H
                    go_wp2
                    go_ret
                    exact ⟨by first|rfl|(simp [errW_none,errW_some] <;> rfl)|(simp [*,errW_none,errW_some] <;> rfl),by repeat (first|(with_reducible first|exact HB.out|apply qf|apply qa|apply qd|refine qg ?_ GE188.out)|exact HB.out)⟩

/-! ### impl_copyDevice: function 63 -/
def impl_copyDevice.f (l0_0 : List ByteArray) (l0_1 : List (S98)) : Option (List ByteArray × (List (S98))):=if ([] : List ByteArray).length + l0_0.length < 8796093022208 then (if ([] : List (S98)).length + l0_1.length < 5864062014805 then (some ((([] : List ByteArray) ++ l0_0),(([] : List (S98)) ++ l0_1))) else (none)) else (none)
def impl_copyDevice.T1 : Bool × List (List Nat × List Nat):=(true,[([],[]),([0],[0]),([1],[1]),([],[]),([3],[3]),([4,2],[4]),([2,5],[2,5]),([6,5,0,1,2,3,4,5,6],[6])])
def impl_copyDevice.B1 : List Nat:=[0,1,3,0,8,31,63,127]
theorem impl_copyDevice.tab1 : rtab .any (opsOf Try.f63 1) = impl_copyDevice.T1:=by kernel_rfl
theorem impl_copyDevice.bits1 : waitsOk impl_copyDevice.T1.2 impl_copyDevice.B1 = true:=by kernel_rfl
set_option maxHeartbeats 8000000 in
set_option maxRecDepth 100000 in
theorem impl_copyDevice.calls (A0_0 : Option Addr) (c0_0 : Nat) (l0_0 : List ByteArray) (A0_1 : Option Addr) (c0_1 : Nat) (l0_1 : List (S98)) (r1 : List ByteArray) (r2 : List (S98)) (w : World) (hr0_0 : Kd.C Kd.string w A0_0 l0_0.length l0_0) (hc0_0 : l0_0.length ≤ c0_0) (hr0_1 : Kd.C k98 w A0_1 l0_1.length l0_1) (hc0_1 : l0_1.length ≤ c0_1) (h : impl_copyDevice.f l0_0 l0_1 = some (r1,r2)) :
    Calls Try.prog 63 #[.agg #[.slice A0_0 l0_0.length c0_0,.slice A0_1 l0_1.length c0_1]] w fun e w'=>∃ v0_ v1_ : Value,e = .returned (.agg #[v0_,v1_]) ∧ Kd.R Kd.string 9 w' w.heap.size (fun _=>True) v0_ r1 ∧ Kd.R k98 98 w' w.heap.size (fun _=>True) v1_ r2 ∧ Below w.heap.size w w':=by
  have hu40:=Try.underlying40
  have HR0_0:=qn.mk hr0_0
  have HC0_0:=qn.mk hc0_0
  clear hr0_0 hc0_0
  have HR0_1:=qn.mk hr0_1
  have HC0_1:=qn.mk hc0_1
  clear hr0_1 hc0_1
  have HB:=qn.mk (Below.refl w.heap.size w)
  have H : (if ([] : List ByteArray).length + l0_0.length < 8796093022208 then (if ([] : List (S98)).length + l0_1.length < 5864062014805 then (some ((([] : List ByteArray) ++ l0_0),(([] : List (S98)) ++ l0_1))) else (none)) else (none)) = some (r1,r2):=h
  clear h
  by_cases c2 : ([] : List ByteArray).length + l0_0.length < 8796093022208
  · rw [if_pos c2] at H
    have LMc2:=qn.mk c2
    clear c2
    obtain ⟨y196,hy196⟩ : ∃ y_ : List ByteArray,y_ = (([] : List ByteArray) ++ l0_0):=⟨_,rfl⟩
    replace H : (if ([] : List (S98)).length + l0_1.length < 5864062014805 then (some (y196,(([] : List (S98)) ++ l0_1))) else (none)) = some (r1,r2):=by first|(rw [hy196];with_reducible exact H)|(have H2_:=(Option.bind_some _ _).symm.trans H;rw [hy196];with_reducible exact H2_)|(have H2_:=(Option.bind_some _ _).symm.trans H;with_reducible exact H2_)|with_reducible exact H|(rw [hy196];exact H)|exact H
    have Ny196:=qn.mk hy196
    clear hy196
    by_cases c3 : ([] : List (S98)).length + l0_1.length < 5864062014805
    · rw [if_pos c3] at H
      have LMc3:=qn.mk c3
      clear c3
      obtain ⟨y199,hy199⟩ : ∃ y_ : List (S98),y_ = (([] : List (S98)) ++ l0_1):=⟨_,rfl⟩
      replace H : (some (y196,y199)) = some (r1,r2):=by first|(rw [hy199];with_reducible exact H)|(have H2_:=(Option.bind_some _ _).symm.trans H;rw [hy199];with_reducible exact H2_)|(have H2_:=(Option.bind_some _ _).symm.trans H;with_reducible exact H2_)|with_reducible exact H|(rw [hy199];exact H)|exact H
      have Ny199:=qn.mk hy199
      clear hy199
      simp only [Option.some.injEq,Prod.mk.injEq] at H
      obtain ⟨rfl,rfl⟩:=H
      go_enter Try.func63,Try.ntmps63
      try go_wp2_with (first|((with_reducible refine gate_dst (N:=1) rfl ?_);refine box_event ?hg (N:=1) ?hd (cs:=#[.slice A0_0 l0_0.length c0_0,.slice A0_1 l0_1.length c0_1]) (t:=40) ?hr ?_;(case hd=>rfl);(case hg=>rfl);(case hr=>first|(go_simp;done)|(go_simp;rfl));intro gb194 hg w4 hbox hb;have n0_:=hs_ HB hb;have n1_:=qn.mk (hbox);have n2_:=qn.mk ((by rw [hg];exact (qj (by repeat (first|(with_reducible first|exact HB.out|apply qf|apply qa|apply qd)|exact HB.out))) : w.heap.size ≤ gb194));have n3_:=qn.mk ((by rw [hg];exact (qj (by repeat (first|(with_reducible first|exact HB.out|apply qf|apply qa|apply qd)|exact HB.out))) : w.heap.size ≤ gb194));clear HB;have HB:=n0_;have BK194:=n1_;have GW194:=n2_;have GE194:=n3_;clear n0_ n1_ n2_ n3_;clear hb hbox hg)|((with_reducible refine gate_dst (N:=2) rfl ?_);refine box_event ?hg (N:=2) ?hd (cs:=#[.slice none 0 0,.slice none 0 0]) (t:=40) ?hr ?_;(case hd=>rfl);(case hg=>rfl);(case hr=>first|(go_simp;done)|(go_simp;rfl));intro gb195 hg w5 hbox hb;have n0_:=bb_ BK194 hb;have n1_:=hs_ HB hb;have n2_:=qn.mk (hbox);have n3_:=qn.mk ((by rw [hg];exact (qj (by repeat (first|(with_reducible first|exact HB.out|apply qf|apply qa|apply qd|refine qg ?_ GE194.out)|exact HB.out))) : w.heap.size ≤ gb195));have n4_:=qn.mk ((by rw [hg];exact (qj (by repeat (first|(with_reducible first|exact HB.out|apply qf|apply qa|apply qd|refine qg ?_ GE194.out)|exact HB.out))) : w.heap.size ≤ gb195));have n5_:=qn.mk ((by rw [hg];exact nl_ BK194 : gb194 ≠ gb195));have n6_:=qn.mk ((by rw [hg];exact ng_ BK194 : gb195 ≠ gb194));clear BK194;clear HB;have BK194:=n0_;have HB:=n1_;have BK195:=n2_;have GW195:=n3_;have GE195:=n4_;have NB194_195:=n5_;have NB195_194:=n6_;clear n0_ n1_ n2_ n3_ n4_ n5_ n6_;clear hb hbox hg))
      have n0_:=qn.mk (qe BK194.out)
      have n1_:=qn.mk (qe BK195.out)
      have n2_:=qn.mk (qd HB.out)
      clear BK194
      clear BK195
      clear HB
      have BK194:=n0_
      have BK195:=n1_
      have HB:=n2_
      clear n0_ n1_ n2_
      refine start_ (n:=8) (S:=fun w'=>w'.cell? ⟨gb194,0,none⟩ = some (.slice A0_0 l0_0.length c0_0) ∧ w'.cell? ⟨gb194,1,none⟩ = some (.slice A0_1 l0_1.length c0_1)) (ds:=[]) #[false,false,false,false,false,false,false,false] (by kernel_rfl) rfl rfl ⟨(qh BK194.out 0).trans rfl,(qh BK194.out 1).trans rfl⟩ (fun hHeld=>?_);refine with_tabW impl_copyDevice.tab1 impl_copyDevice.bits1 (fun HT_ HW_=>?_)
      generalize w5.drew = w6 at BK194 BK195 HB hHeld ⊢
      refine pure_ (i:=0) (N:=some 3) (v:=?_) (a':=?_) #[true,false,false,false,false,false,false,false] rfl rfl (any_of HT_.out (by kernel_rfl)) (fun _ _ _ h=>h) (Or.inl ⟨by rfl,?_⟩) ?_ ?_
      rotate_left
      · intro w'
        go_simp
        with_reducible rfl
      rotate_left
      · simp only [Act.put,List.setIfInBounds_toArray,List.set_cons_zero,List.set_cons_succ,i64_w,i32_w]
        rfl
      refine pure_ (i:=3) (N:=some 6) (v:=?_) (a':=?_) #[true,false,false,true,false,false,false,false] rfl rfl (any_of HT_.out (by kernel_rfl)) (fun _ _ _ h=>h) (Or.inl ⟨by rfl,?_⟩) ?_ ?_
      rotate_left
      · intro w'
        go_simp
        with_reducible rfl
      rotate_left
      · simp only [Act.put,List.setIfInBounds_toArray,List.set_cons_zero,List.set_cons_succ,i64_w,i32_w]
        rfl
      refine take_ (i:=1) (N:=some 4) (v:=?_) (a':=?_) #[true,true,false,true,false,false,false,false] rfl rfl (take_ofW HT_.out HW_.out (by kernel_rfl)) (fun _ _ _ h=>h) (Or.inl ⟨by rfl,?_⟩) hHeld ?_ ?_
      rotate_left
      · rintro w' ⟨s0,s1⟩
        go_simp
        with_reducible rfl
      rotate_left
      · simp only [Act.put,List.setIfInBounds_toArray,List.set_cons_zero,List.set_cons_succ,i64_w,i32_w]
        rfl
      refine take_ (i:=4) (N:=some 7) (v:=?_) (a':=?_) #[true,true,false,true,true,false,false,false] rfl rfl (take_ofW HT_.out HW_.out (by kernel_rfl)) (fun _ _ _ h=>h) (Or.inl ⟨by rfl,?_⟩) hHeld ?_ ?_
      rotate_left
      · rintro w' ⟨s0,s1⟩
        go_simp
        with_reducible rfl
      rotate_left
      · simp only [Act.put,List.setIfInBounds_toArray,List.set_cons_zero,List.set_cons_succ,i64_w,i32_w]
        rfl
      refine one_ (i:=2) (N:=some 5) #[true,true,true,true,true,false,false,false] rfl rfl (one_of HT_.out (by kernel_rfl)) (by decide) (fun K hK=>?_)
      refine Kd.R_append_rows_step Kd.string (w0:=w) w.heap.size (by rfl) (.const (.slice none 0 0)) (.tmp 4) 37 9 (.string ⟨#[]⟩) 16 rfl Try.underlying37 info9 rfl (by decide) (by omega) (.slice none 0 0) ([] : List ByteArray) l0_0 _ _ _ (fun _=>True) (fun _=>False) rfl rfl ?aO ?aR (fun _ _ h=>h) (fun _ h=>h.elim) ?aF ?aB ?aS ?aL ?_
      (case aR=>repeat (first|exact (Kd.C_below HR0_0.out HB.out)|(with_reducible refine Kd.C_alloc ?_ _)|(with_reducible refine Kd.C_drewN ?_ _)|(with_reducible refine Kd.C_drew ?_)))
      (case aB=>exact (by repeat (first|(with_reducible first|exact HB.out|apply qf|apply qa|apply qd|refine qg ?_ GE194.out|refine qg ?_ GE195.out)|exact HB.out)))
      (case aF=>exact (fun _ _=>trivial))
      (case aO=>exact ((Kd.R_nil _ _ _ _ (fun _=>True))))
      (case aS=>exact (qj (by repeat (first|(with_reducible first|exact HB.out|apply qf|apply qa|apply qd|refine qg ?_ GE194.out|refine qg ?_ GE195.out)|exact HB.out))))
      (case aL=>have:=LMc2.out;omega)
      intro v197 w7 ho hb hg hat
      rw [← Ny196.out] at ho
      have n0_:=qn.mk (blk_grown (g:=gb194) (o:=.cells #[.slice A0_0 l0_0.length c0_0,.slice A0_1 l0_1.length c0_1] 40 (0,0)) (by (with_reducible repeat (first|refine qb ?_ _|refine qe ?_|refine qc ?_ _));exact BK194.out) hg (by simp [Value.ownBlock]))
      have n1_:=qn.mk (blk_grown (g:=gb195) (o:=.cells #[.slice none 0 0,.slice none 0 0] 40 (0,0)) (by (with_reducible repeat (first|refine qb ?_ _|refine qe ?_|refine qc ?_ _));exact BK195.out) hg (by simp [Value.ownBlock]))
      have n2_:=qn.mk (hb)
      have n3_:=qn.mk (ho)
      clear BK194
      clear BK195
      clear HB
      have BK194:=n0_
      have BK195:=n1_
      have HB:=n2_
      have HO198:=n3_
      clear n0_ n1_ n2_ n3_
      clear ho hb hg hat
      refine hK.out _ _ ⟨(qh BK194.out 0).trans rfl,(qh BK194.out 1).trans rfl⟩ (fun hHeld=>?_)
      clear hK K
      refine norm_ (a':=?_) ?_ ?_
      rotate_left
      · show Act.put _ (some 5) _ = _
        simp only [Act.put,List.setIfInBounds_toArray,List.set_cons_zero,List.set_cons_succ,i64_w,i32_w]
        rfl
      refine one_ (i:=5) (N:=some 8) #[true,true,true,true,true,true,false,false] rfl rfl (one_of HT_.out (by kernel_rfl)) (by decide) (fun K hK=>?_)
      refine Kd.R_append_rows_step k98 (w0:=w) w.heap.size (by rfl) (.const (.slice none 0 0)) (.tmp 7) 38 98 (.agg #[(.int .i64 0),(.string ⟨#[]⟩)]) 24 rfl Try.underlying38 info98 rfl (by decide) (by omega) (.slice none 0 0) ([] : List (S98)) l0_1 _ _ _ (fun _=>True) (fun _=>False) rfl rfl ?aO ?aR (fun _ _ h=>h) (fun _ h=>h.elim) ?aF ?aB ?aS ?aL ?_
      (case aR=>repeat (first|exact (Kd.C_below HR0_1.out HB.out)|(with_reducible refine Kd.C_alloc ?_ _)|(with_reducible refine Kd.C_drewN ?_ _)|(with_reducible refine Kd.C_drew ?_)))
      (case aB=>exact (by repeat (first|(with_reducible first|exact HB.out|apply qf|apply qa|apply qd|refine qg ?_ GE194.out|refine qg ?_ GE195.out)|exact HB.out)))
      (case aF=>exact (fun _ _=>trivial))
      (case aO=>exact ((Kd.R_nil _ _ _ _ (fun _=>True))))
      (case aS=>exact (qj (by repeat (first|(with_reducible first|exact HB.out|apply qf|apply qa|apply qd|refine qg ?_ GE194.out|refine qg ?_ GE195.out)|exact HB.out))))
      (case aL=>have:=LMc3.out;omega)
      intro v200 w8 ho hb hg hat
      rw [← Ny199.out] at ho
      have n0_:=qn.mk (blk_grown (g:=gb194) (o:=.cells #[.slice A0_0 l0_0.length c0_0,.slice A0_1 l0_1.length c0_1] 40 (0,0)) (by (with_reducible repeat (first|refine qb ?_ _|refine qe ?_|refine qc ?_ _));exact BK194.out) hg (by simp [Value.ownBlock]))
      have n1_:=qn.mk (blk_grown (g:=gb195) (o:=.cells #[.slice none 0 0,.slice none 0 0] 40 (0,0)) (by (with_reducible repeat (first|refine qb ?_ _|refine qe ?_|refine qc ?_ _));exact BK195.out) hg (by simp [Value.ownBlock]))
      have n2_:=qn.mk (Kd.R_grown (by (with_reducible repeat (first|apply Kd.R_alloc|apply Kd.R_drewN|apply Kd.R_drew));exact HO198.out) hg (fun _ _=>by simp [Value.ownBlock]))
      have n3_:=qn.mk (hb)
      have n4_:=qn.mk (ho)
      clear BK194
      clear BK195
      clear HO198
      clear HB
      have BK194:=n0_
      have BK195:=n1_
      have HO198:=n2_
      have HB:=n3_
      have HO201:=n4_
      clear n0_ n1_ n2_ n3_ n4_
      clear ho hb hg hat
      obtain ⟨Ao9,co9,eo9⟩:=Kd.R_slice HO201.out
      (first|subst eo9|(injection eo9 with f1_ f2_ f3_;have f4_:=f1_.symm;have f5_:=f3_.symm;clear f1_ f2_ f3_;subst f4_;subst f5_))
      obtain ⟨Ao10,co10,eo10⟩:=Kd.R_slice HO198.out
      (first|subst eo10|(injection eo10 with f1_ f2_ f3_;have f4_:=f1_.symm;have f5_:=f3_.symm;clear f1_ f2_ f3_;subst f4_;subst f5_))
      refine hK.out _ _ ⟨(qh BK194.out 0).trans rfl,(qh BK194.out 1).trans rfl⟩ (fun hHeld=>?_)
      clear hK K
      refine norm_ (a':=?_) ?_ ?_
      rotate_left
      · show Act.put _ (some 8) _ = _
        simp only [Act.put,List.setIfInBounds_toArray,List.set_cons_zero,List.set_cons_succ,i64_w,i32_w]
        rfl
      refine pure_ (i:=6) (N:=some 9) (v:=?_) (a':=?_) #[true,true,true,true,true,true,true,false] rfl rfl (any_of HT_.out (by kernel_rfl)) (fun _ _ _ h=>h) (Or.inl ⟨by rfl,?_⟩) ?_ ?_
      rotate_left
      · intro w'
        go_simp
        with_reducible rfl
      rotate_left
      · simp only [Act.put,List.setIfInBounds_toArray,List.set_cons_zero,List.set_cons_succ,i64_w,i32_w]
        rfl
      refine one_ (i:=7) (N:=none) #[true,true,true,true,true,true,true,true] rfl rfl (one_of HT_.out (by kernel_rfl)) (by decide) (fun K hK=>?_)
      have hs11 : w8.cell? ⟨gb195,0,none⟩ = some (.slice none 0 0):=(qh BK195.out 0).trans rfl
      have hfs11:=qi BK195.out 0
      have hns11_0:=NB194_195.out
      have hms11_0:=NB195_194.out
      have hs12 : w8.cell? ⟨gb195,1,none⟩ = some (.slice none 0 0):=(qh BK195.out 1).trans rfl
      have hfs12:=qi BK195.out 1
      have hns12_0:=NB194_195.out
      have hms12_0:=NB195_194.out
      refine skip_ (w1:=?_) (by rfl) rfl ?_ ?_
      rotate_left
      · go_simp
        rfl
      refine hK.out _ _ ⟨((cell_far (p:=⟨gb195,_,none⟩) NB194_195.out _).trans (((cell_far (p:=⟨gb195,_,none⟩) NB194_195.out _).trans (hHeld.1)))),((cell_far (p:=⟨gb195,_,none⟩) NB194_195.out _).trans (((cell_far (p:=⟨gb195,_,none⟩) NB194_195.out _).trans (hHeld.2))))⟩ (fun hHeld=>?_)
      clear hK K
      refine done_ (done_of HT_.out (by kernel_rfl)) ?_
      try go_wp2
      refine bodyPost_ret (results_cell_row rfl _ _ gb195 40 #[.slice Ao10 y196.length co10,.slice Ao9 y199.length co9] (0,0) _ rfl (by (with_reducible repeat (first|refine qb ?_ _|refine qe ?_|refine qc ?_ _));refine blk_put (cs:=#[.slice Ao10 y196.length co10,.slice none 0 0]) ?_ 1 _ rfl;(with_reducible repeat (first|refine qb ?_ _|refine qe ?_|refine qc ?_ _));refine blk_put (cs:=#[.slice none 0 0,.slice none 0 0]) ?_ 0 _ rfl;(with_reducible repeat (first|refine qb ?_ _|refine qe ?_|refine qc ?_ _));exact BK195.out) Try.underlying40 rfl (by kernel_rfl)) rfl ?_
      exact ⟨_,_,by first|rfl|(simp [errW_none,errW_some] <;> rfl)|(simp [*,errW_none,errW_some] <;> rfl),by (with_reducible repeat (first|apply Kd.R_alloc|apply Kd.R_drewN|apply Kd.R_drew));exact Kd.R_mono (Kd.R_far (p:=⟨gb195,1,none⟩) (Kd.R_far (p:=⟨gb195,0,none⟩) (Kd.R_types HO198.out BK195.out (by decide)) (fun _ hk=>hk.2) (.slice Ao10 y196.length co10)) (fun _ hk=>hk.2) (.slice Ao9 y199.length co9)) (fun _ hk=>trivial),by (with_reducible repeat (first|apply Kd.R_alloc|apply Kd.R_drewN|apply Kd.R_drew));exact Kd.R_mono (Kd.R_far (p:=⟨gb195,1,none⟩) (Kd.R_far (p:=⟨gb195,0,none⟩) (Kd.R_types HO201.out BK195.out (by decide)) (fun _ hk=>hk.2) (.slice Ao10 y196.length co10)) (fun _ hk=>hk.2) (.slice Ao9 y199.length co9)) (fun _ hk=>trivial),by repeat (first|(with_reducible first|exact HB.out|apply qf|apply qa|apply qd|refine qg ?_ GE194.out|refine qg ?_ GE195.out)|exact HB.out)⟩
    · rw [if_neg c3] at H
      exact absurd H (by simp)
  · rw [if_neg c2] at H
    exact absurd H (by simp)

/-! ### impl_WriteSector: function 21 -/
def impl_WriteSector.f (k : Nat) (l0_0 : List ByteArray) (l0_1 : List (S98)) (a1 : Int) (a2 : ByteArray) : Option (List ByteArray × (List (S98)) × Bool):=(impl_copyDevice.f l0_0 l0_1).bind fun bt204=>(if bt204.2.length < 5864062014805 then ((some (bt204.2 ++ [(⟨a1,a2⟩ : S98)] : List (S98))).bind fun y211=>((impl_DeviceOk.f k l0_0 l0_1).bind fun t214=>(if t214 = true then ((impl_DeviceOk.f k bt204.1 y211).bind fun t215=>(if t215 = true then (some (bt204.1,y211,true)) else (some (([] : List ByteArray),([] : List (S98)),false)))) else (some (([] : List ByteArray),([] : List (S98)),false))))) else (none))
theorem impl_WriteSector.mono : ∀ a0 a1 a2 a3 k,LeO (impl_WriteSector.f k a0 a1 a2 a3) (impl_WriteSector.f (k + 1) a0 a1 a2 a3):=by
  intro a0 a1 a2 a3 k
  unfold impl_WriteSector.f
  repeat' first
      | (with_reducible exact impl_DeviceOk.mono _ _ _)
      | (with_reducible exact LeO.refl _)
      | (with_reducible exact LeO.none _)
      | (with_reducible refine LeO.ite ?_ ?_)
      | (with_reducible refine LeO.bind ?_ (fun _=>?_))
      | exact impl_DeviceOk.mono _ _ _
      | exact LeO.none _
      | refine LeO.ite ?_ ?_
      | refine LeO.bind ?_ (fun _=>?_)
set_option maxHeartbeats 8000000 in
set_option maxRecDepth 100000 in
theorem impl_WriteSector.calls (k : Nat) (A0_0 : Option Addr) (c0_0 : Nat) (l0_0 : List ByteArray) (A0_1 : Option Addr) (c0_1 : Nat) (l0_1 : List (S98)) (a1 : Int) (a2 : ByteArray) (r1 : List ByteArray) (r2 : List (S98)) (r3 : Bool) (w : World) (hr0_0 : Kd.C Kd.string w A0_0 l0_0.length l0_0) (hc0_0 : l0_0.length ≤ c0_0) (hr0_1 : Kd.C k98 w A0_1 l0_1.length l0_1) (hc0_1 : l0_1.length ≤ c0_1) (h : impl_WriteSector.f k l0_0 l0_1 a1 a2 = some (r1,r2,r3)) :
    Calls Try.prog 21 #[.agg #[.slice A0_0 l0_0.length c0_0,.slice A0_1 l0_1.length c0_1],.int .i64 a1,.string a2] w fun e w'=>∃ v0_ v1_ : Value,e = .returned (.tuple #[.agg #[v0_,v1_],.bool r3]) ∧ Kd.R Kd.string 9 w' w.heap.size (fun _=>True) v0_ r1 ∧ Kd.R k98 98 w' w.heap.size (fun _=>True) v1_ r2 ∧ Below w.heap.size w w':=by
  have hu40:=Try.underlying40
  have hu98:=Try.underlying98
  have HR0_0:=qn.mk hr0_0
  have HC0_0:=qn.mk hc0_0
  clear hr0_0 hc0_0
  have HR0_1:=qn.mk hr0_1
  have HC0_1:=qn.mk hc0_1
  clear hr0_1 hc0_1
  have HB:=qn.mk (Below.refl w.heap.size w)
  have H : ((impl_copyDevice.f l0_0 l0_1).bind fun bt204=>(if bt204.2.length < 5864062014805 then ((some (bt204.2 ++ [(⟨a1,a2⟩ : S98)] : List (S98))).bind fun y211=>((impl_DeviceOk.f k l0_0 l0_1).bind fun t214=>(if t214 = true then ((impl_DeviceOk.f k bt204.1 y211).bind fun t215=>(if t215 = true then (some (bt204.1,y211,true)) else (some (([] : List ByteArray),([] : List (S98)),false)))) else (some (([] : List ByteArray),([] : List (S98)),false))))) else (none))) = some (r1,r2,r3):=h
  clear h
  replace H:=Option.bind_eq_some_iff.mp H
  obtain ⟨⟨t204,t207⟩,A40,H⟩:=H
  replace H : (if t207.length < 5864062014805 then ((some (t207 ++ [(⟨a1,a2⟩ : S98)] : List (S98))).bind fun y211=>((impl_DeviceOk.f k l0_0 l0_1).bind fun t214=>(if t214 = true then ((impl_DeviceOk.f k t204 y211).bind fun t215=>(if t215 = true then (some (t204,y211,true)) else (some (([] : List ByteArray),([] : List (S98)),false)))) else (some (([] : List ByteArray),([] : List (S98)),false))))) else (none)) = some (r1,r2,r3):=H
  have A4:=qn.mk A40
  clear A40
  by_cases c5 : t207.length < 5864062014805
  · rw [if_pos c5] at H
    have LMc5:=qn.mk c5
    clear c5
    obtain ⟨y211,hy211⟩ : ∃ y_ : List (S98),y_ = (t207 ++ [(⟨a1,a2⟩ : S98)]):=⟨_,rfl⟩
    replace H : ((impl_DeviceOk.f k l0_0 l0_1).bind fun t214=>(if t214 = true then ((impl_DeviceOk.f k t204 y211).bind fun t215=>(if t215 = true then (some (t204,y211,true)) else (some (([] : List ByteArray),([] : List (S98)),false)))) else (some (([] : List ByteArray),([] : List (S98)),false)))) = some (r1,r2,r3):=by first|(rw [hy211];with_reducible exact H)|(have H2_:=(Option.bind_some _ _).symm.trans H;rw [hy211];with_reducible exact H2_)|(have H2_:=(Option.bind_some _ _).symm.trans H;with_reducible exact H2_)|with_reducible exact H|(rw [hy211];exact H)|exact H
    have Ny211:=qn.mk hy211
    clear hy211
    replace H:=Option.bind_eq_some_iff.mp H
    obtain ⟨t214,A60,H⟩:=H
    replace H : (if t214 = true then ((impl_DeviceOk.f k t204 y211).bind fun t215=>(if t215 = true then (some (t204,y211,true)) else (some (([] : List ByteArray),([] : List (S98)),false)))) else (some (([] : List ByteArray),([] : List (S98)),false))) = some (r1,r2,r3):=H
    have A6:=qn.mk A60
    clear A60
    by_cases c7 : t214 = true
    · subst c7
      have H1 : ((impl_DeviceOk.f k t204 y211).bind fun t215=>(if t215 = true then (some (t204,y211,true)) else (some (([] : List ByteArray),([] : List (S98)),false)))) = some (r1,r2,r3):=by rw [if_pos rfl] at H;exact H
      clear H
      have H:=H1
      clear H1
      replace H:=Option.bind_eq_some_iff.mp H
      obtain ⟨t215,A80,H⟩:=H
      replace H : (if t215 = true then (some (t204,y211,true)) else (some (([] : List ByteArray),([] : List (S98)),false))) = some (r1,r2,r3):=H
      have A8:=qn.mk A80
      clear A80
      by_cases c9 : t215 = true
      · subst c9
        have H1 : (some (t204,y211,true)) = some (r1,r2,r3):=by rw [if_pos rfl] at H;exact H
        clear H
        have H:=H1
        clear H1
        simp only [Option.some.injEq,Prod.mk.injEq] at H
        obtain ⟨rfl,rfl,rfl⟩:=H
        go_enter Try.func21,Try.ntmps21
        go_wp2_with (first|((with_reducible refine gate_dst (N:=3) rfl ?_);refine box_event ?hg (N:=3) ?hd (cs:=#[.slice A0_0 l0_0.length c0_0,.slice A0_1 l0_1.length c0_1]) (t:=40) ?hr ?_;(case hd=>rfl);(case hg=>rfl);(case hr=>first|(go_simp;done)|(go_simp;rfl));intro gb202 hg w10 hbox hb;have n0_:=hs_ HB hb;have n1_:=qn.mk (hbox);have n2_:=qn.mk ((by rw [hg];exact (qj (by repeat (first|(with_reducible first|exact HB.out|apply qf|apply qa|apply qd)|exact HB.out))) : w.heap.size ≤ gb202));have n3_:=qn.mk ((by rw [hg];exact (qj (by repeat (first|(with_reducible first|exact HB.out|apply qf|apply qa|apply qd)|exact HB.out))) : w.heap.size ≤ gb202));clear HB;have HB:=n0_;have BK202:=n1_;have GW202:=n2_;have GE202:=n3_;clear n0_ n1_ n2_ n3_;clear hb hbox hg)|((with_reducible refine gate_dst (N:=6) rfl ?_);refine box_event ?hg (N:=6) ?hd (cs:=#[.slice none 0 0,.slice none 0 0]) (t:=40) ?hr ?_;(case hd=>rfl);(case hg=>rfl);(case hr=>first|(go_simp;done)|(go_simp;rfl));intro gb203 hg w11 hbox hb;have n0_:=bb_ BK202 hb;have n1_:=hs_ HB hb;have n2_:=qn.mk (hbox);have n3_:=qn.mk ((by rw [hg];exact (qj (by repeat (first|(with_reducible first|exact HB.out|apply qf|apply qa|apply qd|refine qg ?_ GE202.out)|exact HB.out))) : w.heap.size ≤ gb203));have n4_:=qn.mk ((by rw [hg];exact (qj (by repeat (first|(with_reducible first|exact HB.out|apply qf|apply qa|apply qd|refine qg ?_ GE202.out)|exact HB.out))) : w.heap.size ≤ gb203));have n5_:=qn.mk ((by rw [hg];exact nl_ BK202 : gb202 ≠ gb203));have n6_:=qn.mk ((by rw [hg];exact ng_ BK202 : gb203 ≠ gb202));clear BK202;clear HB;have BK202:=n0_;have HB:=n1_;have BK203:=n2_;have GW203:=n3_;have GE203:=n4_;have NB202_203:=n5_;have NB203_202:=n6_;clear n0_ n1_ n2_ n3_ n4_ n5_ n6_;clear hb hbox hg;have hnb12:=NB202_203.out;have hnc12:=NB203_202.out;have hcz13_0 : w11.cell? ⟨gb202,0,none⟩ = some (.slice A0_0 l0_0.length c0_0):=(qh BK202.out 0).trans rfl;have hcz13_1 : w11.cell? ⟨gb202,1,none⟩ = some (.slice A0_1 l0_1.length c0_1):=(qh BK202.out 1).trans rfl;have hfz13_0:=qi BK202.out 0;have hfz13_1:=qi BK202.out 1)|((with_reducible refine gate_callee (f:=63) rfl ?_);refine goesL_ (some 10) rfl rfl Try.func63 (by kernel_rfl) rfl #[.agg #[.slice A0_0 l0_0.length c0_0,.slice A0_1 l0_1.length c0_1]] rfl (by (try simp only [List.map_toArray,List.map_cons,List.map_nil]);first|done|rfl|(simp only [List.length_drop,List.length_take];rfl)) ?_;(with_reducible refine (impl_copyDevice.calls _ _ l0_0 _ _ l0_1 t204 t207 _ ?side1 ?side2 ?side3 ?side4 A4.out).mono ?_);(case side1=>repeat (first|exact (Kd.C_below HR0_0.out HB.out)|(with_reducible refine Kd.C_alloc ?_ _)|(with_reducible refine Kd.C_drewN ?_ _)|(with_reducible refine Kd.C_drew ?_)));(case side2=>exact HC0_0.out);(case side3=>repeat (first|exact (Kd.C_below HR0_1.out HB.out)|(with_reducible refine Kd.C_alloc ?_ _)|(with_reducible refine Kd.C_drewN ?_ _)|(with_reducible refine Kd.C_drew ?_)));(case side4=>exact HC0_1.out);rintro e w14 ⟨v205,v208,rfl,ho0,ho1,hb⟩;refine ⟨_,rfl,?_⟩;have n0_:=qn.mk (Kd.R_lower ho0 (qj (by repeat (first|(with_reducible first|exact HB.out|apply qf|apply qa|apply qd|refine qg ?_ GE202.out|refine qg ?_ GE203.out)|exact HB.out))));have n1_:=qn.mk (Kd.R_lower ho1 (qj (by repeat (first|(with_reducible first|exact HB.out|apply qf|apply qa|apply qd|refine qg ?_ GE202.out|refine qg ?_ GE203.out)|exact HB.out))));have n2_:=bb_ BK202 hb;have n3_:=bb_ BK203 hb;have n4_:=hs_ HB hb;clear BK202;clear BK203;clear HB;have HO206:=n0_;have HO209:=n1_;have BK202:=n2_;have BK203:=n3_;have HB:=n4_;clear n0_ n1_ n2_ n3_ n4_;(try clear hb);(try clear hb2);(try clear hk);(try clear hi);(try clear ho0);(try clear ho1))|((with_reducible refine gate_dst (N:=8) rfl ?_);refine box_event ?hg (N:=8) ?hd (cs:=#[.slice none 0 0,.slice none 0 0]) (t:=40) ?hr ?_;(case hd=>rfl);(case hg=>rfl);(case hr=>first|(go_simp;done)|(go_simp;rfl));intro gb210 hg w15 hbox hb;have n0_:=rb_ HO206 hb;have n1_:=rb_ HO209 hb;have n2_:=bb_ BK202 hb;have n3_:=bb_ BK203 hb;have n4_:=hs_ HB hb;have n5_:=qn.mk (hbox);have n6_:=qn.mk ((by rw [hg];exact (qj (by repeat (first|(with_reducible first|exact HB.out|apply qf|apply qa|apply qd|refine qg ?_ GE202.out|refine qg ?_ GE203.out)|exact HB.out))) : w.heap.size ≤ gb210));have n7_:=qn.mk ((by rw [hg];exact (qj (by repeat (first|(with_reducible first|exact HB.out|apply qf|apply qa|apply qd|refine qg ?_ GE202.out|refine qg ?_ GE203.out)|exact HB.out))) : w.heap.size ≤ gb210));have n8_:=qn.mk ((by rw [hg];exact nl_ BK202 : gb202 ≠ gb210));have n9_:=qn.mk ((by rw [hg];exact ng_ BK202 : gb210 ≠ gb202));have n10_:=qn.mk ((by rw [hg];exact nl_ BK203 : gb203 ≠ gb210));have n11_:=qn.mk ((by rw [hg];exact ng_ BK203 : gb210 ≠ gb203));clear HO206;clear HO209;clear BK202;clear BK203;clear HB;have HO206:=n0_;have HO209:=n1_;have BK202:=n2_;have BK203:=n3_;have HB:=n4_;have BK210:=n5_;have GW210:=n6_;have GE210:=n7_;have NB202_210:=n8_;have NB210_202:=n9_;have NB203_210:=n10_;have NB210_203:=n11_;clear n0_ n1_ n2_ n3_ n4_ n5_ n6_ n7_ n8_ n9_ n10_ n11_;clear hb hbox hg;obtain ⟨Ao16,co16,eo16⟩:=Kd.R_slice HO206.out;subst eo16;have hnb17:=NB210_202.out;have hnc17:=NB202_210.out;have hnb18:=NB210_203.out;have hnc18:=NB203_210.out;have hcz19_0 : w15.cell? ⟨gb210,0,none⟩ = some (.slice none 0 0):=(qh BK210.out 0).trans rfl;have hcz19_1 : w15.cell? ⟨gb210,1,none⟩ = some (.slice none 0 0):=(qh BK210.out 1).trans rfl;have hfz19_0:=qi BK210.out 0;have hfz19_1:=qi BK210.out 1;obtain ⟨Ao20,co20,eo20⟩:=Kd.R_slice HO209.out;subst eo20)|((with_reducible refine gate_builtin (b:=.append) (xs:=#[.tmp 12,.tmp 16]) rfl ?_);at_builtin;refine Kd.R_append k98 (w0:=w) w.heap.size rfl (.tmp 12) (.tmp 16) 38 98 (.agg #[(.int .i64 0),(.string ⟨#[]⟩)]) 24 rfl Try.underlying38 info98 rfl (by decide) (by omega) (.slice Ao20 t207.length co20) t207 (⟨a1,a2⟩ : S98) [.int .i64 a1,.string a2] (fun _=>True) (fun _=>False) rfl (by first|(go_simp;done)|(go_simp;rfl)) ?aP (fun _ hk=>hk.elim) ?aF ?aO ?aB ?aS ?aL ?_;(case aP=>exact k98_mkM _ _ _ (⟨a1,a2⟩ : S98));(case aB=>exact (by repeat (first|(with_reducible first|exact HB.out|apply qf|apply qa|apply qd|refine qg ?_ GE202.out|refine qg ?_ GE203.out|refine qg ?_ GE210.out)|exact HB.out)));(case aF=>exact (fun _ _=>trivial));(case aO=>exact (by (with_reducible repeat (first|apply Kd.R_alloc|apply Kd.R_drewN|apply Kd.R_drew));exact Kd.R_mono (Kd.R_far (p:=⟨gb210,1,none⟩) (Kd.R_far (p:=⟨gb210,0,none⟩) (Kd.R_types HO209.out BK210.out (by decide)) (fun _ hk=>hk.2) (.slice Ao16 t204.length co16)) (fun _ hk=>hk.2) (.slice Ao20 t207.length co20)) (fun _ hk=>trivial)));(case aS=>exact (qj (by repeat (first|(with_reducible first|exact HB.out|apply qf|apply qa|apply qd|refine qg ?_ GE202.out|refine qg ?_ GE203.out|refine qg ?_ GE210.out)|exact HB.out))));(case aL=>have:=LMc5.out;omega);intro v212 w21 ho hb hg hat;rw [← Ny211.out] at ho;have n0_:=qn.mk (blk_grown (g:=gb202) (o:=.cells #[.slice A0_0 l0_0.length c0_0,.slice A0_1 l0_1.length c0_1] 40 (0,0)) (by (with_reducible repeat (first|refine qb ?_ _|refine qe ?_|refine qc ?_ _));refine blk_far ?_ NB202_210.out _;(with_reducible repeat (first|refine qb ?_ _|refine qe ?_|refine qc ?_ _));refine blk_far ?_ NB202_210.out _;(with_reducible repeat (first|refine qb ?_ _|refine qe ?_|refine qc ?_ _));exact BK202.out) hg (Kd.R_ne HO209.out BK202.out (by decide)));have n1_:=qn.mk (blk_grown (g:=gb203) (o:=.cells #[.slice none 0 0,.slice none 0 0] 40 (0,0)) (by (with_reducible repeat (first|refine qb ?_ _|refine qe ?_|refine qc ?_ _));refine blk_far ?_ NB203_210.out _;(with_reducible repeat (first|refine qb ?_ _|refine qe ?_|refine qc ?_ _));refine blk_far ?_ NB203_210.out _;(with_reducible repeat (first|refine qb ?_ _|refine qe ?_|refine qc ?_ _));exact BK203.out) hg (Kd.R_ne HO209.out BK203.out (by decide)));have n2_:=qn.mk (Kd.R_over' (by (with_reducible repeat (first|apply Kd.R_alloc|apply Kd.R_drewN|apply Kd.R_drew));exact (Kd.R_mono (Kd.R_far (p:=⟨gb210,1,none⟩) (Kd.R_far (p:=⟨gb210,0,none⟩) (Kd.R_types HO206.out BK210.out (by decide)) (fun _ hk=>hk.2) (.slice Ao16 t204.length co16)) (fun _ hk=>hk.2) (.slice Ao20 t207.length co20)) (fun _ h_=>h_.1))) (Kd.R_typed (by (with_reducible repeat (first|apply Kd.R_alloc|apply Kd.R_drewN|apply Kd.R_drew));exact (Kd.R_mono (Kd.R_far (p:=⟨gb210,1,none⟩) (Kd.R_far (p:=⟨gb210,0,none⟩) (Kd.R_types HO209.out BK210.out (by decide)) (fun _ hk=>hk.2) (.slice Ao16 t204.length co16)) (fun _ hk=>hk.2) (.slice Ao20 t207.length co20)) (fun _ h_=>h_.1)))) (by decide) hg);have n3_:=qn.mk (blk_grown (g:=gb210) (o:=.cells #[.slice Ao16 t204.length co16,.slice Ao20 t207.length co20] 40 (0,0)) (by (with_reducible repeat (first|refine qb ?_ _|refine qe ?_|refine qc ?_ _));refine blk_put (cs:=#[.slice Ao16 t204.length co16,.slice none 0 0]) ?_ 1 _ rfl;(with_reducible repeat (first|refine qb ?_ _|refine qe ?_|refine qc ?_ _));refine blk_put (cs:=#[.slice none 0 0,.slice none 0 0]) ?_ 0 _ rfl;(with_reducible repeat (first|refine qb ?_ _|refine qe ?_|refine qc ?_ _));exact BK210.out) hg (Kd.R_ne HO209.out BK210.out (by decide)));have n4_:=qn.mk (hb);have n5_:=qn.mk (ho);clear BK202;clear BK203;clear HO206;clear BK210;clear HB;clear HO209;have BK202:=n0_;have BK203:=n1_;have HO206:=n2_;have BK210:=n3_;have HB:=n4_;have HO213:=n5_;clear n0_ n1_ n2_ n3_ n4_ n5_;clear ho hb hg hat;obtain ⟨Ao22,co22,eo22⟩:=Kd.R_slice HO213.out;subst eo22;have hcz23_0 : w21.cell? ⟨gb210,0,none⟩ = some (.slice Ao16 t204.length co16):=(qh BK210.out 0).trans rfl;have hcz23_1 : w21.cell? ⟨gb210,1,none⟩ = some (.slice Ao20 t207.length co20):=(qh BK210.out 1).trans rfl;have hfz23_0:=qi BK210.out 0;have hfz23_1:=qi BK210.out 1;have hcz24_0 : w21.cell? ⟨gb202,0,none⟩ = some (.slice A0_0 l0_0.length c0_0):=(qh BK202.out 0).trans rfl;have hcz24_1 : w21.cell? ⟨gb202,1,none⟩ = some (.slice A0_1 l0_1.length c0_1):=(qh BK202.out 1).trans rfl;have hfz24_0:=qi BK202.out 0;have hfz24_1:=qi BK202.out 1)|((with_reducible refine gate_callee (f:=23) rfl ?_);refine goesL_ (some 20) rfl rfl Try.func23 (by kernel_rfl) rfl #[.agg #[.slice A0_0 l0_0.length c0_0,.slice A0_1 l0_1.length c0_1]] rfl (by (try simp only [List.map_toArray,List.map_cons,List.map_nil]);first|done|rfl|(simp only [List.length_drop,List.length_take];rfl)) ?_;(with_reducible refine (impl_DeviceOk.calls k _ _ l0_0 _ _ l0_1 true _ ?side1 ?side2 ?side3 ?side4 A6.out).mono ?_);(case side1=>exact Kd.C_below HR0_0.out (by repeat (first|(with_reducible first|exact HB.out|apply qf|apply qa|apply qd|refine qg ?_ GE202.out|refine qg ?_ GE203.out|refine qg ?_ GE210.out)|exact HB.out)));(case side2=>exact HC0_0.out);(case side3=>exact Kd.C_below HR0_1.out (by repeat (first|(with_reducible first|exact HB.out|apply qf|apply qa|apply qd|refine qg ?_ GE202.out|refine qg ?_ GE203.out|refine qg ?_ GE210.out)|exact HB.out)));(case side4=>exact HC0_1.out);rintro e w25 ⟨rfl,hb⟩;refine ⟨_,rfl,?_⟩;have n0_:=qn.mk (Kd.R_below (by (with_reducible repeat (first|apply Kd.R_alloc|apply Kd.R_drewN|apply Kd.R_drew));exact (Kd.R_mono (Kd.R_far (p:=⟨gb210,1,none⟩) (Kd.R_types HO206.out BK210.out (by decide)) (fun _ hk=>hk.2) (.slice Ao22 y211.length co22)) (fun _ h_=>h_.1))) hb);have n1_:=qn.mk (Kd.R_below (by (with_reducible repeat (first|apply Kd.R_alloc|apply Kd.R_drewN|apply Kd.R_drew));exact (Kd.R_mono (Kd.R_far (p:=⟨gb210,1,none⟩) (Kd.R_types HO213.out BK210.out (by decide)) (fun _ hk=>hk.2) (.slice Ao22 y211.length co22)) (fun _ h_=>h_.1))) hb);have n2_:=qn.mk (ql (g:=gb202) (o:=.cells #[.slice A0_0 l0_0.length c0_0,.slice A0_1 l0_1.length c0_1] 40 (0,0)) (by (with_reducible repeat (first|refine qb ?_ _|refine qe ?_|refine qc ?_ _));refine blk_far ?_ NB202_210.out _;(with_reducible repeat (first|refine qb ?_ _|refine qe ?_|refine qc ?_ _));exact BK202.out) hb);have n3_:=qn.mk (ql (g:=gb203) (o:=.cells #[.slice none 0 0,.slice none 0 0] 40 (0,0)) (by (with_reducible repeat (first|refine qb ?_ _|refine qe ?_|refine qc ?_ _));refine blk_far ?_ NB203_210.out _;(with_reducible repeat (first|refine qb ?_ _|refine qe ?_|refine qc ?_ _));exact BK203.out) hb);have n4_:=qn.mk (ql (g:=gb210) (o:=.cells #[.slice Ao16 t204.length co16,.slice Ao22 y211.length co22] 40 (0,0)) (by (with_reducible repeat (first|refine qb ?_ _|refine qe ?_|refine qc ?_ _));refine blk_put (cs:=#[.slice Ao16 t204.length co16,.slice Ao20 t207.length co20]) ?_ 1 _ rfl;(with_reducible repeat (first|refine qb ?_ _|refine qe ?_|refine qc ?_ _));exact BK210.out) hb);have n5_:=hs_ HB hb;clear HO206;clear HO213;clear BK202;clear BK203;clear BK210;clear HB;have HO206:=n0_;have HO213:=n1_;have BK202:=n2_;have BK203:=n3_;have BK210:=n4_;have HB:=n5_;clear n0_ n1_ n2_ n3_ n4_ n5_;(try clear hb);(try clear hb2);(try clear hk);(try clear hi);have hcz26_0 : w25.cell? ⟨gb210,0,none⟩ = some (.slice Ao16 t204.length co16):=(qh BK210.out 0).trans rfl;have hcz26_1 : w25.cell? ⟨gb210,1,none⟩ = some (.slice Ao22 y211.length co22):=(qh BK210.out 1).trans rfl;have hfz26_0:=qi BK210.out 0;have hfz26_1:=qi BK210.out 1)|(go_at_call 23;(with_reducible refine (impl_DeviceOk.calls k _ _ t204 _ _ y211 true _ ?side1 ?side2 ?side3 ?side4 A8.out).mono ?_);(case side1=>repeat (first|exact (Kd.R_reads' HO206.out).2.2|(with_reducible refine Kd.C_alloc ?_ _)|(with_reducible refine Kd.C_drewN ?_ _)|(with_reducible refine Kd.C_drew ?_)));(case side2=>exact (Kd.R_reads' HO206.out).2.1);(case side3=>repeat (first|exact (Kd.R_reads' HO213.out).2.2|(with_reducible refine Kd.C_alloc ?_ _)|(with_reducible refine Kd.C_drewN ?_ _)|(with_reducible refine Kd.C_drew ?_)));(case side4=>exact (Kd.R_reads' HO213.out).2.1);rintro e w27 ⟨rfl,hb⟩;have n0_:=rb_ HO206 hb;have n1_:=rb_ HO213 hb;have n2_:=bb_ BK202 hb;have n3_:=bb_ BK203 hb;have n4_:=bb_ BK210 hb;have n5_:=hs_ HB hb;clear HO206;clear HO213;clear BK202;clear BK203;clear BK210;clear HB;have HO206:=n0_;have HO213:=n1_;have BK202:=n2_;have BK203:=n3_;have BK210:=n4_;have HB:=n5_;clear n0_ n1_ n2_ n3_ n4_ n5_;(try clear hb);(try clear hb2);(try clear hk);(try clear hi);have hcz28_0 : w27.cell? ⟨gb210,0,none⟩ = some (.slice Ao16 t204.length co16):=(qh BK210.out 0).trans rfl;have hcz28_1 : w27.cell? ⟨gb210,1,none⟩ = some (.slice Ao22 y211.length co22):=(qh BK210.out 1).trans rfl;have hfz28_0:=qi BK210.out 0;have hfz28_1:=qi BK210.out 1;have hcz29_0 : w27.cell? ⟨gb203,0,none⟩ = some (.slice none 0 0):=(qh BK203.out 0).trans rfl;have hcz29_1 : w27.cell? ⟨gb203,1,none⟩ = some (.slice none 0 0):=(qh BK203.out 1).trans rfl;have hfz29_0:=qi BK203.out 0;have hfz29_1:=qi BK203.out 1))
        refine bodyPost_ret (results_ct rfl _ _ gb203 40 #[.slice Ao16 t204.length co16,.slice Ao22 y211.length co22] (0,0) _ rfl (by (with_reducible repeat (first|refine qb ?_ _|refine qe ?_|refine qc ?_ _));refine blk_put (cs:=#[.slice Ao16 t204.length co16,.slice none 0 0]) ?_ 1 _ rfl;(with_reducible repeat (first|refine qb ?_ _|refine qe ?_|refine qc ?_ _));refine blk_put (cs:=#[.slice none 0 0,.slice none 0 0]) ?_ 0 _ rfl;(with_reducible repeat (first|refine qb ?_ _|refine qe ?_|refine qc ?_ _));exact BK203.out) Try.underlying40 rfl (by kernel_rfl)) rfl ?_
        exact ⟨_,_,by first|rfl|(simp [errW_none,errW_some] <;> rfl)|(simp [*,errW_none,errW_some] <;> rfl),by (with_reducible repeat (first|apply Kd.R_alloc|apply Kd.R_drewN|apply Kd.R_drew));exact Kd.R_mono (Kd.R_far (p:=⟨gb203,1,none⟩) (Kd.R_far (p:=⟨gb203,0,none⟩) (Kd.R_types HO206.out BK203.out (by decide)) (fun _ hk=>hk.2) (.slice Ao16 t204.length co16)) (fun _ hk=>hk.2) (.slice Ao22 y211.length co22)) (fun _ hk=>trivial),by (with_reducible repeat (first|apply Kd.R_alloc|apply Kd.R_drewN|apply Kd.R_drew));exact Kd.R_mono (Kd.R_far (p:=⟨gb203,1,none⟩) (Kd.R_far (p:=⟨gb203,0,none⟩) (Kd.R_types HO213.out BK203.out (by decide)) (fun _ hk=>hk.2) (.slice Ao16 t204.length co16)) (fun _ hk=>hk.2) (.slice Ao22 y211.length co22)) (fun _ hk=>trivial),by repeat (first|(with_reducible first|exact HB.out|apply qf|apply qa|apply qd|refine qg ?_ GE202.out|refine qg ?_ GE203.out|refine qg ?_ GE210.out)|exact HB.out)⟩
      · replace c9:=Bool.eq_false_iff.mpr c9
        subst c9
        have H1 : (some (([] : List ByteArray),([] : List (S98)),false)) = some (r1,r2,r3):=by rw [if_neg (show ¬ (false = true) by decide)] at H;exact H
        clear H
        have H:=H1
        clear H1
        simp only [Option.some.injEq,Prod.mk.injEq] at H
        obtain ⟨rfl,rfl,rfl⟩:=H
        go_enter Try.func21,Try.ntmps21
        go_wp2_with (first|((with_reducible refine gate_dst (N:=3) rfl ?_);refine box_event ?hg (N:=3) ?hd (cs:=#[.slice A0_0 l0_0.length c0_0,.slice A0_1 l0_1.length c0_1]) (t:=40) ?hr ?_;(case hd=>rfl);(case hg=>rfl);(case hr=>first|(go_simp;done)|(go_simp;rfl));intro gb202 hg w30 hbox hb;have n0_:=hs_ HB hb;have n1_:=qn.mk (hbox);have n2_:=qn.mk ((by rw [hg];exact (qj (by repeat (first|(with_reducible first|exact HB.out|apply qf|apply qa|apply qd)|exact HB.out))) : w.heap.size ≤ gb202));have n3_:=qn.mk ((by rw [hg];exact (qj (by repeat (first|(with_reducible first|exact HB.out|apply qf|apply qa|apply qd)|exact HB.out))) : w.heap.size ≤ gb202));clear HB;have HB:=n0_;have BK202:=n1_;have GW202:=n2_;have GE202:=n3_;clear n0_ n1_ n2_ n3_;clear hb hbox hg)|((with_reducible refine gate_dst (N:=6) rfl ?_);refine box_event ?hg (N:=6) ?hd (cs:=#[.slice none 0 0,.slice none 0 0]) (t:=40) ?hr ?_;(case hd=>rfl);(case hg=>rfl);(case hr=>first|(go_simp;done)|(go_simp;rfl));intro gb203 hg w31 hbox hb;have n0_:=bb_ BK202 hb;have n1_:=hs_ HB hb;have n2_:=qn.mk (hbox);have n3_:=qn.mk ((by rw [hg];exact (qj (by repeat (first|(with_reducible first|exact HB.out|apply qf|apply qa|apply qd|refine qg ?_ GE202.out)|exact HB.out))) : w.heap.size ≤ gb203));have n4_:=qn.mk ((by rw [hg];exact (qj (by repeat (first|(with_reducible first|exact HB.out|apply qf|apply qa|apply qd|refine qg ?_ GE202.out)|exact HB.out))) : w.heap.size ≤ gb203));have n5_:=qn.mk ((by rw [hg];exact nl_ BK202 : gb202 ≠ gb203));have n6_:=qn.mk ((by rw [hg];exact ng_ BK202 : gb203 ≠ gb202));clear BK202;clear HB;have BK202:=n0_;have HB:=n1_;have BK203:=n2_;have GW203:=n3_;have GE203:=n4_;have NB202_203:=n5_;have NB203_202:=n6_;clear n0_ n1_ n2_ n3_ n4_ n5_ n6_;clear hb hbox hg;have hnb32:=NB202_203.out;have hnc32:=NB203_202.out;have hcz33_0 : w31.cell? ⟨gb202,0,none⟩ = some (.slice A0_0 l0_0.length c0_0):=(qh BK202.out 0).trans rfl;have hcz33_1 : w31.cell? ⟨gb202,1,none⟩ = some (.slice A0_1 l0_1.length c0_1):=(qh BK202.out 1).trans rfl;have hfz33_0:=qi BK202.out 0;have hfz33_1:=qi BK202.out 1)|((with_reducible refine gate_callee (f:=63) rfl ?_);refine goesL_ (some 10) rfl rfl Try.func63 (by kernel_rfl) rfl #[.agg #[.slice A0_0 l0_0.length c0_0,.slice A0_1 l0_1.length c0_1]] rfl (by (try simp only [List.map_toArray,List.map_cons,List.map_nil]);first|done|rfl|(simp only [List.length_drop,List.length_take];rfl)) ?_;(with_reducible refine (impl_copyDevice.calls _ _ l0_0 _ _ l0_1 t204 t207 _ ?side1 ?side2 ?side3 ?side4 A4.out).mono ?_);(case side1=>repeat (first|exact (Kd.C_below HR0_0.out HB.out)|(with_reducible refine Kd.C_alloc ?_ _)|(with_reducible refine Kd.C_drewN ?_ _)|(with_reducible refine Kd.C_drew ?_)));(case side2=>exact HC0_0.out);(case side3=>repeat (first|exact (Kd.C_below HR0_1.out HB.out)|(with_reducible refine Kd.C_alloc ?_ _)|(with_reducible refine Kd.C_drewN ?_ _)|(with_reducible refine Kd.C_drew ?_)));(case side4=>exact HC0_1.out);rintro e w34 ⟨v205,v208,rfl,ho0,ho1,hb⟩;refine ⟨_,rfl,?_⟩;have n0_:=qn.mk (Kd.R_lower ho0 (qj (by repeat (first|(with_reducible first|exact HB.out|apply qf|apply qa|apply qd|refine qg ?_ GE202.out|refine qg ?_ GE203.out)|exact HB.out))));have n1_:=qn.mk (Kd.R_lower ho1 (qj (by repeat (first|(with_reducible first|exact HB.out|apply qf|apply qa|apply qd|refine qg ?_ GE202.out|refine qg ?_ GE203.out)|exact HB.out))));have n2_:=bb_ BK202 hb;have n3_:=bb_ BK203 hb;have n4_:=hs_ HB hb;clear BK202;clear BK203;clear HB;have HO206:=n0_;have HO209:=n1_;have BK202:=n2_;have BK203:=n3_;have HB:=n4_;clear n0_ n1_ n2_ n3_ n4_;(try clear hb);(try clear hb2);(try clear hk);(try clear hi);(try clear ho0);(try clear ho1))|((with_reducible refine gate_dst (N:=8) rfl ?_);refine box_event ?hg (N:=8) ?hd (cs:=#[.slice none 0 0,.slice none 0 0]) (t:=40) ?hr ?_;(case hd=>rfl);(case hg=>rfl);(case hr=>first|(go_simp;done)|(go_simp;rfl));intro gb210 hg w35 hbox hb;have n0_:=rb_ HO206 hb;have n1_:=rb_ HO209 hb;have n2_:=bb_ BK202 hb;have n3_:=bb_ BK203 hb;have n4_:=hs_ HB hb;have n5_:=qn.mk (hbox);have n6_:=qn.mk ((by rw [hg];exact (qj (by repeat (first|(with_reducible first|exact HB.out|apply qf|apply qa|apply qd|refine qg ?_ GE202.out|refine qg ?_ GE203.out)|exact HB.out))) : w.heap.size ≤ gb210));have n7_:=qn.mk ((by rw [hg];exact (qj (by repeat (first|(with_reducible first|exact HB.out|apply qf|apply qa|apply qd|refine qg ?_ GE202.out|refine qg ?_ GE203.out)|exact HB.out))) : w.heap.size ≤ gb210));have n8_:=qn.mk ((by rw [hg];exact nl_ BK202 : gb202 ≠ gb210));have n9_:=qn.mk ((by rw [hg];exact ng_ BK202 : gb210 ≠ gb202));have n10_:=qn.mk ((by rw [hg];exact nl_ BK203 : gb203 ≠ gb210));have n11_:=qn.mk ((by rw [hg];exact ng_ BK203 : gb210 ≠ gb203));clear HO206;clear HO209;clear BK202;clear BK203;clear HB;have HO206:=n0_;have HO209:=n1_;have BK202:=n2_;have BK203:=n3_;have HB:=n4_;have BK210:=n5_;have GW210:=n6_;have GE210:=n7_;have NB202_210:=n8_;have NB210_202:=n9_;have NB203_210:=n10_;have NB210_203:=n11_;clear n0_ n1_ n2_ n3_ n4_ n5_ n6_ n7_ n8_ n9_ n10_ n11_;clear hb hbox hg;obtain ⟨Ao36,co36,eo36⟩:=Kd.R_slice HO206.out;subst eo36;have hnb37:=NB210_202.out;have hnc37:=NB202_210.out;have hnb38:=NB210_203.out;have hnc38:=NB203_210.out;have hcz39_0 : w35.cell? ⟨gb210,0,none⟩ = some (.slice none 0 0):=(qh BK210.out 0).trans rfl;have hcz39_1 : w35.cell? ⟨gb210,1,none⟩ = some (.slice none 0 0):=(qh BK210.out 1).trans rfl;have hfz39_0:=qi BK210.out 0;have hfz39_1:=qi BK210.out 1;obtain ⟨Ao40,co40,eo40⟩:=Kd.R_slice HO209.out;subst eo40)|((with_reducible refine gate_builtin (b:=.append) (xs:=#[.tmp 12,.tmp 16]) rfl ?_);at_builtin;refine Kd.R_append k98 (w0:=w) w.heap.size rfl (.tmp 12) (.tmp 16) 38 98 (.agg #[(.int .i64 0),(.string ⟨#[]⟩)]) 24 rfl Try.underlying38 info98 rfl (by decide) (by omega) (.slice Ao40 t207.length co40) t207 (⟨a1,a2⟩ : S98) [.int .i64 a1,.string a2] (fun _=>True) (fun _=>False) rfl (by first|(go_simp;done)|(go_simp;rfl)) ?aP (fun _ hk=>hk.elim) ?aF ?aO ?aB ?aS ?aL ?_;(case aP=>exact k98_mkM _ _ _ (⟨a1,a2⟩ : S98));(case aB=>exact (by repeat (first|(with_reducible first|exact HB.out|apply qf|apply qa|apply qd|refine qg ?_ GE202.out|refine qg ?_ GE203.out|refine qg ?_ GE210.out)|exact HB.out)));(case aF=>exact (fun _ _=>trivial));(case aO=>exact (by (with_reducible repeat (first|apply Kd.R_alloc|apply Kd.R_drewN|apply Kd.R_drew));exact Kd.R_mono (Kd.R_far (p:=⟨gb210,1,none⟩) (Kd.R_far (p:=⟨gb210,0,none⟩) (Kd.R_types HO209.out BK210.out (by decide)) (fun _ hk=>hk.2) (.slice Ao36 t204.length co36)) (fun _ hk=>hk.2) (.slice Ao40 t207.length co40)) (fun _ hk=>trivial)));(case aS=>exact (qj (by repeat (first|(with_reducible first|exact HB.out|apply qf|apply qa|apply qd|refine qg ?_ GE202.out|refine qg ?_ GE203.out|refine qg ?_ GE210.out)|exact HB.out))));(case aL=>have:=LMc5.out;omega);intro v212 w41 ho hb hg hat;rw [← Ny211.out] at ho;have n0_:=qn.mk (blk_grown (g:=gb202) (o:=.cells #[.slice A0_0 l0_0.length c0_0,.slice A0_1 l0_1.length c0_1] 40 (0,0)) (by (with_reducible repeat (first|refine qb ?_ _|refine qe ?_|refine qc ?_ _));refine blk_far ?_ NB202_210.out _;(with_reducible repeat (first|refine qb ?_ _|refine qe ?_|refine qc ?_ _));refine blk_far ?_ NB202_210.out _;(with_reducible repeat (first|refine qb ?_ _|refine qe ?_|refine qc ?_ _));exact BK202.out) hg (Kd.R_ne HO209.out BK202.out (by decide)));have n1_:=qn.mk (blk_grown (g:=gb203) (o:=.cells #[.slice none 0 0,.slice none 0 0] 40 (0,0)) (by (with_reducible repeat (first|refine qb ?_ _|refine qe ?_|refine qc ?_ _));refine blk_far ?_ NB203_210.out _;(with_reducible repeat (first|refine qb ?_ _|refine qe ?_|refine qc ?_ _));refine blk_far ?_ NB203_210.out _;(with_reducible repeat (first|refine qb ?_ _|refine qe ?_|refine qc ?_ _));exact BK203.out) hg (Kd.R_ne HO209.out BK203.out (by decide)));have n2_:=qn.mk (Kd.R_over' (by (with_reducible repeat (first|apply Kd.R_alloc|apply Kd.R_drewN|apply Kd.R_drew));exact (Kd.R_mono (Kd.R_far (p:=⟨gb210,1,none⟩) (Kd.R_far (p:=⟨gb210,0,none⟩) (Kd.R_types HO206.out BK210.out (by decide)) (fun _ hk=>hk.2) (.slice Ao36 t204.length co36)) (fun _ hk=>hk.2) (.slice Ao40 t207.length co40)) (fun _ h_=>h_.1))) (Kd.R_typed (by (with_reducible repeat (first|apply Kd.R_alloc|apply Kd.R_drewN|apply Kd.R_drew));exact (Kd.R_mono (Kd.R_far (p:=⟨gb210,1,none⟩) (Kd.R_far (p:=⟨gb210,0,none⟩) (Kd.R_types HO209.out BK210.out (by decide)) (fun _ hk=>hk.2) (.slice Ao36 t204.length co36)) (fun _ hk=>hk.2) (.slice Ao40 t207.length co40)) (fun _ h_=>h_.1)))) (by decide) hg);have n3_:=qn.mk (blk_grown (g:=gb210) (o:=.cells #[.slice Ao36 t204.length co36,.slice Ao40 t207.length co40] 40 (0,0)) (by (with_reducible repeat (first|refine qb ?_ _|refine qe ?_|refine qc ?_ _));refine blk_put (cs:=#[.slice Ao36 t204.length co36,.slice none 0 0]) ?_ 1 _ rfl;(with_reducible repeat (first|refine qb ?_ _|refine qe ?_|refine qc ?_ _));refine blk_put (cs:=#[.slice none 0 0,.slice none 0 0]) ?_ 0 _ rfl;(with_reducible repeat (first|refine qb ?_ _|refine qe ?_|refine qc ?_ _));exact BK210.out) hg (Kd.R_ne HO209.out BK210.out (by decide)));have n4_:=qn.mk (hb);have n5_:=qn.mk (ho);clear BK202;clear BK203;clear HO206;clear BK210;clear HB;clear HO209;have BK202:=n0_;have BK203:=n1_;have HO206:=n2_;have BK210:=n3_;have HB:=n4_;have HO213:=n5_;clear n0_ n1_ n2_ n3_ n4_ n5_;clear ho hb hg hat;obtain ⟨Ao42,co42,eo42⟩:=Kd.R_slice HO213.out;subst eo42;have hcz43_0 : w41.cell? ⟨gb210,0,none⟩ = some (.slice Ao36 t204.length co36):=(qh BK210.out 0).trans rfl;have hcz43_1 : w41.cell? ⟨gb210,1,none⟩ = some (.slice Ao40 t207.length co40):=(qh BK210.out 1).trans rfl;have hfz43_0:=qi BK210.out 0;have hfz43_1:=qi BK210.out 1;have hcz44_0 : w41.cell? ⟨gb202,0,none⟩ = some (.slice A0_0 l0_0.length c0_0):=(qh BK202.out 0).trans rfl;have hcz44_1 : w41.cell? ⟨gb202,1,none⟩ = some (.slice A0_1 l0_1.length c0_1):=(qh BK202.out 1).trans rfl;have hfz44_0:=qi BK202.out 0;have hfz44_1:=qi BK202.out 1)|((with_reducible refine gate_callee (f:=23) rfl ?_);refine goesL_ (some 20) rfl rfl Try.func23 (by kernel_rfl) rfl #[.agg #[.slice A0_0 l0_0.length c0_0,.slice A0_1 l0_1.length c0_1]] rfl (by (try simp only [List.map_toArray,List.map_cons,List.map_nil]);first|done|rfl|(simp only [List.length_drop,List.length_take];rfl)) ?_;(with_reducible refine (impl_DeviceOk.calls k _ _ l0_0 _ _ l0_1 true _ ?side1 ?side2 ?side3 ?side4 A6.out).mono ?_);(case side1=>exact Kd.C_below HR0_0.out (by repeat (first|(with_reducible first|exact HB.out|apply qf|apply qa|apply qd|refine qg ?_ GE202.out|refine qg ?_ GE203.out|refine qg ?_ GE210.out)|exact HB.out)));(case side2=>exact HC0_0.out);(case side3=>exact Kd.C_below HR0_1.out (by repeat (first|(with_reducible first|exact HB.out|apply qf|apply qa|apply qd|refine qg ?_ GE202.out|refine qg ?_ GE203.out|refine qg ?_ GE210.out)|exact HB.out)));(case side4=>exact HC0_1.out);rintro e w45 ⟨rfl,hb⟩;refine ⟨_,rfl,?_⟩;have n0_:=qn.mk (Kd.R_below (by (with_reducible repeat (first|apply Kd.R_alloc|apply Kd.R_drewN|apply Kd.R_drew));exact (Kd.R_mono (Kd.R_far (p:=⟨gb210,1,none⟩) (Kd.R_types HO206.out BK210.out (by decide)) (fun _ hk=>hk.2) (.slice Ao42 y211.length co42)) (fun _ h_=>h_.1))) hb);have n1_:=qn.mk (Kd.R_below (by (with_reducible repeat (first|apply Kd.R_alloc|apply Kd.R_drewN|apply Kd.R_drew));exact (Kd.R_mono (Kd.R_far (p:=⟨gb210,1,none⟩) (Kd.R_types HO213.out BK210.out (by decide)) (fun _ hk=>hk.2) (.slice Ao42 y211.length co42)) (fun _ h_=>h_.1))) hb);have n2_:=qn.mk (ql (g:=gb202) (o:=.cells #[.slice A0_0 l0_0.length c0_0,.slice A0_1 l0_1.length c0_1] 40 (0,0)) (by (with_reducible repeat (first|refine qb ?_ _|refine qe ?_|refine qc ?_ _));refine blk_far ?_ NB202_210.out _;(with_reducible repeat (first|refine qb ?_ _|refine qe ?_|refine qc ?_ _));exact BK202.out) hb);have n3_:=qn.mk (ql (g:=gb203) (o:=.cells #[.slice none 0 0,.slice none 0 0] 40 (0,0)) (by (with_reducible repeat (first|refine qb ?_ _|refine qe ?_|refine qc ?_ _));refine blk_far ?_ NB203_210.out _;(with_reducible repeat (first|refine qb ?_ _|refine qe ?_|refine qc ?_ _));exact BK203.out) hb);have n4_:=qn.mk (ql (g:=gb210) (o:=.cells #[.slice Ao36 t204.length co36,.slice Ao42 y211.length co42] 40 (0,0)) (by (with_reducible repeat (first|refine qb ?_ _|refine qe ?_|refine qc ?_ _));refine blk_put (cs:=#[.slice Ao36 t204.length co36,.slice Ao40 t207.length co40]) ?_ 1 _ rfl;(with_reducible repeat (first|refine qb ?_ _|refine qe ?_|refine qc ?_ _));exact BK210.out) hb);have n5_:=hs_ HB hb;clear HO206;clear HO213;clear BK202;clear BK203;clear BK210;clear HB;have HO206:=n0_;have HO213:=n1_;have BK202:=n2_;have BK203:=n3_;have BK210:=n4_;have HB:=n5_;clear n0_ n1_ n2_ n3_ n4_ n5_;(try clear hb);(try clear hb2);(try clear hk);(try clear hi);have hcz46_0 : w45.cell? ⟨gb210,0,none⟩ = some (.slice Ao36 t204.length co36):=(qh BK210.out 0).trans rfl;have hcz46_1 : w45.cell? ⟨gb210,1,none⟩ = some (.slice Ao42 y211.length co42):=(qh BK210.out 1).trans rfl;have hfz46_0:=qi BK210.out 0;have hfz46_1:=qi BK210.out 1)|(go_at_call 23;(with_reducible refine (impl_DeviceOk.calls k _ _ t204 _ _ y211 false _ ?side1 ?side2 ?side3 ?side4 A8.out).mono ?_);(case side1=>repeat (first|exact (Kd.R_reads' HO206.out).2.2|(with_reducible refine Kd.C_alloc ?_ _)|(with_reducible refine Kd.C_drewN ?_ _)|(with_reducible refine Kd.C_drew ?_)));(case side2=>exact (Kd.R_reads' HO206.out).2.1);(case side3=>repeat (first|exact (Kd.R_reads' HO213.out).2.2|(with_reducible refine Kd.C_alloc ?_ _)|(with_reducible refine Kd.C_drewN ?_ _)|(with_reducible refine Kd.C_drew ?_)));(case side4=>exact (Kd.R_reads' HO213.out).2.1);rintro e w47 ⟨rfl,hb⟩;have n0_:=rb_ HO206 hb;have n1_:=rb_ HO213 hb;have n2_:=bb_ BK202 hb;have n3_:=bb_ BK203 hb;have n4_:=bb_ BK210 hb;have n5_:=hs_ HB hb;clear HO206;clear HO213;clear BK202;clear BK203;clear BK210;clear HB;have HO206:=n0_;have HO213:=n1_;have BK202:=n2_;have BK203:=n3_;have BK210:=n4_;have HB:=n5_;clear n0_ n1_ n2_ n3_ n4_ n5_;(try clear hb);(try clear hb2);(try clear hk);(try clear hi);have hcz48_0 : w47.cell? ⟨gb203,0,none⟩ = some (.slice none 0 0):=(qh BK203.out 0).trans rfl;have hcz48_1 : w47.cell? ⟨gb203,1,none⟩ = some (.slice none 0 0):=(qh BK203.out 1).trans rfl;have hfz48_0:=qi BK203.out 0;have hfz48_1:=qi BK203.out 1))
        refine bodyPost_ret (results_ct rfl _ _ gb203 40 #[.slice none 0 0,.slice none 0 0] (0,0) _ rfl (by (with_reducible repeat (first|refine qb ?_ _|refine qe ?_|refine qc ?_ _));refine blk_put (cs:=#[.slice none 0 0,.slice none 0 0]) ?_ 1 _ rfl;(with_reducible repeat (first|refine qb ?_ _|refine qe ?_|refine qc ?_ _));refine blk_put (cs:=#[.slice none 0 0,.slice none 0 0]) ?_ 0 _ rfl;(with_reducible repeat (first|refine qb ?_ _|refine qe ?_|refine qc ?_ _));exact BK203.out) Try.underlying40 rfl (by kernel_rfl)) rfl ?_
        exact ⟨_,_,by first|rfl|(simp [errW_none,errW_some] <;> rfl)|(simp [*,errW_none,errW_some] <;> rfl),by first|exact Kd.R_nil _ _ _ _ _|exact Kd.N_nil _ _ _ _ _|exact Kd.V_nil _ _ _ _ _|exact Kd.Q_nil _ _ _ _ _|exact Kd.S_nil _ _ _ _ _,by first|exact Kd.R_nil _ _ _ _ _|exact Kd.N_nil _ _ _ _ _|exact Kd.V_nil _ _ _ _ _|exact Kd.Q_nil _ _ _ _ _|exact Kd.S_nil _ _ _ _ _,by repeat (first|(with_reducible first|exact HB.out|apply qf|apply qa|apply qd|refine qg ?_ GE202.out|refine qg ?_ GE203.out|refine qg ?_ GE210.out)|exact HB.out)⟩
    · replace c7:=Bool.eq_false_iff.mpr c7
      subst c7
      have H1 : (some (([] : List ByteArray),([] : List (S98)),false)) = some (r1,r2,r3):=by rw [if_neg (show ¬ (false = true) by decide)] at H;exact H
      clear H
      have H:=H1
      clear H1
      simp only [Option.some.injEq,Prod.mk.injEq] at H
      obtain ⟨rfl,rfl,rfl⟩:=H
      go_enter Try.func21,Try.ntmps21
      go_wp2_with (first|((with_reducible refine gate_dst (N:=3) rfl ?_);refine box_event ?hg (N:=3) ?hd (cs:=#[.slice A0_0 l0_0.length c0_0,.slice A0_1 l0_1.length c0_1]) (t:=40) ?hr ?_;(case hd=>rfl);(case hg=>rfl);(case hr=>first|(go_simp;done)|(go_simp;rfl));intro gb202 hg w49 hbox hb;have n0_:=hs_ HB hb;have n1_:=qn.mk (hbox);have n2_:=qn.mk ((by rw [hg];exact (qj (by repeat (first|(with_reducible first|exact HB.out|apply qf|apply qa|apply qd)|exact HB.out))) : w.heap.size ≤ gb202));have n3_:=qn.mk ((by rw [hg];exact (qj (by repeat (first|(with_reducible first|exact HB.out|apply qf|apply qa|apply qd)|exact HB.out))) : w.heap.size ≤ gb202));clear HB;have HB:=n0_;have BK202:=n1_;have GW202:=n2_;have GE202:=n3_;clear n0_ n1_ n2_ n3_;clear hb hbox hg)|((with_reducible refine gate_dst (N:=6) rfl ?_);refine box_event ?hg (N:=6) ?hd (cs:=#[.slice none 0 0,.slice none 0 0]) (t:=40) ?hr ?_;(case hd=>rfl);(case hg=>rfl);(case hr=>first|(go_simp;done)|(go_simp;rfl));intro gb203 hg w50 hbox hb;have n0_:=bb_ BK202 hb;have n1_:=hs_ HB hb;have n2_:=qn.mk (hbox);have n3_:=qn.mk ((by rw [hg];exact (qj (by repeat (first|(with_reducible first|exact HB.out|apply qf|apply qa|apply qd|refine qg ?_ GE202.out)|exact HB.out))) : w.heap.size ≤ gb203));have n4_:=qn.mk ((by rw [hg];exact (qj (by repeat (first|(with_reducible first|exact HB.out|apply qf|apply qa|apply qd|refine qg ?_ GE202.out)|exact HB.out))) : w.heap.size ≤ gb203));have n5_:=qn.mk ((by rw [hg];exact nl_ BK202 : gb202 ≠ gb203));have n6_:=qn.mk ((by rw [hg];exact ng_ BK202 : gb203 ≠ gb202));clear BK202;clear HB;have BK202:=n0_;have HB:=n1_;have BK203:=n2_;have GW203:=n3_;have GE203:=n4_;have NB202_203:=n5_;have NB203_202:=n6_;clear n0_ n1_ n2_ n3_ n4_ n5_ n6_;clear hb hbox hg;have hnb51:=NB202_203.out;have hnc51:=NB203_202.out;have hcz52_0 : w50.cell? ⟨gb202,0,none⟩ = some (.slice A0_0 l0_0.length c0_0):=(qh BK202.out 0).trans rfl;have hcz52_1 : w50.cell? ⟨gb202,1,none⟩ = some (.slice A0_1 l0_1.length c0_1):=(qh BK202.out 1).trans rfl;have hfz52_0:=qi BK202.out 0;have hfz52_1:=qi BK202.out 1)|((with_reducible refine gate_callee (f:=63) rfl ?_);refine goesL_ (some 10) rfl rfl Try.func63 (by kernel_rfl) rfl #[.agg #[.slice A0_0 l0_0.length c0_0,.slice A0_1 l0_1.length c0_1]] rfl (by (try simp only [List.map_toArray,List.map_cons,List.map_nil]);first|done|rfl|(simp only [List.length_drop,List.length_take];rfl)) ?_;(with_reducible refine (impl_copyDevice.calls _ _ l0_0 _ _ l0_1 t204 t207 _ ?side1 ?side2 ?side3 ?side4 A4.out).mono ?_);(case side1=>repeat (first|exact (Kd.C_below HR0_0.out HB.out)|(with_reducible refine Kd.C_alloc ?_ _)|(with_reducible refine Kd.C_drewN ?_ _)|(with_reducible refine Kd.C_drew ?_)));(case side2=>exact HC0_0.out);(case side3=>repeat (first|exact (Kd.C_below HR0_1.out HB.out)|(with_reducible refine Kd.C_alloc ?_ _)|(with_reducible refine Kd.C_drewN ?_ _)|(with_reducible refine Kd.C_drew ?_)));(case side4=>exact HC0_1.out);rintro e w53 ⟨v205,v208,rfl,ho0,ho1,hb⟩;refine ⟨_,rfl,?_⟩;have n0_:=qn.mk (Kd.R_lower ho0 (qj (by repeat (first|(with_reducible first|exact HB.out|apply qf|apply qa|apply qd|refine qg ?_ GE202.out|refine qg ?_ GE203.out)|exact HB.out))));have n1_:=qn.mk (Kd.R_lower ho1 (qj (by repeat (first|(with_reducible first|exact HB.out|apply qf|apply qa|apply qd|refine qg ?_ GE202.out|refine qg ?_ GE203.out)|exact HB.out))));have n2_:=bb_ BK202 hb;have n3_:=bb_ BK203 hb;have n4_:=hs_ HB hb;clear BK202;clear BK203;clear HB;have HO206:=n0_;have HO209:=n1_;have BK202:=n2_;have BK203:=n3_;have HB:=n4_;clear n0_ n1_ n2_ n3_ n4_;(try clear hb);(try clear hb2);(try clear hk);(try clear hi);(try clear ho0);(try clear ho1))|((with_reducible refine gate_dst (N:=8) rfl ?_);refine box_event ?hg (N:=8) ?hd (cs:=#[.slice none 0 0,.slice none 0 0]) (t:=40) ?hr ?_;(case hd=>rfl);(case hg=>rfl);(case hr=>first|(go_simp;done)|(go_simp;rfl));intro gb210 hg w54 hbox hb;have n0_:=rb_ HO206 hb;have n1_:=rb_ HO209 hb;have n2_:=bb_ BK202 hb;have n3_:=bb_ BK203 hb;have n4_:=hs_ HB hb;have n5_:=qn.mk (hbox);have n6_:=qn.mk ((by rw [hg];exact (qj (by repeat (first|(with_reducible first|exact HB.out|apply qf|apply qa|apply qd|refine qg ?_ GE202.out|refine qg ?_ GE203.out)|exact HB.out))) : w.heap.size ≤ gb210));have n7_:=qn.mk ((by rw [hg];exact (qj (by repeat (first|(with_reducible first|exact HB.out|apply qf|apply qa|apply qd|refine qg ?_ GE202.out|refine qg ?_ GE203.out)|exact HB.out))) : w.heap.size ≤ gb210));have n8_:=qn.mk ((by rw [hg];exact nl_ BK202 : gb202 ≠ gb210));have n9_:=qn.mk ((by rw [hg];exact ng_ BK202 : gb210 ≠ gb202));have n10_:=qn.mk ((by rw [hg];exact nl_ BK203 : gb203 ≠ gb210));have n11_:=qn.mk ((by rw [hg];exact ng_ BK203 : gb210 ≠ gb203));clear HO206;clear HO209;clear BK202;clear BK203;clear HB;have HO206:=n0_;have HO209:=n1_;have BK202:=n2_;have BK203:=n3_;have HB:=n4_;have BK210:=n5_;have GW210:=n6_;have GE210:=n7_;have NB202_210:=n8_;have NB210_202:=n9_;have NB203_210:=n10_;have NB210_203:=n11_;clear n0_ n1_ n2_ n3_ n4_ n5_ n6_ n7_ n8_ n9_ n10_ n11_;clear hb hbox hg;obtain ⟨Ao55,co55,eo55⟩:=Kd.R_slice HO206.out;subst eo55;have hnb56:=NB210_202.out;have hnc56:=NB202_210.out;have hnb57:=NB210_203.out;have hnc57:=NB203_210.out;have hcz58_0 : w54.cell? ⟨gb210,0,none⟩ = some (.slice none 0 0):=(qh BK210.out 0).trans rfl;have hcz58_1 : w54.cell? ⟨gb210,1,none⟩ = some (.slice none 0 0):=(qh BK210.out 1).trans rfl;have hfz58_0:=qi BK210.out 0;have hfz58_1:=qi BK210.out 1;obtain ⟨Ao59,co59,eo59⟩:=Kd.R_slice HO209.out;subst eo59)|((with_reducible refine gate_builtin (b:=.append) (xs:=#[.tmp 12,.tmp 16]) rfl ?_);at_builtin;refine Kd.R_append k98 (w0:=w) w.heap.size rfl (.tmp 12) (.tmp 16) 38 98 (.agg #[(.int .i64 0),(.string ⟨#[]⟩)]) 24 rfl Try.underlying38 info98 rfl (by decide) (by omega) (.slice Ao59 t207.length co59) t207 (⟨a1,a2⟩ : S98) [.int .i64 a1,.string a2] (fun _=>True) (fun _=>False) rfl (by first|(go_simp;done)|(go_simp;rfl)) ?aP (fun _ hk=>hk.elim) ?aF ?aO ?aB ?aS ?aL ?_;(case aP=>exact k98_mkM _ _ _ (⟨a1,a2⟩ : S98));(case aB=>exact (by repeat (first|(with_reducible first|exact HB.out|apply qf|apply qa|apply qd|refine qg ?_ GE202.out|refine qg ?_ GE203.out|refine qg ?_ GE210.out)|exact HB.out)));(case aF=>exact (fun _ _=>trivial));(case aO=>exact (by (with_reducible repeat (first|apply Kd.R_alloc|apply Kd.R_drewN|apply Kd.R_drew));exact Kd.R_mono (Kd.R_far (p:=⟨gb210,1,none⟩) (Kd.R_far (p:=⟨gb210,0,none⟩) (Kd.R_types HO209.out BK210.out (by decide)) (fun _ hk=>hk.2) (.slice Ao55 t204.length co55)) (fun _ hk=>hk.2) (.slice Ao59 t207.length co59)) (fun _ hk=>trivial)));(case aS=>exact (qj (by repeat (first|(with_reducible first|exact HB.out|apply qf|apply qa|apply qd|refine qg ?_ GE202.out|refine qg ?_ GE203.out|refine qg ?_ GE210.out)|exact HB.out))));(case aL=>have:=LMc5.out;omega);intro v212 w60 ho hb hg hat;rw [← Ny211.out] at ho;have n0_:=qn.mk (blk_grown (g:=gb202) (o:=.cells #[.slice A0_0 l0_0.length c0_0,.slice A0_1 l0_1.length c0_1] 40 (0,0)) (by (with_reducible repeat (first|refine qb ?_ _|refine qe ?_|refine qc ?_ _));refine blk_far ?_ NB202_210.out _;(with_reducible repeat (first|refine qb ?_ _|refine qe ?_|refine qc ?_ _));refine blk_far ?_ NB202_210.out _;(with_reducible repeat (first|refine qb ?_ _|refine qe ?_|refine qc ?_ _));exact BK202.out) hg (Kd.R_ne HO209.out BK202.out (by decide)));have n1_:=qn.mk (blk_grown (g:=gb203) (o:=.cells #[.slice none 0 0,.slice none 0 0] 40 (0,0)) (by (with_reducible repeat (first|refine qb ?_ _|refine qe ?_|refine qc ?_ _));refine blk_far ?_ NB203_210.out _;(with_reducible repeat (first|refine qb ?_ _|refine qe ?_|refine qc ?_ _));refine blk_far ?_ NB203_210.out _;(with_reducible repeat (first|refine qb ?_ _|refine qe ?_|refine qc ?_ _));exact BK203.out) hg (Kd.R_ne HO209.out BK203.out (by decide)));have n2_:=qn.mk (Kd.R_over' (by (with_reducible repeat (first|apply Kd.R_alloc|apply Kd.R_drewN|apply Kd.R_drew));exact (Kd.R_mono (Kd.R_far (p:=⟨gb210,1,none⟩) (Kd.R_far (p:=⟨gb210,0,none⟩) (Kd.R_types HO206.out BK210.out (by decide)) (fun _ hk=>hk.2) (.slice Ao55 t204.length co55)) (fun _ hk=>hk.2) (.slice Ao59 t207.length co59)) (fun _ h_=>h_.1))) (Kd.R_typed (by (with_reducible repeat (first|apply Kd.R_alloc|apply Kd.R_drewN|apply Kd.R_drew));exact (Kd.R_mono (Kd.R_far (p:=⟨gb210,1,none⟩) (Kd.R_far (p:=⟨gb210,0,none⟩) (Kd.R_types HO209.out BK210.out (by decide)) (fun _ hk=>hk.2) (.slice Ao55 t204.length co55)) (fun _ hk=>hk.2) (.slice Ao59 t207.length co59)) (fun _ h_=>h_.1)))) (by decide) hg);have n3_:=qn.mk (blk_grown (g:=gb210) (o:=.cells #[.slice Ao55 t204.length co55,.slice Ao59 t207.length co59] 40 (0,0)) (by (with_reducible repeat (first|refine qb ?_ _|refine qe ?_|refine qc ?_ _));refine blk_put (cs:=#[.slice Ao55 t204.length co55,.slice none 0 0]) ?_ 1 _ rfl;(with_reducible repeat (first|refine qb ?_ _|refine qe ?_|refine qc ?_ _));refine blk_put (cs:=#[.slice none 0 0,.slice none 0 0]) ?_ 0 _ rfl;(with_reducible repeat (first|refine qb ?_ _|refine qe ?_|refine qc ?_ _));exact BK210.out) hg (Kd.R_ne HO209.out BK210.out (by decide)));have n4_:=qn.mk (hb);have n5_:=qn.mk (ho);clear BK202;clear BK203;clear HO206;clear BK210;clear HB;clear HO209;have BK202:=n0_;have BK203:=n1_;have HO206:=n2_;have BK210:=n3_;have HB:=n4_;have HO213:=n5_;clear n0_ n1_ n2_ n3_ n4_ n5_;clear ho hb hg hat;obtain ⟨Ao61,co61,eo61⟩:=Kd.R_slice HO213.out;subst eo61;have hcz62_0 : w60.cell? ⟨gb210,0,none⟩ = some (.slice Ao55 t204.length co55):=(qh BK210.out 0).trans rfl;have hcz62_1 : w60.cell? ⟨gb210,1,none⟩ = some (.slice Ao59 t207.length co59):=(qh BK210.out 1).trans rfl;have hfz62_0:=qi BK210.out 0;have hfz62_1:=qi BK210.out 1;have hcz63_0 : w60.cell? ⟨gb202,0,none⟩ = some (.slice A0_0 l0_0.length c0_0):=(qh BK202.out 0).trans rfl;have hcz63_1 : w60.cell? ⟨gb202,1,none⟩ = some (.slice A0_1 l0_1.length c0_1):=(qh BK202.out 1).trans rfl;have hfz63_0:=qi BK202.out 0;have hfz63_1:=qi BK202.out 1)|((with_reducible refine gate_callee (f:=23) rfl ?_);refine goesL_ (some 20) rfl rfl Try.func23 (by kernel_rfl) rfl #[.agg #[.slice A0_0 l0_0.length c0_0,.slice A0_1 l0_1.length c0_1]] rfl (by (try simp only [List.map_toArray,List.map_cons,List.map_nil]);first|done|rfl|(simp only [List.length_drop,List.length_take];rfl)) ?_;(with_reducible refine (impl_DeviceOk.calls k _ _ l0_0 _ _ l0_1 false _ ?side1 ?side2 ?side3 ?side4 A6.out).mono ?_);(case side1=>exact Kd.C_below HR0_0.out (by repeat (first|(with_reducible first|exact HB.out|apply qf|apply qa|apply qd|refine qg ?_ GE202.out|refine qg ?_ GE203.out|refine qg ?_ GE210.out)|exact HB.out)));(case side2=>exact HC0_0.out);(case side3=>exact Kd.C_below HR0_1.out (by repeat (first|(with_reducible first|exact HB.out|apply qf|apply qa|apply qd|refine qg ?_ GE202.out|refine qg ?_ GE203.out|refine qg ?_ GE210.out)|exact HB.out)));(case side4=>exact HC0_1.out);rintro e w64 ⟨rfl,hb⟩;refine ⟨_,rfl,?_⟩;have n0_:=qn.mk (Kd.R_below (by (with_reducible repeat (first|apply Kd.R_alloc|apply Kd.R_drewN|apply Kd.R_drew));exact (Kd.R_mono (Kd.R_far (p:=⟨gb210,1,none⟩) (Kd.R_types HO206.out BK210.out (by decide)) (fun _ hk=>hk.2) (.slice Ao61 y211.length co61)) (fun _ h_=>h_.1))) hb);have n1_:=qn.mk (Kd.R_below (by (with_reducible repeat (first|apply Kd.R_alloc|apply Kd.R_drewN|apply Kd.R_drew));exact (Kd.R_mono (Kd.R_far (p:=⟨gb210,1,none⟩) (Kd.R_types HO213.out BK210.out (by decide)) (fun _ hk=>hk.2) (.slice Ao61 y211.length co61)) (fun _ h_=>h_.1))) hb);have n2_:=qn.mk (ql (g:=gb202) (o:=.cells #[.slice A0_0 l0_0.length c0_0,.slice A0_1 l0_1.length c0_1] 40 (0,0)) (by (with_reducible repeat (first|refine qb ?_ _|refine qe ?_|refine qc ?_ _));refine blk_far ?_ NB202_210.out _;(with_reducible repeat (first|refine qb ?_ _|refine qe ?_|refine qc ?_ _));exact BK202.out) hb);have n3_:=qn.mk (ql (g:=gb203) (o:=.cells #[.slice none 0 0,.slice none 0 0] 40 (0,0)) (by (with_reducible repeat (first|refine qb ?_ _|refine qe ?_|refine qc ?_ _));refine blk_far ?_ NB203_210.out _;(with_reducible repeat (first|refine qb ?_ _|refine qe ?_|refine qc ?_ _));exact BK203.out) hb);have n4_:=qn.mk (ql (g:=gb210) (o:=.cells #[.slice Ao55 t204.length co55,.slice Ao61 y211.length co61] 40 (0,0)) (by (with_reducible repeat (first|refine qb ?_ _|refine qe ?_|refine qc ?_ _));refine blk_put (cs:=#[.slice Ao55 t204.length co55,.slice Ao59 t207.length co59]) ?_ 1 _ rfl;(with_reducible repeat (first|refine qb ?_ _|refine qe ?_|refine qc ?_ _));exact BK210.out) hb);have n5_:=hs_ HB hb;clear HO206;clear HO213;clear BK202;clear BK203;clear BK210;clear HB;have HO206:=n0_;have HO213:=n1_;have BK202:=n2_;have BK203:=n3_;have BK210:=n4_;have HB:=n5_;clear n0_ n1_ n2_ n3_ n4_ n5_;(try clear hb);(try clear hb2);(try clear hk);(try clear hi);have hcz65_0 : w64.cell? ⟨gb203,0,none⟩ = some (.slice none 0 0):=(qh BK203.out 0).trans rfl;have hcz65_1 : w64.cell? ⟨gb203,1,none⟩ = some (.slice none 0 0):=(qh BK203.out 1).trans rfl;have hfz65_0:=qi BK203.out 0;have hfz65_1:=qi BK203.out 1))
      refine bodyPost_ret (results_ct rfl _ _ gb203 40 #[.slice none 0 0,.slice none 0 0] (0,0) _ rfl (by (with_reducible repeat (first|refine qb ?_ _|refine qe ?_|refine qc ?_ _));refine blk_put (cs:=#[.slice none 0 0,.slice none 0 0]) ?_ 1 _ rfl;(with_reducible repeat (first|refine qb ?_ _|refine qe ?_|refine qc ?_ _));refine blk_put (cs:=#[.slice none 0 0,.slice none 0 0]) ?_ 0 _ rfl;(with_reducible repeat (first|refine qb ?_ _|refine qe ?_|refine qc ?_ _));exact BK203.out) Try.underlying40 rfl (by kernel_rfl)) rfl ?_
      exact ⟨_,_,by first|rfl|(simp [errW_none,errW_some] <;> rfl)|(simp [*,errW_none,errW_some] <;> rfl),by first|exact Kd.R_nil _ _ _ _ _|exact Kd.N_nil _ _ _ _ _|exact Kd.V_nil _ _ _ _ _|exact Kd.Q_nil _ _ _ _ _|exact Kd.S_nil _ _ _ _ _,by first|exact Kd.R_nil _ _ _ _ _|exact Kd.N_nil _ _ _ _ _|exact Kd.V_nil _ _ _ _ _|exact Kd.Q_nil _ _ _ _ _|exact Kd.S_nil _ _ _ _ _,by repeat (first|(with_reducible first|exact HB.out|apply qf|apply qa|apply qd|refine qg ?_ GE202.out|refine qg ?_ GE203.out|refine qg ?_ GE210.out)|exact HB.out)⟩
  · rw [if_neg c5] at H
    exact absurd H (by simp)

/-! ### impl_FlushDevice: function 22 -/
def impl_FlushDevice.l0 : Nat → List (S98) → Int → Int → List ByteArray → List (S98) → Option (List ByteArray × (List (S98)) × Bool)
  | 0,_,_,_,_,_=>none
  | k + 1,x14,x15,x16,x226000,x226001=>if x16 < x15 then (if 0 ≤ x16 then (if x16 < (x14.length : Int) then (if 0 ≤ ((rd_T98 x14 x16).f0) then (if ((rd_T98 x14 x16).f0) < (x226000.length : Int) then (impl_FlushDevice.l0 k x14 x15 (wrap64 (x16 + 1)) (x226000.set (((rd_T98 x14 x16).f0) : Int).toNat ((rd_T98 x14 x16).f1)) x226001) else (none)) else (none)) else (none)) else (none)) else (some (x226000,([] : List (S98)),true))
def impl_FlushDevice.f (k : Nat) (l0_0 : List ByteArray) (l0_1 : List (S98)) : Option (List ByteArray × (List (S98)) × Bool):=(impl_DeviceOk.f k l0_0 l0_1).bind fun t218=>(if t218 = true then ((impl_copyDevice.f l0_0 l0_1).bind fun bt219=>(impl_FlushDevice.l0 k l0_1 (l0_1.length : Int) 0 bt219.1 bt219.2)) else (some (([] : List ByteArray),([] : List (S98)),false)))
theorem impl_FlushDevice.mono_l : ∀ k,(∀ y0 y1 y2 y3 y4,LeO (impl_FlushDevice.l0 k y0 y1 y2 y3 y4) (impl_FlushDevice.l0 (k + 1) y0 y1 y2 y3 y4))
  | 0=>fun _ _ _ _ _ r h=>by simp [impl_FlushDevice.l0] at h
  | k + 1=>by
    have ih0:=impl_FlushDevice.mono_l k
    · intro y0 y1 y2 y3 y4
      unfold impl_FlushDevice.l0
      repeat' first
      | (with_reducible exact ih0 _ _ _ _ _)
      | (with_reducible exact impl_DeviceOk.mono _ _ _)
      | (with_reducible exact LeO.refl _)
      | (with_reducible exact LeO.none _)
      | (with_reducible refine LeO.ite ?_ ?_)
      | (with_reducible refine LeO.bind ?_ (fun _=>?_))
      | exact ih0 _ _ _ _ _
      | exact impl_DeviceOk.mono _ _ _
      | exact LeO.none _
      | refine LeO.ite ?_ ?_
      | refine LeO.bind ?_ (fun _=>?_)
theorem impl_FlushDevice.mono : ∀ a0 a1 k,LeO (impl_FlushDevice.f k a0 a1) (impl_FlushDevice.f (k + 1) a0 a1):=by
  intro a0 a1 k
  have ih0:=impl_FlushDevice.mono_l k
  unfold impl_FlushDevice.f
  repeat' first
      | (with_reducible exact ih0 _ _ _ _ _)
      | (with_reducible exact impl_DeviceOk.mono _ _ _)
      | (with_reducible exact LeO.refl _)
      | (with_reducible exact LeO.none _)
      | (with_reducible refine LeO.ite ?_ ?_)
      | (with_reducible refine LeO.bind ?_ (fun _=>?_))
      | exact ih0 _ _ _ _ _
      | exact impl_DeviceOk.mono _ _ _
      | exact LeO.none _
      | refine LeO.ite ?_ ?_
      | refine LeO.bind ?_ (fun _=>?_)
set_option maxHeartbeats 8000000 in
set_option maxRecDepth 100000 in
theorem impl_FlushDevice.calls (k : Nat) (A0_0 : Option Addr) (c0_0 : Nat) (l0_0 : List ByteArray) (A0_1 : Option Addr) (c0_1 : Nat) (l0_1 : List (S98)) (r1 : List ByteArray) (r2 : List (S98)) (r3 : Bool) (w : World) (hr0_0 : Kd.C Kd.string w A0_0 l0_0.length l0_0) (hc0_0 : l0_0.length ≤ c0_0) (hr0_1 : Kd.C k98 w A0_1 l0_1.length l0_1) (hc0_1 : l0_1.length ≤ c0_1) (h : impl_FlushDevice.f k l0_0 l0_1 = some (r1,r2,r3)) :
    Calls Try.prog 22 #[.agg #[.slice A0_0 l0_0.length c0_0,.slice A0_1 l0_1.length c0_1]] w fun e w'=>∃ v0_ v1_ : Value,e = .returned (.tuple #[.agg #[v0_,v1_],.bool r3]) ∧ Kd.R Kd.string 9 w' w.heap.size (fun _=>True) v0_ r1 ∧ Kd.R k98 98 w' w.heap.size (fun _=>True) v1_ r2 ∧ Below w.heap.size w w':=by
  have hu40:=Try.underlying40
  have hu98:=Try.underlying98
  have HR0_0:=qn.mk hr0_0
  have HC0_0:=qn.mk hc0_0
  clear hr0_0 hc0_0
  have HR0_1:=qn.mk hr0_1
  have HC0_1:=qn.mk hc0_1
  clear hr0_1 hc0_1
  have HB:=qn.mk (Below.refl w.heap.size w)
  have H : ((impl_DeviceOk.f k l0_0 l0_1).bind fun t218=>(if t218 = true then ((impl_copyDevice.f l0_0 l0_1).bind fun bt219=>(impl_FlushDevice.l0 k l0_1 (l0_1.length : Int) 0 bt219.1 bt219.2)) else (some (([] : List ByteArray),([] : List (S98)),false)))) = some (r1,r2,r3):=h
  clear h
  replace H:=Option.bind_eq_some_iff.mp H
  obtain ⟨t218,A20,H⟩:=H
  replace H : (if t218 = true then ((impl_copyDevice.f l0_0 l0_1).bind fun bt219=>(impl_FlushDevice.l0 k l0_1 (l0_1.length : Int) 0 bt219.1 bt219.2)) else (some (([] : List ByteArray),([] : List (S98)),false))) = some (r1,r2,r3):=H
  have A2:=qn.mk A20
  clear A20
  by_cases c3 : t218 = true
  · subst c3
    have H1 : ((impl_copyDevice.f l0_0 l0_1).bind fun bt219=>(impl_FlushDevice.l0 k l0_1 (l0_1.length : Int) 0 bt219.1 bt219.2)) = some (r1,r2,r3):=by rw [if_pos rfl] at H;exact H
    clear H
    have H:=H1
    clear H1
    replace H:=Option.bind_eq_some_iff.mp H
    obtain ⟨⟨t219,t222⟩,A40,H⟩:=H
    replace H : (impl_FlushDevice.l0 k l0_1 (l0_1.length : Int) 0 t219 t222) = some (r1,r2,r3):=H
    have A4:=qn.mk A40
    clear A40
    have H':=qn.mk H
    clear H
    go_enter Try.func22,Try.ntmps22
    go_wp2_with (first|((with_reducible refine gate_dst (N:=1) rfl ?_);refine box_event ?hg (N:=1) ?hd (cs:=#[.slice A0_0 l0_0.length c0_0,.slice A0_1 l0_1.length c0_1]) (t:=40) ?hr ?_;(case hd=>rfl);(case hg=>rfl);(case hr=>first|(go_simp;done)|(go_simp;rfl));intro gb216 hg w5 hbox hb;have n0_:=hs_ HB hb;have n1_:=qn.mk (hbox);have n2_:=qn.mk ((by rw [hg];exact (qj (by repeat (first|(with_reducible first|exact HB.out|apply qf|apply qa|apply qd)|exact HB.out))) : w.heap.size ≤ gb216));have n3_:=qn.mk ((by rw [hg];exact (qj (by repeat (first|(with_reducible first|exact HB.out|apply qf|apply qa|apply qd)|exact HB.out))) : w.heap.size ≤ gb216));clear HB;have HB:=n0_;have BK216:=n1_;have GW216:=n2_;have GE216:=n3_;clear n0_ n1_ n2_ n3_;clear hb hbox hg)|((with_reducible refine gate_dst (N:=2) rfl ?_);refine box_event ?hg (N:=2) ?hd (cs:=#[.slice none 0 0,.slice none 0 0]) (t:=40) ?hr ?_;(case hd=>rfl);(case hg=>rfl);(case hr=>first|(go_simp;done)|(go_simp;rfl));intro gb217 hg w6 hbox hb;have n0_:=bb_ BK216 hb;have n1_:=hs_ HB hb;have n2_:=qn.mk (hbox);have n3_:=qn.mk ((by rw [hg];exact (qj (by repeat (first|(with_reducible first|exact HB.out|apply qf|apply qa|apply qd|refine qg ?_ GE216.out)|exact HB.out))) : w.heap.size ≤ gb217));have n4_:=qn.mk ((by rw [hg];exact (qj (by repeat (first|(with_reducible first|exact HB.out|apply qf|apply qa|apply qd|refine qg ?_ GE216.out)|exact HB.out))) : w.heap.size ≤ gb217));have n5_:=qn.mk ((by rw [hg];exact nl_ BK216 : gb216 ≠ gb217));have n6_:=qn.mk ((by rw [hg];exact ng_ BK216 : gb217 ≠ gb216));clear BK216;clear HB;have BK216:=n0_;have HB:=n1_;have BK217:=n2_;have GW217:=n3_;have GE217:=n4_;have NB216_217:=n5_;have NB217_216:=n6_;clear n0_ n1_ n2_ n3_ n4_ n5_ n6_;clear hb hbox hg;have hnb7:=NB216_217.out;have hnc7:=NB217_216.out;have hcz8_0 : w6.cell? ⟨gb216,0,none⟩ = some (.slice A0_0 l0_0.length c0_0):=(qh BK216.out 0).trans rfl;have hcz8_1 : w6.cell? ⟨gb216,1,none⟩ = some (.slice A0_1 l0_1.length c0_1):=(qh BK216.out 1).trans rfl;have hfz8_0:=qi BK216.out 0;have hfz8_1:=qi BK216.out 1)|((with_reducible refine gate_callee (f:=23) rfl ?_);refine goesL_ (some 8) rfl rfl Try.func23 (by kernel_rfl) rfl #[.agg #[.slice A0_0 l0_0.length c0_0,.slice A0_1 l0_1.length c0_1]] rfl (by (try simp only [List.map_toArray,List.map_cons,List.map_nil]);first|done|rfl|(simp only [List.length_drop,List.length_take];rfl)) ?_;(with_reducible refine (impl_DeviceOk.calls k _ _ l0_0 _ _ l0_1 true _ ?side1 ?side2 ?side3 ?side4 A2.out).mono ?_);(case side1=>repeat (first|exact (Kd.C_below HR0_0.out HB.out)|(with_reducible refine Kd.C_alloc ?_ _)|(with_reducible refine Kd.C_drewN ?_ _)|(with_reducible refine Kd.C_drew ?_)));(case side2=>exact HC0_0.out);(case side3=>repeat (first|exact (Kd.C_below HR0_1.out HB.out)|(with_reducible refine Kd.C_alloc ?_ _)|(with_reducible refine Kd.C_drewN ?_ _)|(with_reducible refine Kd.C_drew ?_)));(case side4=>exact HC0_1.out);rintro e w9 ⟨rfl,hb⟩;refine ⟨_,rfl,?_⟩;have n0_:=bb_ BK216 hb;have n1_:=bb_ BK217 hb;have n2_:=hs_ HB hb;clear BK216;clear BK217;clear HB;have BK216:=n0_;have BK217:=n1_;have HB:=n2_;clear n0_ n1_ n2_;(try clear hb);(try clear hb2);(try clear hk);(try clear hi);have hcz10_0 : w9.cell? ⟨gb216,0,none⟩ = some (.slice A0_0 l0_0.length c0_0):=(qh BK216.out 0).trans rfl;have hcz10_1 : w9.cell? ⟨gb216,1,none⟩ = some (.slice A0_1 l0_1.length c0_1):=(qh BK216.out 1).trans rfl;have hfz10_0:=qi BK216.out 0;have hfz10_1:=qi BK216.out 1)|((with_reducible refine gate_callee (f:=63) rfl ?_);refine goesL_ (some 12) rfl rfl Try.func63 (by kernel_rfl) rfl #[.agg #[.slice A0_0 l0_0.length c0_0,.slice A0_1 l0_1.length c0_1]] rfl (by (try simp only [List.map_toArray,List.map_cons,List.map_nil]);first|done|rfl|(simp only [List.length_drop,List.length_take];rfl)) ?_;(with_reducible refine (impl_copyDevice.calls _ _ l0_0 _ _ l0_1 t219 t222 _ ?side1 ?side2 ?side3 ?side4 A4.out).mono ?_);(case side1=>repeat (first|exact (Kd.C_below HR0_0.out HB.out)|(with_reducible refine Kd.C_alloc ?_ _)|(with_reducible refine Kd.C_drewN ?_ _)|(with_reducible refine Kd.C_drew ?_)));(case side2=>exact HC0_0.out);(case side3=>repeat (first|exact (Kd.C_below HR0_1.out HB.out)|(with_reducible refine Kd.C_alloc ?_ _)|(with_reducible refine Kd.C_drewN ?_ _)|(with_reducible refine Kd.C_drew ?_)));(case side4=>exact HC0_1.out);rintro e w11 ⟨v220,v223,rfl,ho0,ho1,hb⟩;refine ⟨_,rfl,?_⟩;have n0_:=qn.mk (Kd.R_lower ho0 (qj (by repeat (first|(with_reducible first|exact HB.out|apply qf|apply qa|apply qd|refine qg ?_ GE216.out|refine qg ?_ GE217.out)|exact HB.out))));have n1_:=qn.mk (Kd.R_lower ho1 (qj (by repeat (first|(with_reducible first|exact HB.out|apply qf|apply qa|apply qd|refine qg ?_ GE216.out|refine qg ?_ GE217.out)|exact HB.out))));have n2_:=bb_ BK216 hb;have n3_:=bb_ BK217 hb;have n4_:=hs_ HB hb;clear BK216;clear BK217;clear HB;have HO221:=n0_;have HO224:=n1_;have BK216:=n2_;have BK217:=n3_;have HB:=n4_;clear n0_ n1_ n2_ n3_ n4_;(try clear hb);(try clear hb2);(try clear hk);(try clear hi);(try clear ho0);(try clear ho1))|((with_reducible refine gate_dst (N:=4) rfl ?_);refine box_event ?hg (N:=4) ?hd (cs:=#[.slice none 0 0,.slice none 0 0]) (t:=40) ?hr ?_;(case hd=>rfl);(case hg=>rfl);(case hr=>first|(go_simp;done)|(go_simp;rfl));intro gb225 hg w12 hbox hb;have n0_:=rb_ HO221 hb;have n1_:=rb_ HO224 hb;have n2_:=bb_ BK216 hb;have n3_:=bb_ BK217 hb;have n4_:=hs_ HB hb;have n5_:=qn.mk (hbox);have n6_:=qn.mk ((by rw [hg];exact (qj (by repeat (first|(with_reducible first|exact HB.out|apply qf|apply qa|apply qd|refine qg ?_ GE216.out|refine qg ?_ GE217.out)|exact HB.out))) : w.heap.size ≤ gb225));have n7_:=qn.mk ((by rw [hg];exact (qj (by repeat (first|(with_reducible first|exact HB.out|apply qf|apply qa|apply qd|refine qg ?_ GE216.out|refine qg ?_ GE217.out)|exact HB.out))) : w.heap.size ≤ gb225));have n8_:=qn.mk ((by rw [hg];exact nl_ BK216 : gb216 ≠ gb225));have n9_:=qn.mk ((by rw [hg];exact ng_ BK216 : gb225 ≠ gb216));have n10_:=qn.mk ((by rw [hg];exact nl_ BK217 : gb217 ≠ gb225));have n11_:=qn.mk ((by rw [hg];exact ng_ BK217 : gb225 ≠ gb217));clear HO221;clear HO224;clear BK216;clear BK217;clear HB;have HO221:=n0_;have HO224:=n1_;have BK216:=n2_;have BK217:=n3_;have HB:=n4_;have BK225:=n5_;have GW225:=n6_;have GE225:=n7_;have NB216_225:=n8_;have NB225_216:=n9_;have NB217_225:=n10_;have NB225_217:=n11_;clear n0_ n1_ n2_ n3_ n4_ n5_ n6_ n7_ n8_ n9_ n10_ n11_;clear hb hbox hg;obtain ⟨Ao13,co13,eo13⟩:=Kd.R_slice HO221.out;subst eo13;have hnb14:=NB225_216.out;have hnc14:=NB216_225.out;have hnb15:=NB225_217.out;have hnc15:=NB217_225.out;have hcz16_0 : w12.cell? ⟨gb225,0,none⟩ = some (.slice none 0 0):=(qh BK225.out 0).trans rfl;have hcz16_1 : w12.cell? ⟨gb225,1,none⟩ = some (.slice none 0 0):=(qh BK225.out 1).trans rfl;have hfz16_0:=qi BK225.out 0;have hfz16_1:=qi BK225.out 1;obtain ⟨Ao17,co17,eo17⟩:=Kd.R_slice HO224.out;subst eo17;have hcz18_0 : w12.cell? ⟨gb216,0,none⟩ = some (.slice A0_0 l0_0.length c0_0):=(qh BK216.out 0).trans rfl;have hcz18_1 : w12.cell? ⟨gb216,1,none⟩ = some (.slice A0_1 l0_1.length c0_1):=(qh BK216.out 1).trans rfl;have hfz18_0:=qi BK216.out 0;have hfz18_1:=qi BK216.out 1))
    go_loopg [16] k (fun kq v16 w'=>∃ (x16_1 : Int) (x226000_1 : List ByteArray) (u226000 : Value),v16 = .int .i64 x16_1 ∧ qn (impl_FlushDevice.l0 kq l0_1 (l0_1.length : Int) x16_1 x226000_1 t222 = some (r1,r2,r3)) ∧ qn (kq ≤ k) ∧ qn (Kd.R Kd.string 9 w' w.heap.size (fun _=>True) u226000 x226000_1) ∧ qn (Kd.R k98 98 w' w.heap.size (fun _=>True) (.slice Ao17 t222.length co17) t222) ∧ qn (w'.heap[gb216]? = some (.cells #[(.slice A0_0 l0_0.length c0_0),(.slice A0_1 l0_1.length c0_1)] 40 (0,0))) ∧ qn (w'.heap[gb217]? = some (.cells #[(.slice none 0 0),(.slice none 0 0)] 40 (0,0))) ∧ qn (w'.heap[gb225]? = some (.cells #[u226000,(.slice Ao17 t222.length co17)] 40 (0,0))) ∧ qn (Below w.heap.size w w'))
    case atStart=>exact ⟨(0),(t219),(.slice Ao13 t219.length co13),(by first|rfl|(simp;done)|(simp [*];done)),H',⟨Nat.le_refl _⟩,⟨by (with_reducible repeat (first|apply Kd.R_alloc|apply Kd.R_drewN|apply Kd.R_drew));exact Kd.R_mono (Kd.R_far (p:=⟨gb225,1,none⟩) (Kd.R_far (p:=⟨gb225,0,none⟩) (Kd.R_types HO221.out BK225.out (by decide)) (fun _ hk=>hk.2) (.slice Ao13 t219.length co13)) (fun _ hk=>hk.2) (.slice Ao17 t222.length co17)) (fun _ hk=>trivial)⟩,⟨by (with_reducible repeat (first|apply Kd.R_alloc|apply Kd.R_drewN|apply Kd.R_drew));exact Kd.R_mono (Kd.R_far (p:=⟨gb225,1,none⟩) (Kd.R_far (p:=⟨gb225,0,none⟩) (Kd.R_types HO224.out BK225.out (by decide)) (fun _ hk=>hk.2) (.slice Ao13 t219.length co13)) (fun _ hk=>hk.2) (.slice Ao17 t222.length co17)) (fun _ hk=>trivial)⟩,⟨by (with_reducible repeat (first|refine qb ?_ _|refine qe ?_|refine qc ?_ _));refine blk_far ?_ NB216_225.out _;(with_reducible repeat (first|refine qb ?_ _|refine qe ?_|refine qc ?_ _));refine blk_far ?_ NB216_225.out _;(with_reducible repeat (first|refine qb ?_ _|refine qe ?_|refine qc ?_ _));exact BK216.out⟩,⟨by (with_reducible repeat (first|refine qb ?_ _|refine qe ?_|refine qc ?_ _));refine blk_far ?_ NB217_225.out _;(with_reducible repeat (first|refine qb ?_ _|refine qe ?_|refine qc ?_ _));refine blk_far ?_ NB217_225.out _;(with_reducible repeat (first|refine qb ?_ _|refine qe ?_|refine qc ?_ _));exact BK217.out⟩,⟨by (with_reducible repeat (first|refine qb ?_ _|refine qe ?_|refine qc ?_ _));refine blk_put (cs:=#[.slice Ao13 t219.length co13,.slice none 0 0]) ?_ 1 _ rfl;(with_reducible repeat (first|refine qb ?_ _|refine qe ?_|refine qc ?_ _));refine blk_put (cs:=#[.slice none 0 0,.slice none 0 0]) ?_ 0 _ rfl;(with_reducible repeat (first|refine qb ?_ _|refine qe ?_|refine qc ?_ _));exact BK225.out⟩,⟨by repeat (first|(with_reducible first|exact HB.out|apply qf|apply qa|apply qd|refine qg ?_ GE216.out|refine qg ?_ GE217.out|refine qg ?_ GE225.out)|exact HB.out)⟩⟩
    case round =>
      clear H'
      try clear c1
      try clear c2
      try clear p2
      try clear c3
      try clear c6
      try clear c7
      try clear c14
      try clear c15
      try clear hcz10_0
      try clear hcz10_1
      try clear hcz16_0
      try clear hcz16_1
      try clear hcz18_0
      try clear hcz18_1
      try clear hcz8_0
      try clear hcz8_1
      try clear hfz10_0
      try clear hfz10_1
      try clear hfz16_0
      try clear hfz16_1
      try clear hfz18_0
      try clear hfz18_1
      try clear hfz8_0
      try clear hfz8_1
      obtain ⟨x16_1,x226000_1,u226000,rfl,HA,HK1,HO_226000,HO_226001,BK216,BK217,BK225,HB⟩:=hrel
      cases gk with
      | zero=>exact absurd HA.out (by simp [impl_FlushDevice.l0])
      | succ k1 =>
        have H:=HA.out
        clear HA
        simp only [impl_FlushDevice.l0] at H
        by_cases c19 : x16_1 < (l0_1.length : Int)
        · rw [if_pos c19] at H
          have c19b0 : decide (x16_1 < (l0_1.length : Int)) = true:=decide_eq_true c19
          clear c19
          by_cases c20 : 0 ≤ x16_1
          · rw [if_pos c20] at H
            have c20b0 : decide (0 ≤ x16_1) = true:=decide_eq_true c20
            clear c20
            by_cases c21 : x16_1 < (l0_1.length : Int)
            · rw [if_pos c21] at H
              have c21b0 : decide (x16_1 < (l0_1.length : Int)) = true:=decide_eq_true c21
              clear c21
              by_cases c22 : 0 ≤ ((rd_T98 l0_1 x16_1).f0)
              · rw [if_pos c22] at H
                have c22b0 : decide (0 ≤ ((rd_T98 l0_1 x16_1).f0)) = true:=decide_eq_true c22
                clear c22
                by_cases c23 : ((rd_T98 l0_1 x16_1).f0) < (x226000_1.length : Int)
                · rw [if_pos c23] at H
                  have c23b0 : decide (((rd_T98 l0_1 x16_1).f0) < (x226000_1.length : Int)) = true:=decide_eq_true c23
                  clear c23
                  obtain ⟨y228,hy228⟩ : ∃ y_ : List ByteArray,y_ = (x226000_1.set (((rd_T98 l0_1 x16_1).f0) : Int).toNat ((rd_T98 l0_1 x16_1).f1)):=⟨_,rfl⟩
                  replace H : (impl_FlushDevice.l0 k1 l0_1 (l0_1.length : Int) (wrap64 (x16_1 + 1)) y228 t222) = some (r1,r2,r3):=by first|(rw [hy228];with_reducible exact H)|(have H2_:=(Option.bind_some _ _).symm.trans H;rw [hy228];with_reducible exact H2_)|(have H2_:=(Option.bind_some _ _).symm.trans H;with_reducible exact H2_)|with_reducible exact H|(rw [hy228];exact H)|exact H
                  have Ny228:=qn.mk hy228
                  clear hy228
                  have H':=qn.mk H
                  clear H
                  have p226 : 0 ≤ (x16_1 : Int):=of_decide_eq_true (by first|(with_reducible assumption)|assumption)
                  have q226 : x16_1 < (l0_1.length : Int):=of_decide_eq_true (by first|(with_reducible assumption)|assumption)
                  obtain ⟨ad226,e226,hx226_0,hx226_1⟩:=at_T98 HR0_1.out x16_1 p226 q226
                  cases e226
                  replace hx226_0:=cb_ HB hx226_0
                  replace hx226_1:=cb_ HB hx226_1
                  replace p226:=eq_true p226
                  replace q226:=eq_true q226
                  go_wp2_with (first|((with_reducible refine gate_dst (N:=6) rfl ?_);refine box_event ?hg (N:=6) ?hd (cs:=#[.int .i64 0,.string (⟨#[]⟩ : ByteArray)]) (t:=98) ?hr ?_;(case hd=>rfl);(case hg=>rfl);(case hr=>first|(go_simp;done)|(go_simp;rfl));intro gb227 hg w25 hbox hb;have n0_:=rb_ HO_226000 hb;have n1_:=qn.mk (Kd.R_below (Kd.R_elderB (by (with_reducible repeat (first|apply Kd.R_alloc|apply Kd.R_drewN|apply Kd.R_drew));exact HO_226001.out) gb227 (Nat.le_of_eq hg.symm)) hb);have n2_:=bb_ BK216 hb;have n3_:=bb_ BK217 hb;have n4_:=bb_ BK225 hb;have n5_:=hs_ HB hb;have n6_:=qn.mk (hbox);have n7_:=qn.mk ((by rw [hg];exact (qj (by repeat (first|(with_reducible first|exact HB.out|apply qf|apply qa|apply qd|refine qg ?_ GE216.out|refine qg ?_ GE217.out|refine qg ?_ GE225.out)|exact HB.out))) : w.heap.size ≤ gb227));have n8_:=qn.mk ((by rw [hg];exact (qj (by repeat (first|(with_reducible first|exact HB.out|apply qf|apply qa|apply qd|refine qg ?_ GE216.out|refine qg ?_ GE217.out|refine qg ?_ GE225.out)|exact HB.out))) : w.heap.size ≤ gb227));have n9_:=qn.mk ((by rw [hg];exact nl_ BK216 : gb216 ≠ gb227));have n10_:=qn.mk ((by rw [hg];exact ng_ BK216 : gb227 ≠ gb216));have n11_:=qn.mk ((by rw [hg];exact nl_ BK217 : gb217 ≠ gb227));have n12_:=qn.mk ((by rw [hg];exact ng_ BK217 : gb227 ≠ gb217));have n13_:=qn.mk ((by rw [hg];exact nl_ BK225 : gb225 ≠ gb227));have n14_:=qn.mk ((by rw [hg];exact ng_ BK225 : gb227 ≠ gb225));clear HO_226000;clear HO_226001;clear BK216;clear BK217;clear BK225;clear HB;have HO_226000:=n0_;have HO_226001:=n1_;have BK216:=n2_;have BK217:=n3_;have BK225:=n4_;have HB:=n5_;have BK227:=n6_;have GW227:=n7_;have GE227:=n8_;have NB216_227:=n9_;have NB227_216:=n10_;have NB217_227:=n11_;have NB227_217:=n12_;have NB225_227:=n13_;have NB227_225:=n14_;clear n0_ n1_ n2_ n3_ n4_ n5_ n6_ n7_ n8_ n9_ n10_ n11_ n12_ n13_ n14_;clear hb hbox hg;have hnb26:=NB227_216.out;have hnc26:=NB216_227.out;have hnb27:=NB227_217.out;have hnc27:=NB217_227.out;have hnb28:=NB227_225.out;have hnc28:=NB225_227.out;have hcz29_0 : w25.cell? ⟨gb227,0,none⟩ = some (.int .i64 0):=(qh BK227.out 0).trans rfl;have hcz29_1 : w25.cell? ⟨gb227,1,none⟩ = some (.string (⟨#[]⟩ : ByteArray)):=(qh BK227.out 1).trans rfl;have hfz29_0:=qi BK227.out 0;have hfz29_1:=qi BK227.out 1)|((with_reducible refine gate_store (t:=98) (p:=6) rfl ?_);refine store_event (t:=98) (p:=6) (v:=?vo_w30) (w1:=((w25.setCell ⟨gb227,0,none⟩ (.int .i64 ((rd_T98 l0_1 x16_1).f0))).setCell ⟨gb227,1,none⟩ (.string ((rd_T98 l0_1 x16_1).f1)))) ?hg ?ho ?hn ?hr ?_;(case ho=>rfl);(case hg=>rfl);(case hn=>rfl);(case hr=>first|(go_simp;done)|(go_simp;rfl));intro w30 hw;have n0_ : qn (Kd.R Kd.string 9 w30 w.heap.size (fun _=>True) u226000 x226000_1):=⟨(by rw [hw];exact (by (with_reducible repeat (first|apply Kd.R_alloc|apply Kd.R_drewN|apply Kd.R_drew));exact Kd.R_mono (Kd.R_far (p:=⟨gb227,1,none⟩) (Kd.R_far (p:=⟨gb227,0,none⟩) (Kd.R_types HO_226000.out BK227.out (by decide)) (fun _ hk=>hk.2) (.int .i64 ((rd_T98 l0_1 x16_1).f0))) (fun _ hk=>hk.2) (.string ((rd_T98 l0_1 x16_1).f1))) (fun _ hk=>trivial)))⟩;have n1_ : qn (Kd.R k98 98 w30 w.heap.size (fun k_=>k_ ≠ gb227) (.slice Ao17 t222.length co17) t222):=⟨(by rw [hw];exact (by (with_reducible repeat (first|apply Kd.R_alloc|apply Kd.R_drewN|apply Kd.R_drew));exact Kd.R_mono (Kd.R_far (p:=⟨gb227,1,none⟩) (Kd.R_far (p:=⟨gb227,0,none⟩) (Kd.R_mono HO_226001.out (fun k_ hk=>(⟨hk,hk.2⟩ : _ ∧ k_ ≠ gb227))) (fun _ hk=>hk.2) (.int .i64 ((rd_T98 l0_1 x16_1).f0))) (fun _ hk=>hk.2) (.string ((rd_T98 l0_1 x16_1).f1))) (fun _ hk=>hk.1.2)))⟩;have n2_ : qn (w30.heap[gb216]? = some (.cells #[.slice A0_0 l0_0.length c0_0,.slice (some ad226) l0_1.length c0_1] 40 (0,0))):=⟨(by rw [hw];exact (by (with_reducible repeat (first|refine qb ?_ _|refine qe ?_|refine qc ?_ _));refine blk_far ?_ NB216_227.out _;(with_reducible repeat (first|refine qb ?_ _|refine qe ?_|refine qc ?_ _));refine blk_far ?_ NB216_227.out _;(with_reducible repeat (first|refine qb ?_ _|refine qe ?_|refine qc ?_ _));exact BK216.out))⟩;have n3_ : qn (w30.heap[gb217]? = some (.cells #[.slice none 0 0,.slice none 0 0] 40 (0,0))):=⟨(by rw [hw];exact (by (with_reducible repeat (first|refine qb ?_ _|refine qe ?_|refine qc ?_ _));refine blk_far ?_ NB217_227.out _;(with_reducible repeat (first|refine qb ?_ _|refine qe ?_|refine qc ?_ _));refine blk_far ?_ NB217_227.out _;(with_reducible repeat (first|refine qb ?_ _|refine qe ?_|refine qc ?_ _));exact BK217.out))⟩;have n4_ : qn (w30.heap[gb225]? = some (.cells #[u226000,.slice Ao17 t222.length co17] 40 (0,0))):=⟨(by rw [hw];exact (by (with_reducible repeat (first|refine qb ?_ _|refine qe ?_|refine qc ?_ _));refine blk_far ?_ NB225_227.out _;(with_reducible repeat (first|refine qb ?_ _|refine qe ?_|refine qc ?_ _));refine blk_far ?_ NB225_227.out _;(with_reducible repeat (first|refine qb ?_ _|refine qe ?_|refine qc ?_ _));exact BK225.out))⟩;have n5_ : qn (w30.heap[gb227]? = some (.cells #[.int .i64 ((rd_T98 l0_1 x16_1).f0),.string ((rd_T98 l0_1 x16_1).f1)] 98 (0,0))):=⟨(by rw [hw];exact (by (with_reducible repeat (first|refine qb ?_ _|refine qe ?_|refine qc ?_ _));refine blk_put (cs:=#[.int .i64 ((rd_T98 l0_1 x16_1).f0),.string (⟨#[]⟩ : ByteArray)]) ?_ 1 _ rfl;(with_reducible repeat (first|refine qb ?_ _|refine qe ?_|refine qc ?_ _));refine blk_put (cs:=#[.int .i64 0,.string (⟨#[]⟩ : ByteArray)]) ?_ 0 _ rfl;(with_reducible repeat (first|refine qb ?_ _|refine qe ?_|refine qc ?_ _));exact BK227.out))⟩;have n6_ : qn (Below w.heap.size w w30):=⟨(by rw [hw];exact (by repeat (first|(with_reducible first|exact HB.out|apply qf|apply qa|apply qd|refine qg ?_ GE216.out|refine qg ?_ GE217.out|refine qg ?_ GE225.out|refine qg ?_ GE227.out)|exact HB.out)))⟩;clear hw;clear HO_226000;clear HO_226001;clear BK216;clear BK217;clear BK225;clear BK227;clear HB;have HO_226000:=n0_;have HO_226001:=n1_;have BK216:=n2_;have BK217:=n3_;have BK225:=n4_;have BK227:=n5_;have HB:=n6_;clear n0_ n1_ n2_ n3_ n4_ n5_ n6_;have hnb31:=NB225_216.out;have hnc31:=NB216_225.out;have hnb32:=NB225_217.out;have hnc32:=NB217_225.out;have hcz33_0 : w30.cell? ⟨gb225,0,none⟩ = some (u226000):=(qh BK225.out 0).trans rfl;have hcz33_1 : w30.cell? ⟨gb225,1,none⟩ = some (.slice Ao17 t222.length co17):=(qh BK225.out 1).trans rfl;have hfz33_0:=qi BK225.out 0;have hfz33_1:=qi BK225.out 1;have hcz34_0 : w30.cell? ⟨gb227,0,none⟩ = some (.int .i64 ((rd_T98 l0_1 x16_1).f0)):=(qh BK227.out 0).trans rfl;have hcz34_1 : w30.cell? ⟨gb227,1,none⟩ = some (.string ((rd_T98 l0_1 x16_1).f1)):=(qh BK227.out 1).trans rfl;have hfz34_0:=qi BK227.out 0;have hfz34_1:=qi BK227.out 1;have p24 : 0 ≤ (((rd_T98 l0_1 x16_1).f0) : Int):=of_decide_eq_true (by first|(with_reducible assumption)|assumption);have q24 : (((rd_T98 l0_1 x16_1).f0) : Int) < ((x226000_1.length : Int) : Int):=of_decide_eq_true (by first|(with_reducible assumption)|assumption);obtain ⟨go24,co24,eo24,gb24,gl24,cl24,HG24⟩:=Kd.R_form HO_226000.out (by omega);(first|cases eo24|(injection eo24 with ea_ en_ ec_;(first|subst ea_|(injection ea_ with ea_;subst ea_));subst ec_;clear en_));have GB24:=qn.mk gb24;have GG24:=qn.mk HG24;clear gb24 gl24 HG24;obtain ⟨hx24_0,hf24_0⟩:=Kd.R_celln (⟨#[]⟩ : ByteArray) HO_226000.out (((rd_T98 l0_1 x16_1).f0) : Int) p24 q24;replace p24:=eq_true p24;replace q24:=eq_true q24;obtain ⟨hy35_,hz35_⟩:=Kd.R_celln (⟨#[]⟩ : ByteArray) HO_226000.out (((rd_T98 l0_1 x16_1).f0) : Int) (of_decide_eq_true (by first|(with_reducible assumption)|assumption)) (of_decide_eq_true (by first|(with_reducible assumption)|assumption));have HP35:=Kd.R_putg HO_226000.out (((rd_T98 l0_1 x16_1).f0) : Int) ((rd_T98 l0_1 x16_1).f1))|((with_reducible refine gate_store (t:=9) (p:=26) rfl ?_);refine store_event (t:=9) (p:=26) (v:=?vo_w36) (w1:=(w30.setCell ⟨go24,(((rd_T98 l0_1 x16_1).f0) : Int).toNat,none⟩ (.string ((rd_T98 l0_1 x16_1).f1)))) ?hg ?ho ?hn ?hr ?_;(case ho=>rfl);(case hg=>rfl);(case hn=>rfl);(case hr=>first|(go_simp;done)|(go_simp;rfl));intro w36 hw;have hg : w30.grownBy w36 (some go24):=(by rw [hw];exact HP35.2);have hp_ : Kd.R Kd.string 9 w36 w.heap.size (fun _=>True) (.slice (some ⟨go24,0,none⟩) x226000_1.length co24) y228:=(by rw [hw,Ny228.out];exact HP35.1);clear HP35;have n0_:=qn.mk (hp_);have n1_:=qn.mk (Kd.R_over' (v:=(.slice (some ⟨go24,0,none⟩) x226000_1.length co24)) (by (with_reducible repeat (first|apply Kd.R_alloc|apply Kd.R_drewN|apply Kd.R_drew));exact HO_226001.out) (Kd.R_typed HO_226000.out) (by decide) hg);have n2_:=qn.mk (blk_grown (g:=gb216) (o:=.cells #[.slice A0_0 l0_0.length c0_0,.slice (some ad226) l0_1.length c0_1] 40 (0,0)) (by (with_reducible repeat (first|refine qb ?_ _|refine qe ?_|refine qc ?_ _));exact BK216.out) hg (Kd.R_ne HO_226000.out BK216.out (by decide)));have n3_:=qn.mk (blk_grown (g:=gb217) (o:=.cells #[.slice none 0 0,.slice none 0 0] 40 (0,0)) (by (with_reducible repeat (first|refine qb ?_ _|refine qe ?_|refine qc ?_ _));exact BK217.out) hg (Kd.R_ne HO_226000.out BK217.out (by decide)));have n4_:=qn.mk (blk_grown (g:=gb225) (o:=.cells #[.slice (some ⟨go24,0,none⟩) x226000_1.length co24,.slice Ao17 t222.length co17] 40 (0,0)) (by (with_reducible repeat (first|refine qb ?_ _|refine qe ?_|refine qc ?_ _));exact BK225.out) hg (Kd.R_ne HO_226000.out BK225.out (by decide)));have n5_:=qn.mk (blk_grown (g:=gb227) (o:=.cells #[.int .i64 ((rd_T98 l0_1 x16_1).f0),.string ((rd_T98 l0_1 x16_1).f1)] 98 (0,0)) (by (with_reducible repeat (first|refine qb ?_ _|refine qe ?_|refine qc ?_ _));exact BK227.out) hg (Kd.R_ne HO_226000.out BK227.out (by decide)));have n6_:=qn.mk ((by rw [hw];exact qg (HB.out) GB24.out : Below w.heap.size w w36));clear HO_226000;clear HO_226001;clear BK216;clear BK217;clear BK225;clear BK227;clear HB;have HO_226000:=n0_;have HO_226001:=n1_;have BK216:=n2_;have BK217:=n3_;have BK225:=n4_;have BK227:=n5_;have HB:=n6_;clear n0_ n1_ n2_ n3_ n4_ n5_ n6_;clear hg hw hp_))
                  go_roundg k1
                  case measure=>have:=HK1.out;omega
                  case rel=>exact ⟨(wrap64 (x16_1 + 1)),(y228),(.slice (some ⟨go24,0,none⟩) x226000_1.length co24),(by first|rfl|(simp;done)|(simp [*];done)),H',⟨by have:=HK1.out;omega⟩,⟨by (with_reducible repeat (first|apply Kd.R_alloc|apply Kd.R_drewN|apply Kd.R_drew));exact HO_226000.out⟩,⟨by (with_reducible repeat (first|apply Kd.R_alloc|apply Kd.R_drewN|apply Kd.R_drew));exact Kd.R_mono HO_226001.out (fun _ hk=>trivial)⟩,⟨by (with_reducible repeat (first|refine qb ?_ _|refine qe ?_|refine qc ?_ _));exact BK216.out⟩,⟨by (with_reducible repeat (first|refine qb ?_ _|refine qe ?_|refine qc ?_ _));exact BK217.out⟩,⟨by (with_reducible repeat (first|refine qb ?_ _|refine qe ?_|refine qc ?_ _));exact BK225.out⟩,⟨by repeat (first|(with_reducible first|exact HB.out|apply qf|apply qa|apply qd|refine qg ?_ GE216.out|refine qg ?_ GE217.out|refine qg ?_ GE225.out|refine qg ?_ GE227.out)|exact HB.out)⟩⟩
                · rw [if_neg c23] at H
                  exact absurd H (by simp)
              · rw [if_neg c22] at H
                exact absurd H (by simp)
            · rw [if_neg c21] at H
              exact absurd H (by simp)
          · rw [if_neg c20] at H
            exact absurd H (by simp)
        · rw [if_neg c19] at H
          have c19b0 : decide (x16_1 < (l0_1.length : Int)) = false:=decide_eq_false c19
          clear c19
          simp only [Option.some.injEq,Prod.mk.injEq] at H
          obtain ⟨rfl,rfl,rfl⟩:=H
          have hnb37:=NB225_216.out
          have hnc37:=NB216_225.out
          have hnb38:=NB225_217.out
          have hnc38:=NB217_225.out
          have hcz39_0 : wr.cell? ⟨gb225,0,none⟩ = some (u226000):=(qh BK225.out 0).trans rfl
          have hcz39_1 : wr.cell? ⟨gb225,1,none⟩ = some (.slice Ao17 t222.length co17):=(qh BK225.out 1).trans rfl
          have hfz39_0:=qi BK225.out 0
          have hfz39_1:=qi BK225.out 1
          obtain ⟨Ao40,co40,eo40⟩:=Kd.R_slice HO_226000.out
          subst eo40
          have hnb41:=NB217_216.out
          have hnc41:=NB216_217.out
          have hcz42_0 : wr.cell? ⟨gb217,0,none⟩ = some (.slice none 0 0):=(qh BK217.out 0).trans rfl
          have hcz42_1 : wr.cell? ⟨gb217,1,none⟩ = some (.slice none 0 0):=(qh BK217.out 1).trans rfl
          have hfz42_0:=qi BK217.out 0
          have hfz42_1:=qi BK217.out 1
          go_wp2
          refine bodyPost_ret (results_ct rfl _ _ gb217 40 #[.slice Ao40 x226000_1.length co40,.slice none 0 0] (0,0) _ rfl (by (with_reducible repeat (first|refine qb ?_ _|refine qe ?_|refine qc ?_ _));refine blk_put (cs:=#[.slice Ao40 x226000_1.length co40,.slice none 0 0]) ?_ 1 _ rfl;(with_reducible repeat (first|refine qb ?_ _|refine qe ?_|refine qc ?_ _));refine blk_put (cs:=#[.slice none 0 0,.slice none 0 0]) ?_ 0 _ rfl;(with_reducible repeat (first|refine qb ?_ _|refine qe ?_|refine qc ?_ _));refine blk_far ?_ NB217_225.out _;(with_reducible repeat (first|refine qb ?_ _|refine qe ?_|refine qc ?_ _));exact BK217.out) Try.underlying40 rfl (by kernel_rfl)) rfl ?_
          exact ⟨_,_,by first|rfl|(simp [errW_none,errW_some] <;> rfl)|(simp [*,errW_none,errW_some] <;> rfl),by (with_reducible repeat (first|apply Kd.R_alloc|apply Kd.R_drewN|apply Kd.R_drew));exact Kd.R_mono (Kd.R_far (p:=⟨gb217,1,none⟩) (Kd.R_far (p:=⟨gb217,0,none⟩) (Kd.R_far (p:=⟨gb225,1,none⟩) (Kd.R_types (Kd.R_types HO_226000.out BK225.out (by decide)) BK217.out (by decide)) (fun _ hk=>hk.1.2) (.slice none 0 0)) (fun _ hk=>hk.2) (.slice Ao40 x226000_1.length co40)) (fun _ hk=>hk.2) (.slice none 0 0)) (fun _ hk=>trivial),by first|exact Kd.R_nil _ _ _ _ _|exact Kd.N_nil _ _ _ _ _|exact Kd.V_nil _ _ _ _ _|exact Kd.Q_nil _ _ _ _ _|exact Kd.S_nil _ _ _ _ _,by repeat (first|(with_reducible first|exact HB.out|apply qf|apply qa|apply qd|refine qg ?_ GE216.out|refine qg ?_ GE217.out|refine qg ?_ GE225.out)|exact HB.out)⟩
  · replace c3:=Bool.eq_false_iff.mpr c3
    subst c3
    have H1 : (some (([] : List ByteArray),([] : List (S98)),false)) = some (r1,r2,r3):=by rw [if_neg (show ¬ (false = true) by decide)] at H;exact H
    clear H
    have H:=H1
    clear H1
    simp only [Option.some.injEq,Prod.mk.injEq] at H
    obtain ⟨rfl,rfl,rfl⟩:=H
    go_enter Try.func22,Try.ntmps22
    go_wp2_with (first|((with_reducible refine gate_dst (N:=1) rfl ?_);refine box_event ?hg (N:=1) ?hd (cs:=#[.slice A0_0 l0_0.length c0_0,.slice A0_1 l0_1.length c0_1]) (t:=40) ?hr ?_;(case hd=>rfl);(case hg=>rfl);(case hr=>first|(go_simp;done)|(go_simp;rfl));intro gb216 hg w43 hbox hb;have n0_:=hs_ HB hb;have n1_:=qn.mk (hbox);have n2_:=qn.mk ((by rw [hg];exact (qj (by repeat (first|(with_reducible first|exact HB.out|apply qf|apply qa|apply qd)|exact HB.out))) : w.heap.size ≤ gb216));have n3_:=qn.mk ((by rw [hg];exact (qj (by repeat (first|(with_reducible first|exact HB.out|apply qf|apply qa|apply qd)|exact HB.out))) : w.heap.size ≤ gb216));clear HB;have HB:=n0_;have BK216:=n1_;have GW216:=n2_;have GE216:=n3_;clear n0_ n1_ n2_ n3_;clear hb hbox hg)|((with_reducible refine gate_dst (N:=2) rfl ?_);refine box_event ?hg (N:=2) ?hd (cs:=#[.slice none 0 0,.slice none 0 0]) (t:=40) ?hr ?_;(case hd=>rfl);(case hg=>rfl);(case hr=>first|(go_simp;done)|(go_simp;rfl));intro gb217 hg w44 hbox hb;have n0_:=bb_ BK216 hb;have n1_:=hs_ HB hb;have n2_:=qn.mk (hbox);have n3_:=qn.mk ((by rw [hg];exact (qj (by repeat (first|(with_reducible first|exact HB.out|apply qf|apply qa|apply qd|refine qg ?_ GE216.out)|exact HB.out))) : w.heap.size ≤ gb217));have n4_:=qn.mk ((by rw [hg];exact (qj (by repeat (first|(with_reducible first|exact HB.out|apply qf|apply qa|apply qd|refine qg ?_ GE216.out)|exact HB.out))) : w.heap.size ≤ gb217));have n5_:=qn.mk ((by rw [hg];exact nl_ BK216 : gb216 ≠ gb217));have n6_:=qn.mk ((by rw [hg];exact ng_ BK216 : gb217 ≠ gb216));clear BK216;clear HB;have BK216:=n0_;have HB:=n1_;have BK217:=n2_;have GW217:=n3_;have GE217:=n4_;have NB216_217:=n5_;have NB217_216:=n6_;clear n0_ n1_ n2_ n3_ n4_ n5_ n6_;clear hb hbox hg;have hnb45:=NB216_217.out;have hnc45:=NB217_216.out;have hcz46_0 : w44.cell? ⟨gb216,0,none⟩ = some (.slice A0_0 l0_0.length c0_0):=(qh BK216.out 0).trans rfl;have hcz46_1 : w44.cell? ⟨gb216,1,none⟩ = some (.slice A0_1 l0_1.length c0_1):=(qh BK216.out 1).trans rfl;have hfz46_0:=qi BK216.out 0;have hfz46_1:=qi BK216.out 1)|((with_reducible refine gate_callee (f:=23) rfl ?_);refine goesL_ (some 8) rfl rfl Try.func23 (by kernel_rfl) rfl #[.agg #[.slice A0_0 l0_0.length c0_0,.slice A0_1 l0_1.length c0_1]] rfl (by (try simp only [List.map_toArray,List.map_cons,List.map_nil]);first|done|rfl|(simp only [List.length_drop,List.length_take];rfl)) ?_;(with_reducible refine (impl_DeviceOk.calls k _ _ l0_0 _ _ l0_1 false _ ?side1 ?side2 ?side3 ?side4 A2.out).mono ?_);(case side1=>repeat (first|exact (Kd.C_below HR0_0.out HB.out)|(with_reducible refine Kd.C_alloc ?_ _)|(with_reducible refine Kd.C_drewN ?_ _)|(with_reducible refine Kd.C_drew ?_)));(case side2=>exact HC0_0.out);(case side3=>repeat (first|exact (Kd.C_below HR0_1.out HB.out)|(with_reducible refine Kd.C_alloc ?_ _)|(with_reducible refine Kd.C_drewN ?_ _)|(with_reducible refine Kd.C_drew ?_)));(case side4=>exact HC0_1.out);rintro e w47 ⟨rfl,hb⟩;refine ⟨_,rfl,?_⟩;have n0_:=bb_ BK216 hb;have n1_:=bb_ BK217 hb;have n2_:=hs_ HB hb;clear BK216;clear BK217;clear HB;have BK216:=n0_;have BK217:=n1_;have HB:=n2_;clear n0_ n1_ n2_;(try clear hb);(try clear hb2);(try clear hk);(try clear hi);have hcz48_0 : w47.cell? ⟨gb217,0,none⟩ = some (.slice none 0 0):=(qh BK217.out 0).trans rfl;have hcz48_1 : w47.cell? ⟨gb217,1,none⟩ = some (.slice none 0 0):=(qh BK217.out 1).trans rfl;have hfz48_0:=qi BK217.out 0;have hfz48_1:=qi BK217.out 1))
    refine bodyPost_ret (results_ct rfl _ _ gb217 40 #[.slice none 0 0,.slice none 0 0] (0,0) _ rfl (by (with_reducible repeat (first|refine qb ?_ _|refine qe ?_|refine qc ?_ _));refine blk_put (cs:=#[.slice none 0 0,.slice none 0 0]) ?_ 1 _ rfl;(with_reducible repeat (first|refine qb ?_ _|refine qe ?_|refine qc ?_ _));refine blk_put (cs:=#[.slice none 0 0,.slice none 0 0]) ?_ 0 _ rfl;(with_reducible repeat (first|refine qb ?_ _|refine qe ?_|refine qc ?_ _));exact BK217.out) Try.underlying40 rfl (by kernel_rfl)) rfl ?_
    exact ⟨_,_,by first|rfl|(simp [errW_none,errW_some] <;> rfl)|(simp [*,errW_none,errW_some] <;> rfl),by first|exact Kd.R_nil _ _ _ _ _|exact Kd.N_nil _ _ _ _ _|exact Kd.V_nil _ _ _ _ _|exact Kd.Q_nil _ _ _ _ _|exact Kd.S_nil _ _ _ _ _,by first|exact Kd.R_nil _ _ _ _ _|exact Kd.N_nil _ _ _ _ _|exact Kd.V_nil _ _ _ _ _|exact Kd.Q_nil _ _ _ _ _|exact Kd.S_nil _ _ _ _ _,by repeat (first|(with_reducible first|exact HB.out|apply qf|apply qa|apply qd|refine qg ?_ GE216.out|refine qg ?_ GE217.out)|exact HB.out)⟩

end Go.Proofs.Ytfmemcffbfahhaa.QFnDevices
