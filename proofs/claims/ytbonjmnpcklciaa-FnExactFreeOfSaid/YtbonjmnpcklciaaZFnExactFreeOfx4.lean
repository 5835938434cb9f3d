/- Lean functions for the Go functions that the law FnExactFreeOf reaches, and that each Go function comes to just its Lean function's answer; by a program of this session. -/
import Derived.Test.YtbonjmnpcklciaaZFnExactFreeOfx0
import Derived.Test.YtbonjmnpcklciaaZFnExactFreeOfx3
namespace Go.Proofs.Ytbonjmnpcklciaa.QFnExactFreeOf
open Go.RowKit Go.Proofs.YtbonjmnpcklciaaW.PrintWords Go.Proofs.YtbonjmnpcklciaaW.PrintLast Go.Proofs.YtbonjmnpcklciaaW.PrintMore
attribute [local go_sem] max2_int min2_int max_two min_two max_three min_three max_four min_four   -- for this text's walks alone
set_option linter.unusedVariables false
set_option linter.unusedSimpArgs false

/-! ### spec_DeviceOk: function 73 -/
mutual
def spec_DeviceOk.j0 : Nat → Bool → List ByteArray → List (S143) → Option (Bool)
  | 0,_,_,_=>none
  | k + 1,x15,x168000,x168001=>if x15 = true then (some false) else (spec_DeviceOk.l0 k 0 x168000 x168001)
def spec_DeviceOk.l0 : Nat → Int → List ByteArray → List (S143) → Option (Bool)
  | 0,_,_,_=>none
  | k + 1,x3,x168000,x168001=>if x3 < (x168000.length : Int) then (if 0 ≤ x3 then (if ((rdOf ByteArray.empty x168000 x3).size : Int) > 64 then (some false) else (spec_DeviceOk.l0 k (wrap64 (x3 + 1)) x168000 x168001)) else (none)) else (spec_DeviceOk.l1 k 0 x168000 x168001)
def spec_DeviceOk.l1 : Nat → Int → List ByteArray → List (S143) → Option (Bool)
  | 0,_,_,_=>none
  | k + 1,x4,x168000,x168001=>if x4 < (x168001.length : Int) then (if 0 ≤ x4 then ((spec_l03Put.f x168000 x168001 ((rd_T143 x168001 x4).f0) ((rd_T143 x168001 x4).f1)).bind fun t171=>(if t171 = true then (spec_DeviceOk.l1 k (wrap64 (x4 + 1)) x168000 x168001) else (some false))) else (none)) else (some true)
end
def spec_DeviceOk.f (k : Nat) (l0_0 : List ByteArray) (l0_1 : List (S143)) : Option (Bool):=(spec_l01In.f (l0_0.length : Int) 1 400).bind fun t168=>(if t168 = true then (spec_DeviceOk.j0 k (decide ((l0_1.length : Int) > 400)) l0_0 l0_1) else (spec_DeviceOk.j0 k true l0_0 l0_1))
theorem spec_DeviceOk.mono_l : ∀ k,(∀ y0 y1 y2,LeO (spec_DeviceOk.j0 k y0 y1 y2) (spec_DeviceOk.j0 (k + 1) y0 y1 y2)) ∧ (∀ y0 y1 y2,LeO (spec_DeviceOk.l0 k y0 y1 y2) (spec_DeviceOk.l0 (k + 1) y0 y1 y2)) ∧ (∀ y0 y1 y2,LeO (spec_DeviceOk.l1 k y0 y1 y2) (spec_DeviceOk.l1 (k + 1) y0 y1 y2))
  | 0=>⟨fun _ _ _ r h=>by simp [spec_DeviceOk.j0] at h,fun _ _ _ r h=>by simp [spec_DeviceOk.l0] at h,fun _ _ _ r h=>by simp [spec_DeviceOk.l1] at h⟩
  | k + 1=>by
    obtain ⟨ih0,ih1,ih2⟩:=spec_DeviceOk.mono_l k
    refine ⟨?_,?_,?_⟩
    · intro y0 y1 y2
      unfold spec_DeviceOk.j0
      repeat' first
      | (with_reducible exact ih0 _ _ _)
      | (with_reducible exact ih1 _ _ _)
      | (with_reducible exact ih2 _ _ _)
      | (with_reducible exact LeO.refl _)
      | (with_reducible exact LeO.none _)
      | (with_reducible refine LeO.ite ?_ ?_)
      | (with_reducible refine LeO.bind ?_ (fun _=>?_))
      | exact ih0 _ _ _
      | exact ih1 _ _ _
      | exact ih2 _ _ _
      | exact LeO.none _
      | refine LeO.ite ?_ ?_
      | refine LeO.bind ?_ (fun _=>?_)
    · intro y0 y1 y2
      unfold spec_DeviceOk.l0
      repeat' first
      | (with_reducible exact ih0 _ _ _)
      | (with_reducible exact ih1 _ _ _)
      | (with_reducible exact ih2 _ _ _)
      | (with_reducible exact LeO.refl _)
      | (with_reducible exact LeO.none _)
      | (with_reducible refine LeO.ite ?_ ?_)
      | (with_reducible refine LeO.bind ?_ (fun _=>?_))
      | exact ih0 _ _ _
      | exact ih1 _ _ _
      | exact ih2 _ _ _
      | exact LeO.none _
      | refine LeO.ite ?_ ?_
      | refine LeO.bind ?_ (fun _=>?_)
    · intro y0 y1 y2
      unfold spec_DeviceOk.l1
      repeat' first
      | (with_reducible exact ih0 _ _ _)
      | (with_reducible exact ih1 _ _ _)
      | (with_reducible exact ih2 _ _ _)
      | (with_reducible exact LeO.refl _)
      | (with_reducible exact LeO.none _)
      | (with_reducible refine LeO.ite ?_ ?_)
      | (with_reducible refine LeO.bind ?_ (fun _=>?_))
      | exact ih0 _ _ _
      | exact ih1 _ _ _
      | exact ih2 _ _ _
      | exact LeO.none _
      | refine LeO.ite ?_ ?_
      | refine LeO.bind ?_ (fun _=>?_)
theorem spec_DeviceOk.mono : ∀ a0 a1 k,LeO (spec_DeviceOk.f k a0 a1) (spec_DeviceOk.f (k + 1) a0 a1):=by
  intro a0 a1 k
  obtain ⟨ih0,ih1,ih2⟩:=spec_DeviceOk.mono_l k
  unfold spec_DeviceOk.f
  repeat' first
      | (with_reducible exact ih0 _ _ _)
      | (with_reducible exact ih1 _ _ _)
      | (with_reducible exact ih2 _ _ _)
      | (with_reducible exact LeO.refl _)
      | (with_reducible exact LeO.none _)
      | (with_reducible refine LeO.ite ?_ ?_)
      | (with_reducible refine LeO.bind ?_ (fun _=>?_))
      | exact ih0 _ _ _
      | exact ih1 _ _ _
      | exact ih2 _ _ _
      | exact LeO.none _
      | refine LeO.ite ?_ ?_
      | refine LeO.bind ?_ (fun _=>?_)
def spec_DeviceOk.T11 : Bool × List (List Nat × List Nat):=(true,[([],[]),([],[]),([1],[1]),([],[]),([2,3],[2,3]),([4],[4]),([0,5],[0,5]),([6],[6])])
def spec_DeviceOk.B11 : List Nat:=[0,0,2,0,14,30,63,127]
theorem spec_DeviceOk.tab11 : rtab .any (opsOf Try.f73 11) = spec_DeviceOk.T11:=by kernel_rfl
theorem spec_DeviceOk.bits11 : waitsOk spec_DeviceOk.T11.2 spec_DeviceOk.B11 = true:=by kernel_rfl
set_option maxHeartbeats 8000000 in
set_option maxRecDepth 100000 in
theorem spec_DeviceOk.calls (k : Nat) (A0_0 : Option Addr) (c0_0 : Nat) (l0_0 : List ByteArray) (A0_1 : Option Addr) (c0_1 : Nat) (l0_1 : List (S143)) (r : Bool) (w : World) (hr0_0 : Kd.C Kd.string w A0_0 l0_0.length l0_0) (hc0_0 : l0_0.length ≤ c0_0) (hr0_1 : Kd.C k143 w A0_1 l0_1.length l0_1) (hc0_1 : l0_1.length ≤ c0_1) (h : spec_DeviceOk.f k l0_0 l0_1 = some r) :
    Calls Try.prog 73 #[.agg #[.slice A0_0 l0_0.length c0_0,.slice A0_1 l0_1.length c0_1]] w fun e w'=>e = .returned (.bool r) ∧ Below w.heap.size w w':=by
  have hu31:=Try.underlying31
  have hu143:=Try.underlying143
  have HR0_0:=qn.mk hr0_0
  have HC0_0:=qn.mk hc0_0
  clear hr0_0 hc0_0
  have HR0_1:=qn.mk hr0_1
  have HC0_1:=qn.mk hc0_1
  clear hr0_1 hc0_1
  have HB:=qn.mk (Below.refl w.heap.size w)
  have H : ((spec_l01In.f (l0_0.length : Int) 1 400).bind fun t168=>(if t168 = true then (spec_DeviceOk.j0 k (decide ((l0_1.length : Int) > 400)) l0_0 l0_1) else (spec_DeviceOk.j0 k true l0_0 l0_1))) = some r:=h
  clear h
  have HC2:=qn.mk H
  clear H
  go_enter Try.func73,Try.ntmps73
  go_upto_region 1 with (first|((with_reducible refine gate_dst (N:=1) rfl ?_);(try (refine gate_guard (by rfl) ?_;dsimp only));refine box_event ?hg (N:=1) ?hd (cs:=#[.slice A0_0 l0_0.length c0_0,.slice A0_1 l0_1.length c0_1]) (t:=31) ?hr ?_;(case hd=>rfl);(case hg=>rfl);(case hr=>first|(go_simp;done)|(go_simp;rfl));intro gb167 hg w3 hbox hb;have n0_:=hs_ HB hb;have n1_:=qn.mk (hbox);have n2_:=qn.mk ((by rw [hg];exact (qj (by repeat (first|(with_reducible first|exact HB.out|apply qf|apply qa|apply qd)|exact HB.out))) : w.heap.size ≤ gb167));have n3_:=qn.mk ((by rw [hg];exact (qj (by repeat (first|(with_reducible first|exact HB.out|apply qf|apply qa|apply qd)|exact HB.out))) : w.heap.size ≤ gb167));clear HB;have HB:=n0_;have BK167:=n1_;have GW167:=n2_;have GE167:=n3_;clear n0_ n1_ n2_ n3_;clear hb hbox hg))
  (try simp only [Act.put,List.setIfInBounds_toArray,List.set_cons_zero,List.set_cons_succ])
  go_cut [15] (fun v15 wc=>∃ (kq : Nat) (x15_1 : Bool),v15 = .bool x15_1 ∧ qn (spec_DeviceOk.j0 kq x15_1 l0_0 l0_1 = some r) ∧ qn (kq ≤ k) ∧ qn (wc.heap[gb167]? = some (.cells #[(.slice A0_0 l0_0.length c0_0),(.slice A0_1 l0_1.length c0_1)] 31 (0,0))) ∧ qn (Below w.heap.size w wc))
  case first =>
    have H:=HC2.out
    clear HC2
    replace H:=Option.bind_eq_some_iff.mp H
    obtain ⟨t168,A40,H⟩:=H
    replace H : (if t168 = true then (spec_DeviceOk.j0 k (decide ((l0_1.length : Int) > 400)) l0_0 l0_1) else (spec_DeviceOk.j0 k true l0_0 l0_1)) = some r:=H
    have A4:=qn.mk A40
    clear A40
    by_cases c5 : t168 = true
    · subst c5
      have H1 : (spec_DeviceOk.j0 k (decide ((l0_1.length : Int) > 400)) l0_0 l0_1) = some r:=by rw [if_pos rfl] at H;exact H
      clear H
      have H:=H1
      clear H1
      have H':=qn.mk H
      clear H
      have hcz6_0 : w3.cell? ⟨gb167,0,none⟩ = some (.slice A0_0 l0_0.length c0_0):=(qh BK167.out 0).trans rfl
      have hcz6_1 : w3.cell? ⟨gb167,1,none⟩ = some (.slice A0_1 l0_1.length c0_1):=(qh BK167.out 1).trans rfl
      have hfz6_0:=qi BK167.out 0
      have hfz6_1:=qi BK167.out 1
      go_wp2_with (first|((with_reducible refine gate_callee (f:=74) rfl ?_);refine goesL_ (some 8) rfl rfl Try.func74 (by kernel_rfl) rfl #[.int .i64 (l0_0.length : Int),.int .i64 1,.int .i64 400] rfl (by (try simp only [List.map_toArray,List.map_cons,List.map_nil]);first|done|rfl|(simp only [List.length_drop,List.length_take];rfl)) ?_;(with_reducible refine (spec_l01In.calls (l0_0.length : Int) 1 400 true _ A4.out).mono ?_);rintro e w' ⟨rfl,⟨nd,rfl⟩⟩;refine ⟨_,rfl,?_⟩))
      go_meet
      case rel=>exact ⟨_,(decide ((l0_1.length : Int) > 400)),(by first|rfl|(simp;done)|(simp [*];done)),H',⟨by first|omega|exact Nat.le_refl _⟩,⟨by (with_reducible repeat (first|refine qb ?_ _|refine qe ?_|refine qc ?_ _));exact BK167.out⟩,⟨by repeat (first|(with_reducible first|exact HB.out|apply qf|apply qa|apply qd|refine qg ?_ GE167.out)|exact HB.out)⟩⟩
    · replace c5:=Bool.eq_false_iff.mpr c5
      subst c5
      have H1 : (spec_DeviceOk.j0 k true l0_0 l0_1) = some r:=by rw [if_neg (show ¬ (false = true) by decide)] at H;exact H
      clear H
      have H:=H1
      clear H1
      have H':=qn.mk H
      clear H
      have hcz7_0 : w3.cell? ⟨gb167,0,none⟩ = some (.slice A0_0 l0_0.length c0_0):=(qh BK167.out 0).trans rfl
      have hcz7_1 : w3.cell? ⟨gb167,1,none⟩ = some (.slice A0_1 l0_1.length c0_1):=(qh BK167.out 1).trans rfl
      have hfz7_0:=qi BK167.out 0
      have hfz7_1:=qi BK167.out 1
      go_wp2_with (first|((with_reducible refine gate_callee (f:=74) rfl ?_);refine goesL_ (some 8) rfl rfl Try.func74 (by kernel_rfl) rfl #[.int .i64 (l0_0.length : Int),.int .i64 1,.int .i64 400] rfl (by (try simp only [List.map_toArray,List.map_cons,List.map_nil]);first|done|rfl|(simp only [List.length_drop,List.length_take];rfl)) ?_;(with_reducible refine (spec_l01In.calls (l0_0.length : Int) 1 400 false _ A4.out).mono ?_);rintro e w' ⟨rfl,⟨nd,rfl⟩⟩;refine ⟨_,rfl,?_⟩))
      go_meet
      case rel=>exact ⟨_,(true),(by first|rfl|(simp;done)|(simp [*];done)),H',⟨by first|omega|exact Nat.le_refl _⟩,⟨by (with_reducible repeat (first|refine qb ?_ _|refine qe ?_|refine qc ?_ _));exact BK167.out⟩,⟨by repeat (first|(with_reducible first|exact HB.out|apply qf|apply qa|apply qd|refine qg ?_ GE167.out)|exact HB.out)⟩⟩
  case rest =>
    clear HC2
    try clear p2
    try clear c5
    try clear c7
    try clear hcz6_0
    try clear hcz6_1
    try clear hcz7_0
    try clear hcz7_1
    try clear hfz6_0
    try clear hfz6_1
    try clear hfz7_0
    try clear hfz7_1
    obtain ⟨kq,x15_1,rfl,HA,HJ1,BK167,HB⟩:=hcut
    cases kq with
    | zero=>exact absurd HA.out (by simp [spec_DeviceOk.j0])
    | succ kj1 =>
      have H:=HA.out
      clear HA
      simp only [spec_DeviceOk.j0] at H
      by_cases c8 : x15_1 = true
      · subst c8
        have H1 : (some false) = some r:=by rw [if_pos rfl] at H;exact H
        clear H
        have H:=H1
        clear H1
        obtain rfl:=Option.some.inj H
        go_wp2
        go_ret
        exact ⟨by first|rfl|(simp [errW_none,errW_some] <;> rfl)|(simp [*,errW_none,errW_some] <;> rfl),by repeat (first|(with_reducible first|exact HB.out|apply qf|apply qa|apply qd|refine qg ?_ GE167.out)|exact HB.out)⟩
      · replace c8:=Bool.eq_false_iff.mpr c8
        subst c8
        have H1 : (spec_DeviceOk.l0 kj1 0 l0_0 l0_1) = some r:=by rw [if_neg (show ¬ (false = true) by decide)] at H;exact H
        clear H
        have H:=H1
        clear H1
        have H':=qn.mk H
        clear H
        go_wp2
        go_loopg [3] kj1 (fun kq v3 w'=>∃ (x3_2 : Int),v3 = .int .i64 x3_2 ∧ qn (spec_DeviceOk.l0 kq x3_2 l0_0 l0_1 = some r) ∧ qn (kq ≤ kj1) ∧ qn (w'.heap[gb167]? = some (.cells #[(.slice A0_0 l0_0.length c0_0),(.slice A0_1 l0_1.length c0_1)] 31 (0,0))) ∧ qn (Below w.heap.size w w'))
        case atStart=>exact ⟨(0),(by first|rfl|(simp;done)|(simp [*];done)),H',⟨Nat.le_refl _⟩,⟨by (with_reducible repeat (first|refine qb ?_ _|refine qe ?_|refine qc ?_ _));exact BK167.out⟩,⟨by repeat (first|(with_reducible first|exact HB.out|apply qf|apply qa|apply qd|refine qg ?_ GE167.out)|exact HB.out)⟩⟩
        case round =>
          clear H'
          try clear p2
          try clear c5
          try clear c7
          try clear c8
          try clear hcz6_0
          try clear hcz6_1
          try clear hcz7_0
          try clear hcz7_1
          try clear hfz6_0
          try clear hfz6_1
          try clear hfz7_0
          try clear hfz7_1
          try clear p2
          obtain ⟨x3_2,rfl,HA,HK2,BK167,HB⟩:=hrel
          cases gk with
          | zero=>exact absurd HA.out (by simp [spec_DeviceOk.l0])
          | succ k2 =>
            have H:=HA.out
            clear HA
            simp only [spec_DeviceOk.l0] at H
            by_cases c9 : x3_2 < (l0_0.length : Int)
            · rw [if_pos c9] at H
              have c9b0 : decide (x3_2 < (l0_0.length : Int)) = true:=decide_eq_true c9
              clear c9
              by_cases c10 : 0 ≤ x3_2
              · rw [if_pos c10] at H
                have c10b0 : decide (0 ≤ x3_2) = true:=decide_eq_true c10
                clear c10
                by_cases c11 : ((rdOf ByteArray.empty l0_0 x3_2).size : Int) > 64
                · rw [if_pos c11] at H
                  have c11b0 : decide (64 < ((rdOf ByteArray.empty l0_0 x3_2).size : Int)) = true:=decide_eq_true c11
                  have c11b1 : decide (64 < (rdOf ByteArray.empty l0_0 x3_2).size) = true:=decide_eq_true (by omega)
                  clear c11
                  obtain rfl:=Option.some.inj H
                  have hcz12_0 : wr.cell? ⟨gb167,0,none⟩ = some (.slice A0_0 l0_0.length c0_0):=(qh BK167.out 0).trans rfl
                  have hcz12_1 : wr.cell? ⟨gb167,1,none⟩ = some (.slice A0_1 l0_1.length c0_1):=(qh BK167.out 1).trans rfl
                  have hfz12_0:=qi BK167.out 0
                  have hfz12_1:=qi BK167.out 1
                  have p169 : 0 ≤ (x3_2 : Int):=of_decide_eq_true (by first|(with_reducible assumption)|assumption)
                  have q169 : x3_2 < (l0_0.length : Int):=of_decide_eq_true (by first|(with_reducible assumption)|assumption)
                  obtain ⟨ad169,e169,hx169_0⟩:=Kd.at_string HR0_0.out x3_2 p169 q169
                  cases e169
                  replace hx169_0:=cb_ HB hx169_0
                  replace p169:=eq_true p169
                  replace q169:=eq_true q169
                  go_wp2
                  go_ret
                  exact ⟨by first|rfl|(simp [errW_none,errW_some] <;> rfl)|(simp [*,errW_none,errW_some] <;> rfl),by repeat (first|(with_reducible first|exact HB.out|apply qf|apply qa|apply qd|refine qg ?_ GE167.out)|exact HB.out)⟩
                · rw [if_neg c11] at H
                  have c11b0 : decide (64 < ((rdOf ByteArray.empty l0_0 x3_2).size : Int)) = false:=decide_eq_false c11
                  have c11b1 : decide (64 < (rdOf ByteArray.empty l0_0 x3_2).size) = false:=decide_eq_false (by omega)
                  clear c11
                  have H':=qn.mk H
                  clear H
                  have hcz13_0 : wr.cell? ⟨gb167,0,none⟩ = some (.slice A0_0 l0_0.length c0_0):=(qh BK167.out 0).trans rfl
                  have hcz13_1 : wr.cell? ⟨gb167,1,none⟩ = some (.slice A0_1 l0_1.length c0_1):=(qh BK167.out 1).trans rfl
                  have hfz13_0:=qi BK167.out 0
                  have hfz13_1:=qi BK167.out 1
                  have p169 : 0 ≤ (x3_2 : Int):=of_decide_eq_true (by first|(with_reducible assumption)|assumption)
                  have q169 : x3_2 < (l0_0.length : Int):=of_decide_eq_true (by first|(with_reducible assumption)|assumption)
                  obtain ⟨ad169,e169,hx169_0⟩:=Kd.at_string HR0_0.out x3_2 p169 q169
                  cases e169
                  replace hx169_0:=cb_ HB hx169_0
                  replace p169:=eq_true p169
                  replace q169:=eq_true q169
                  go_wp2
                  go_roundg k2
                  case measure=>have:=HJ1.out;have:=HK2.out;omega
                  case rel=>exact ⟨(wrap64 (x3_2 + 1)),(by first|rfl|(simp;done)|(simp [*];done)),H',⟨by have:=HJ1.out;have:=HK2.out;omega⟩,⟨by (with_reducible repeat (first|refine qb ?_ _|refine qe ?_|refine qc ?_ _));exact BK167.out⟩,⟨by repeat (first|(with_reducible first|exact HB.out|apply qf|apply qa|apply qd|refine qg ?_ GE167.out)|exact HB.out)⟩⟩
              · rw [if_neg c10] at H
                exact absurd H (by simp)
            · rw [if_neg c9] at H
              have c9b0 : decide (x3_2 < (l0_0.length : Int)) = false:=decide_eq_false c9
              clear c9
              have H':=qn.mk H
              clear H
              have hcz14_0 : wr.cell? ⟨gb167,0,none⟩ = some (.slice A0_0 l0_0.length c0_0):=(qh BK167.out 0).trans rfl
              have hcz14_1 : wr.cell? ⟨gb167,1,none⟩ = some (.slice A0_1 l0_1.length c0_1):=(qh BK167.out 1).trans rfl
              have hfz14_0:=qi BK167.out 0
              have hfz14_1:=qi BK167.out 1
              go_wp2
              go_loopg [4] k2 (fun kq v4 w'=>∃ (x4_3 : Int),v4 = .int .i64 x4_3 ∧ qn (spec_DeviceOk.l1 kq x4_3 l0_0 l0_1 = some r) ∧ qn (kq ≤ k2) ∧ qn (w'.heap[gb167]? = some (.cells #[(.slice A0_0 l0_0.length c0_0),(.slice A0_1 l0_1.length c0_1)] 31 (0,0))) ∧ qn (Below w.heap.size w w'))
              case atStart=>exact ⟨(0),(by first|rfl|(simp;done)|(simp [*];done)),H',⟨Nat.le_refl _⟩,⟨by (with_reducible repeat (first|refine qb ?_ _|refine qe ?_|refine qc ?_ _));exact BK167.out⟩,⟨by repeat (first|(with_reducible first|exact HB.out|apply qf|apply qa|apply qd|refine qg ?_ GE167.out)|exact HB.out)⟩⟩
              case round =>
                clear H'
                try clear c1
                try clear p1
                try clear q1
                try clear hx1
                try clear p2
                try clear c5
                try clear p6
                try clear c7
                try clear c8
                try clear c9
                try clear c9b0
                try clear c10
                try clear c10b0
                try clear c11
                try clear c11b0
                try clear c11b1
                try clear hcz12_0
                try clear hcz12_1
                try clear hcz13_0
                try clear hcz13_1
                try clear hcz14_0
                try clear hcz14_1
                try clear hcz6_0
                try clear hcz6_1
                try clear hcz7_0
                try clear hcz7_1
                try clear hfz12_0
                try clear hfz12_1
                try clear hfz13_0
                try clear hfz13_1
                try clear hfz14_0
                try clear hfz14_1
                try clear hfz6_0
                try clear hfz6_1
                try clear hfz7_0
                try clear hfz7_1
                try clear hx169_0
                try clear p169
                try clear p2
                try clear q169
                obtain ⟨x4_3,rfl,HA,HK3,BK167,HB⟩:=hrel
                cases gk with
                | zero=>exact absurd HA.out (by simp [spec_DeviceOk.l1])
                | succ k3 =>
                  have H:=HA.out
                  clear HA
                  simp only [spec_DeviceOk.l1] at H
                  by_cases c15 : x4_3 < (l0_1.length : Int)
                  · rw [if_pos c15] at H
                    have c15b0 : decide (x4_3 < (l0_1.length : Int)) = true:=decide_eq_true c15
                    clear c15
                    by_cases c16 : 0 ≤ x4_3
                    · rw [if_pos c16] at H
                      have c16b0 : decide (0 ≤ x4_3) = true:=decide_eq_true c16
                      clear c16
                      replace H:=Option.bind_eq_some_iff.mp H
                      obtain ⟨t171,A170,H⟩:=H
                      replace H : (if t171 = true then (spec_DeviceOk.l1 k3 (wrap64 (x4_3 + 1)) l0_0 l0_1) else (some false)) = some r:=H
                      have A17:=qn.mk A170
                      clear A170
                      by_cases c18 : t171 = true
                      · subst c18
                        have H1 : (spec_DeviceOk.l1 k3 (wrap64 (x4_3 + 1)) l0_0 l0_1) = some r:=by rw [if_pos rfl] at H;exact H
                        clear H
                        have H:=H1
                        clear H1
                        have H':=qn.mk H
                        clear H
                        have hcz19_0 : wr.cell? ⟨gb167,0,none⟩ = some (.slice A0_0 l0_0.length c0_0):=(qh BK167.out 0).trans rfl
                        have hcz19_1 : wr.cell? ⟨gb167,1,none⟩ = some (.slice A0_1 l0_1.length c0_1):=(qh BK167.out 1).trans rfl
                        have hfz19_0:=qi BK167.out 0
                        have hfz19_1:=qi BK167.out 1
                        try go_wp2
                        have n0_:=qn.mk (qe BK167.out)
                        have n1_:=qn.mk (qd HB.out)
                        clear BK167
                        clear HB
                        have BK167:=n0_
                        have HB:=n1_
                        clear n0_ n1_
                        have p170 : 0 ≤ (x4_3 : Int):=of_decide_eq_true (by first|(with_reducible assumption)|assumption)
                        have q170 : x4_3 < (l0_1.length : Int):=of_decide_eq_true (by first|(with_reducible assumption)|assumption)
                        obtain ⟨ad170,e170,hx170_0,hx170_1⟩:=at_T143 HR0_1.out x4_3 p170 q170
                        have hw170_1:=hx170_1
                        have hw170_0:=hx170_0
                        cases e170
                        replace hx170_0:=cb_ HB hx170_0
                        replace hx170_1:=cb_ HB hx170_1
                        replace p170:=eq_true p170
                        replace q170:=eq_true q170
                        refine start_ (n:=8) (S:=fun w'=>w'.cell? ⟨gb167,0,none⟩ = some (.slice A0_0 l0_0.length c0_0) ∧ w'.cell? ⟨gb167,1,none⟩ = some (.slice (some ad170) l0_1.length c0_1) ∧ w'.cell? (ad170.add ((x4_3).toNat * 2)) = some (.int .i64 ((rd_T143 l0_1 x4_3).f0)) ∧ w'.cell? ⟨(ad170.add ((x4_3).toNat * 2)).block,(ad170.add ((x4_3).toNat * 2)).off + 1,none⟩ = some (.string ((rd_T143 l0_1 x4_3).f1))) (ds:=[]) #[false,false,false,false,false,false,false,false] (by kernel_rfl) rfl rfl ⟨(qh BK167.out 0).trans rfl,(qh BK167.out 1).trans rfl,(cb_ HB hw170_0:),(cb_ HB hw170_1:)⟩ (fun hHeld=>?_);refine with_tabW spec_DeviceOk.tab11 spec_DeviceOk.bits11 (fun HT_ HW_=>?_)
                        generalize wr.drew = w20 at BK167 HB hx170_0 hx170_1 hHeld ⊢
                        refine pure_ (i:=1) (N:=some 38) (v:=?_) (a':=?_) #[false,true,false,false,false,false,false,false] rfl rfl (any_of HT_.out (by kernel_rfl)) (fun _ _ _ h=>h) (Or.inl ⟨by rfl,?_⟩) ?_ ?_
                        rotate_left
                        · intro w'
                          go_simp
                          with_reducible rfl
                        rotate_left
                        · simp only [Act.put,List.setIfInBounds_toArray,List.set_cons_zero,List.set_cons_succ,i64_w,i32_w]
                          rfl
                        refine pure_ (i:=3) (N:=some 40) (v:=?_) (a':=?_) #[false,true,false,true,false,false,false,false] rfl rfl (any_of HT_.out (by kernel_rfl)) (fun _ _ _ h=>h) (Or.inl ⟨by rfl,?_⟩) ?_ ?_
                        rotate_left
                        · intro w'
                          go_simp
                          with_reducible rfl
                        rotate_left
                        · simp only [Act.put,List.setIfInBounds_toArray,List.set_cons_zero,List.set_cons_succ,i64_w,i32_w]
                          rfl
                        refine take_ (i:=0) (N:=some 37) (v:=?_) (a':=?_) #[true,true,false,true,false,false,false,false] rfl rfl (take_ofW HT_.out HW_.out (by kernel_rfl)) (fun _ _ _ h=>h) (Or.inl ⟨by rfl,?_⟩) hHeld ?_ ?_
                        rotate_left
                        · rintro w' ⟨s0,s1,s2,s3⟩
                          go_simp
                          with_reducible rfl
                        rotate_left
                        · simp only [Act.put,List.setIfInBounds_toArray,List.set_cons_zero,List.set_cons_succ,i64_w,i32_w]
                          rfl
                        refine take_ (i:=2) (N:=some 39) (v:=?_) (a':=?_) #[true,true,true,true,false,false,false,false] rfl rfl (take_ofW HT_.out HW_.out (by kernel_rfl)) (fun _ _ _ h=>h) (Or.inl ⟨by rfl,?_⟩) hHeld ?_ ?_
                        rotate_left
                        · rintro w' ⟨s0,s1,s2,s3⟩
                          go_simp
                          with_reducible rfl
                        rotate_left
                        · simp only [Act.put,List.setIfInBounds_toArray,List.set_cons_zero,List.set_cons_succ,i64_w,i32_w]
                          rfl
                        refine pure_ (i:=4) (N:=some 41) (v:=?_) (a':=?_) #[true,true,true,true,true,false,false,false] rfl rfl (any_of HT_.out (by kernel_rfl)) (fun _ _ _ h=>h) (Or.inl ⟨by rfl,?_⟩) ?_ ?_
                        rotate_left
                        · intro w'
                          go_simp
                          with_reducible rfl
                        rotate_left
                        · simp only [Act.put,List.setIfInBounds_toArray,List.set_cons_zero,List.set_cons_succ,i64_w,i32_w]
                          rfl
                        refine take_ (i:=5) (N:=some 42) (v:=?_) (a':=?_) #[true,true,true,true,true,true,false,false] rfl rfl (take_ofW HT_.out HW_.out (by kernel_rfl)) (fun _ _ _ h=>h) (Or.inl ⟨by rfl,?_⟩) hHeld ?_ ?_
                        rotate_left
                        · rintro w' ⟨s0,s1,s2,s3⟩
                          go_simp
                          with_reducible rfl
                        rotate_left
                        · simp only [Act.put,List.setIfInBounds_toArray,List.set_cons_zero,List.set_cons_succ,i64_w,i32_w]
                          rfl
                        refine one_ (i:=6) (N:=some 43) #[true,true,true,true,true,true,true,false] rfl rfl (one_of HT_.out (by kernel_rfl)) (by decide) (fun K hK=>?_)
                        refine goes_ Try.func102 (by kernel_rfl) rfl #[.agg #[.slice A0_0 l0_0.length c0_0,.slice (some ad170) l0_1.length c0_1],.agg #[.int .i64 ((rd_T143 l0_1 x4_3).f0),.string ((rd_T143 l0_1 x4_3).f1)]] (by rfl) rfl rfl (by (try simp only [List.map_toArray,List.map_cons,List.map_nil]);first|done|rfl|(simp only [List.length_drop,List.length_take];rfl)) ?_
                        with_reducible refine (spec_l03Put.calls _ _ l0_0 _ _ l0_1 ((rd_T143 l0_1 x4_3).f0) ((rd_T143 l0_1 x4_3).f1) true _ ?side1 ?side2 ?side3 ?side4 A17.out).mono ?_
                        (case side1=>repeat (first|exact (Kd.C_below HR0_0.out HB.out)|(with_reducible refine Kd.C_alloc ?_ _)|(with_reducible refine Kd.C_drewN ?_ _)|(with_reducible refine Kd.C_drew ?_)))
                        (case side2=>exact HC0_0.out)
                        (case side3=>repeat (first|exact (Kd.C_below HR0_1.out HB.out)|(with_reducible refine Kd.C_alloc ?_ _)|(with_reducible refine Kd.C_drewN ?_ _)|(with_reducible refine Kd.C_drew ?_)))
                        (case side4=>exact HC0_1.out)
                        rintro e w21 ⟨rfl,hb⟩
                        refine ⟨_,rfl,?_⟩
                        have n0_:=bb_ BK167 hb
                        have n1_:=hs_ HB hb
                        clear BK167
                        clear HB
                        have BK167:=n0_
                        have HB:=n1_
                        clear n0_ n1_
                        (try clear hb)
                        (try clear hb2)
                        (try clear hk)
                        (try clear hi)
                        refine hK.out _ _ ⟨(qh BK167.out 0).trans rfl,(qh BK167.out 1).trans rfl,(cb_ HB hw170_0:),(cb_ HB hw170_1:)⟩ (fun hHeld=>?_)
                        clear hK K
                        refine norm_ (a':=?_) ?_ ?_
                        rotate_left
                        · show Act.put _ (some 43) _ = _
                          simp only [Act.put,List.setIfInBounds_toArray,List.set_cons_zero,List.set_cons_succ,i64_w,i32_w]
                          rfl
                        refine pure_ (i:=7) (N:=some 44) (v:=?_) (a':=?_) #[true,true,true,true,true,true,true,true] rfl rfl (any_of HT_.out (by kernel_rfl)) (fun _ _ _ h=>h) (Or.inl ⟨by rfl,?_⟩) ?_ ?_
                        rotate_left
                        · intro w'
                          go_simp
                          with_reducible rfl
                        rotate_left
                        · simp only [Act.put,List.setIfInBounds_toArray,List.set_cons_zero,List.set_cons_succ,i64_w,i32_w]
                          rfl
                        refine done_ (done_of HT_.out (by kernel_rfl)) ?_
                        try go_wp2
                        go_roundg k3
                        case measure=>have:=HJ1.out;have:=HK2.out;have:=HK3.out;omega
                        case rel=>exact ⟨(wrap64 (x4_3 + 1)),(by first|rfl|(simp;done)|(simp [*];done)),H',⟨by have:=HJ1.out;have:=HK2.out;have:=HK3.out;omega⟩,⟨by (with_reducible repeat (first|refine qb ?_ _|refine qe ?_|refine qc ?_ _));exact BK167.out⟩,⟨by repeat (first|(with_reducible first|exact HB.out|apply qf|apply qa|apply qd|refine qg ?_ GE167.out)|exact HB.out)⟩⟩
                      · replace c18:=Bool.eq_false_iff.mpr c18
                        subst c18
                        have H1 : (some false) = some r:=by rw [if_neg (show ¬ (false = true) by decide)] at H;exact H
                        clear H
                        have H:=H1
                        clear H1
                        obtain rfl:=Option.some.inj H
                        have hcz22_0 : wr.cell? ⟨gb167,0,none⟩ = some (.slice A0_0 l0_0.length c0_0):=(qh BK167.out 0).trans rfl
                        have hcz22_1 : wr.cell? ⟨gb167,1,none⟩ = some (.slice A0_1 l0_1.length c0_1):=(qh BK167.out 1).trans rfl
                        have hfz22_0:=qi BK167.out 0
                        have hfz22_1:=qi BK167.out 1
                        try go_wp2
                        have n0_:=qn.mk (qe BK167.out)
                        have n1_:=qn.mk (qd HB.out)
                        clear BK167
                        clear HB
                        have BK167:=n0_
                        have HB:=n1_
                        clear n0_ n1_
                        have p170 : 0 ≤ (x4_3 : Int):=of_decide_eq_true (by first|(with_reducible assumption)|assumption)
                        have q170 : x4_3 < (l0_1.length : Int):=of_decide_eq_true (by first|(with_reducible assumption)|assumption)
                        obtain ⟨ad170,e170,hx170_0,hx170_1⟩:=at_T143 HR0_1.out x4_3 p170 q170
                        have hw170_1:=hx170_1
                        have hw170_0:=hx170_0
                        cases e170
                        replace hx170_0:=cb_ HB hx170_0
                        replace hx170_1:=cb_ HB hx170_1
                        replace p170:=eq_true p170
                        replace q170:=eq_true q170
                        refine start_ (n:=8) (S:=fun w'=>w'.cell? ⟨gb167,0,none⟩ = some (.slice A0_0 l0_0.length c0_0) ∧ w'.cell? ⟨gb167,1,none⟩ = some (.slice (some ad170) l0_1.length c0_1) ∧ w'.cell? (ad170.add ((x4_3).toNat * 2)) = some (.int .i64 ((rd_T143 l0_1 x4_3).f0)) ∧ w'.cell? ⟨(ad170.add ((x4_3).toNat * 2)).block,(ad170.add ((x4_3).toNat * 2)).off + 1,none⟩ = some (.string ((rd_T143 l0_1 x4_3).f1))) (ds:=[]) #[false,false,false,false,false,false,false,false] (by kernel_rfl) rfl rfl ⟨(qh BK167.out 0).trans rfl,(qh BK167.out 1).trans rfl,(cb_ HB hw170_0:),(cb_ HB hw170_1:)⟩ (fun hHeld=>?_);refine with_tabW spec_DeviceOk.tab11 spec_DeviceOk.bits11 (fun HT_ HW_=>?_)
                        generalize wr.drew = w23 at BK167 HB hx170_0 hx170_1 hHeld ⊢
                        refine pure_ (i:=1) (N:=some 38) (v:=?_) (a':=?_) #[false,true,false,false,false,false,false,false] rfl rfl (any_of HT_.out (by kernel_rfl)) (fun _ _ _ h=>h) (Or.inl ⟨by rfl,?_⟩) ?_ ?_
                        rotate_left
                        · intro w'
                          go_simp
                          with_reducible rfl
                        rotate_left
                        · simp only [Act.put,List.setIfInBounds_toArray,List.set_cons_zero,List.set_cons_succ,i64_w,i32_w]
                          rfl
                        refine pure_ (i:=3) (N:=some 40) (v:=?_) (a':=?_) #[false,true,false,true,false,false,false,false] rfl rfl (any_of HT_.out (by kernel_rfl)) (fun _ _ _ h=>h) (Or.inl ⟨by rfl,?_⟩) ?_ ?_
                        rotate_left
                        · intro w'
                          go_simp
                          with_reducible rfl
                        rotate_left
                        · simp only [Act.put,List.setIfInBounds_toArray,List.set_cons_zero,List.set_cons_succ,i64_w,i32_w]
                          rfl
                        refine take_ (i:=0) (N:=some 37) (v:=?_) (a':=?_) #[true,true,false,true,false,false,false,false] rfl rfl (take_ofW HT_.out HW_.out (by kernel_rfl)) (fun _ _ _ h=>h) (Or.inl ⟨by rfl,?_⟩) hHeld ?_ ?_
                        rotate_left
                        · rintro w' ⟨s0,s1,s2,s3⟩
                          go_simp
                          with_reducible rfl
                        rotate_left
                        · simp only [Act.put,List.setIfInBounds_toArray,List.set_cons_zero,List.set_cons_succ,i64_w,i32_w]
                          rfl
                        refine take_ (i:=2) (N:=some 39) (v:=?_) (a':=?_) #[true,true,true,true,false,false,false,false] rfl rfl (take_ofW HT_.out HW_.out (by kernel_rfl)) (fun _ _ _ h=>h) (Or.inl ⟨by rfl,?_⟩) hHeld ?_ ?_
                        rotate_left
                        · rintro w' ⟨s0,s1,s2,s3⟩
                          go_simp
                          with_reducible rfl
                        rotate_left
                        · simp only [Act.put,List.setIfInBounds_toArray,List.set_cons_zero,List.set_cons_succ,i64_w,i32_w]
                          rfl
                        refine pure_ (i:=4) (N:=some 41) (v:=?_) (a':=?_) #[true,true,true,true,true,false,false,false] rfl rfl (any_of HT_.out (by kernel_rfl)) (fun _ _ _ h=>h) (Or.inl ⟨by rfl,?_⟩) ?_ ?_
                        rotate_left
                        · intro w'
                          go_simp
                          with_reducible rfl
                        rotate_left
                        · simp only [Act.put,List.setIfInBounds_toArray,List.set_cons_zero,List.set_cons_succ,i64_w,i32_w]
                          rfl
                        refine take_ (i:=5) (N:=some 42) (v:=?_) (a':=?_) #[true,true,true,true,true,true,false,false] rfl rfl (take_ofW HT_.out HW_.out (by kernel_rfl)) (fun _ _ _ h=>h) (Or.inl ⟨by rfl,?_⟩) hHeld ?_ ?_
                        rotate_left
                        · rintro w' ⟨s0,s1,s2,s3⟩
                          go_simp
                          with_reducible rfl
                        rotate_left
                        · simp only [Act.put,List.setIfInBounds_toArray,List.set_cons_zero,List.set_cons_succ,i64_w,i32_w]
                          rfl
                        refine one_ (i:=6) (N:=some 43) #[true,true,true,true,true,true,true,false] rfl rfl (one_of HT_.out (by kernel_rfl)) (by decide) (fun K hK=>?_)
                        refine goes_ Try.func102 (by kernel_rfl) rfl #[.agg #[.slice A0_0 l0_0.length c0_0,.slice (some ad170) l0_1.length c0_1],.agg #[.int .i64 ((rd_T143 l0_1 x4_3).f0),.string ((rd_T143 l0_1 x4_3).f1)]] (by rfl) rfl rfl (by (try simp only [List.map_toArray,List.map_cons,List.map_nil]);first|done|rfl|(simp only [List.length_drop,List.length_take];rfl)) ?_
                        with_reducible refine (spec_l03Put.calls _ _ l0_0 _ _ l0_1 ((rd_T143 l0_1 x4_3).f0) ((rd_T143 l0_1 x4_3).f1) false _ ?side1 ?side2 ?side3 ?side4 A17.out).mono ?_
                        (case side1=>repeat (first|exact (Kd.C_below HR0_0.out HB.out)|(with_reducible refine Kd.C_alloc ?_ _)|(with_reducible refine Kd.C_drewN ?_ _)|(with_reducible refine Kd.C_drew ?_)))
                        (case side2=>exact HC0_0.out)
                        (case side3=>repeat (first|exact (Kd.C_below HR0_1.out HB.out)|(with_reducible refine Kd.C_alloc ?_ _)|(with_reducible refine Kd.C_drewN ?_ _)|(with_reducible refine Kd.C_drew ?_)))
                        (case side4=>exact HC0_1.out)
                        rintro e w24 ⟨rfl,hb⟩
                        refine ⟨_,rfl,?_⟩
                        have n0_:=bb_ BK167 hb
                        have n1_:=hs_ HB hb
                        clear BK167
                        clear HB
                        have BK167:=n0_
                        have HB:=n1_
                        clear n0_ n1_
                        (try clear hb)
                        (try clear hb2)
                        (try clear hk)
                        (try clear hi)
                        refine hK.out _ _ ⟨(qh BK167.out 0).trans rfl,(qh BK167.out 1).trans rfl,(cb_ HB hw170_0:),(cb_ HB hw170_1:)⟩ (fun hHeld=>?_)
                        clear hK K
                        refine norm_ (a':=?_) ?_ ?_
                        rotate_left
                        · show Act.put _ (some 43) _ = _
                          simp only [Act.put,List.setIfInBounds_toArray,List.set_cons_zero,List.set_cons_succ,i64_w,i32_w]
                          rfl
                        refine pure_ (i:=7) (N:=some 44) (v:=?_) (a':=?_) #[true,true,true,true,true,true,true,true] rfl rfl (any_of HT_.out (by kernel_rfl)) (fun _ _ _ h=>h) (Or.inl ⟨by rfl,?_⟩) ?_ ?_
                        rotate_left
                        · intro w'
                          go_simp
                          with_reducible rfl
                        rotate_left
                        · simp only [Act.put,List.setIfInBounds_toArray,List.set_cons_zero,List.set_cons_succ,i64_w,i32_w]
                          rfl
                        refine done_ (done_of HT_.out (by kernel_rfl)) ?_
                        try go_wp2
                        go_ret
                        exact ⟨by first|rfl|(simp [errW_none,errW_some] <;> rfl)|(simp [*,errW_none,errW_some] <;> rfl),by repeat (first|(with_reducible first|exact HB.out|apply qf|apply qa|apply qd|refine qg ?_ GE167.out)|exact HB.out)⟩
                    · rw [if_neg c16] at H
                      exact absurd H (by simp)
                  · rw [if_neg c15] at H
                    have c15b0 : decide (x4_3 < (l0_1.length : Int)) = false:=decide_eq_false c15
                    clear c15
                    obtain rfl:=Option.some.inj H
                    have hcz25_0 : wr.cell? ⟨gb167,0,none⟩ = some (.slice A0_0 l0_0.length c0_0):=(qh BK167.out 0).trans rfl
                    have hcz25_1 : wr.cell? ⟨gb167,1,none⟩ = some (.slice A0_1 l0_1.length c0_1):=(qh BK167.out 1).trans rfl
                    have hfz25_0:=qi BK167.out 0
                    have hfz25_1:=qi BK167.out 1
                    go_wp2
                    go_ret
                    exact ⟨by first|rfl|(simp [errW_none,errW_some] <;> rfl)|(simp [*,errW_none,errW_some] <;> rfl),by repeat (first|(with_reducible first|exact HB.out|apply qf|apply qa|apply qd|refine qg ?_ GE167.out)|exact HB.out)⟩

/-! ### spec_l03In: function 94 -/
def spec_l03In.l0 : Nat → List Int → Int → Int → Option (Bool)
  | 0,_,_,_=>none
  | k + 1,x0,x1,x5=>if x5 < (x0.length : Int) then (if 0 ≤ x5 then (if (rd x0 x5) = x1 then (some true) else (spec_l03In.l0 k x0 x1 (wrap64 (x5 + 1)))) else (none)) else (some false)
def spec_l03In.f (k : Nat) (l0 : List Int) (a1 : Int) : Option (Bool):=spec_l03In.l0 k l0 a1 0
theorem spec_l03In.mono_l : ∀ k,(∀ y0 y1 y2,LeO (spec_l03In.l0 k y0 y1 y2) (spec_l03In.l0 (k + 1) y0 y1 y2))
  | 0=>fun _ _ _ r h=>by simp [spec_l03In.l0] at h
  | k + 1=>by
    have ih0:=spec_l03In.mono_l k
    · intro y0 y1 y2
      unfold spec_l03In.l0
      repeat' first
      | (with_reducible exact ih0 _ _ _)
      | (with_reducible exact LeO.refl _)
      | (with_reducible exact LeO.none _)
      | (with_reducible refine LeO.ite ?_ ?_)
      | (with_reducible refine LeO.bind ?_ (fun _=>?_))
      | exact ih0 _ _ _
      | exact LeO.none _
      | refine LeO.ite ?_ ?_
      | refine LeO.bind ?_ (fun _=>?_)
theorem spec_l03In.mono : ∀ a0 a1 k,LeO (spec_l03In.f k a0 a1) (spec_l03In.f (k + 1) a0 a1):=by
  intro a0 a1 k
  have ih0:=spec_l03In.mono_l k
  unfold spec_l03In.f
  repeat' first
      | (with_reducible exact ih0 _ _ _)
      | (with_reducible exact LeO.refl _)
      | (with_reducible exact LeO.none _)
      | (with_reducible refine LeO.ite ?_ ?_)
      | (with_reducible refine LeO.bind ?_ (fun _=>?_))
      | exact ih0 _ _ _
      | exact LeO.none _
      | refine LeO.ite ?_ ?_
      | refine LeO.bind ?_ (fun _=>?_)
set_option maxHeartbeats 8000000 in
set_option maxRecDepth 100000 in
theorem spec_l03In.calls (k : Nat) (A0 : Option Addr) (c0 : Nat) (l0 : List Int) (a1 : Int) (r : Bool) (w : World) (hr0 : Kd.C (Kd.int .i64) w A0 l0.length l0) (hc0 : l0.length ≤ c0) (h : spec_l03In.f k l0 a1 = some r) :
    Calls Try.prog 94 #[.slice A0 l0.length c0,.int .i64 a1] w fun e w'=>e = .returned (.bool r) ∧ Drawn0 w w':=by
  have HR0:=qn.mk hr0
  have HC0:=qn.mk hc0
  clear hr0 hc0
  have H : (spec_l03In.l0 k l0 a1 0) = some r:=h
  clear h
  have H':=qn.mk H
  clear H
  go_enter Try.func94,Try.ntmps94
  go_wp2
  go_loopg [5] k (fun kq v5 w'=>∃ (x5_1 : Int),v5 = .int .i64 x5_1 ∧ qn (spec_l03In.l0 kq l0 a1 x5_1 = some r) ∧ qn (kq ≤ k) ∧ Drawn0 w w')
  case atStart=>exact ⟨(0),(by first|rfl|(simp;done)|(simp [*];done)),H',⟨Nat.le_refl _⟩,by repeat (first|exact Drawn0.refl _|apply Drawn0.step)⟩
  case round =>
    clear H'
    try clear p2
    obtain ⟨x5_1,rfl,HA,HK1,⟨m1,rfl⟩⟩:=hrel
    cases gk with
    | zero=>exact absurd HA.out (by simp [spec_l03In.l0])
    | succ k1 =>
      have H:=HA.out
      clear HA
      simp only [spec_l03In.l0] at H
      by_cases c3 : x5_1 < (l0.length : Int)
      · rw [if_pos c3] at H
        have c3b0 : decide (x5_1 < (l0.length : Int)) = true:=decide_eq_true c3
        clear c3
        by_cases c4 : 0 ≤ x5_1
        · rw [if_pos c4] at H
          have c4b0 : decide (0 ≤ x5_1) = true:=decide_eq_true c4
          clear c4
          by_cases c5 : (rd l0 x5_1) = a1
          · rw [if_pos c5] at H
            have c5b0 : ((rd l0 x5_1) == a1) = true:=beq_iff_eq.mpr c5
            have c5b1 : ((rd l0 x5_1) != a1) = false:=bne_eq_false_iff_eq.mpr c5
            clear c5
            obtain rfl:=Option.some.inj H
            have p172 : 0 ≤ (x5_1 : Int):=of_decide_eq_true (by first|(with_reducible assumption)|assumption)
            have q172 : x5_1 < (l0.length : Int):=of_decide_eq_true (by first|(with_reducible assumption)|assumption)
            obtain ⟨ad172,e172,hx172_0⟩:=Kd.at_int HR0.out x5_1 p172 q172
            cases e172
            replace p172:=eq_true p172
            replace q172:=eq_true q172
            go_wp2
            go_ret
            exact ⟨by first|rfl|(simp;done)|(simp [*];done),by repeat (first|exact Drawn0.refl _|apply Drawn0.step)⟩
          · rw [if_neg c5] at H
            have c5b0 : ((rd l0 x5_1) == a1) = false:=beq_eq_false_iff_ne.mpr c5
            have c5b1 : ((rd l0 x5_1) != a1) = true:=bne_iff_ne.mpr c5
            have H':=qn.mk H
            clear H
            have p172 : 0 ≤ (x5_1 : Int):=of_decide_eq_true (by first|(with_reducible assumption)|assumption)
            have q172 : x5_1 < (l0.length : Int):=of_decide_eq_true (by first|(with_reducible assumption)|assumption)
            obtain ⟨ad172,e172,hx172_0⟩:=Kd.at_int HR0.out x5_1 p172 q172
            cases e172
            replace p172:=eq_true p172
            replace q172:=eq_true q172
            go_wp2
            go_roundg k1
            case measure=>have:=HK1.out;omega
            case rel=>exact ⟨(wrap64 (x5_1 + 1)),(by first|rfl|(simp;done)|(simp [*];done)),H',⟨by have:=HK1.out;omega⟩,by repeat (first|exact Drawn0.refl _|apply Drawn0.step)⟩
        · rw [if_neg c4] at H
          exact absurd H (by simp)
      · rw [if_neg c3] at H
        have c3b0 : decide (x5_1 < (l0.length : Int)) = false:=decide_eq_false c3
        clear c3
        obtain rfl:=Option.some.inj H
        go_wp2
        go_ret
        exact ⟨by first|rfl|(simp;done)|(simp [*];done),by repeat (first|exact Drawn0.refl _|apply Drawn0.step)⟩

end Go.Proofs.Ytbonjmnpcklciaa.QFnExactFreeOf
