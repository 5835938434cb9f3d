/- Lean functions for the Go functions that the law FnDevices reaches, and that each Go function comes to just its Lean function's answer; by a program of this session. -/
import Derived.Test.YtfmemcffbfahhaaZFnDevicesx0
import Derived.Test.YtfmemcffbfahhaaZFnDevicesx2
import Derived.Test.YtfmemcffbfahhaaZFnDevicesx3
namespace Go.Proofs.Ytfmemcffbfahhaa.QFnDevices
open Go.RowKit Go.Proofs.YtfmemcffbfahhaaW.PrintWords Go.Proofs.YtfmemcffbfahhaaW.PrintLast Go.Proofs.YtfmemcffbfahhaaW.PrintMore
attribute [local go_sem] max2_int min2_int max_two min_two max_three min_three max_four min_four   -- for this text's walks alone
set_option linter.unusedVariables false
set_option linter.unusedSimpArgs false

/-! ### impl_readSector: function 64 -/
def impl_readSector.l0 : Nat → Int → Int → List ByteArray → List (S98) → Option (ByteArray)
  | 0,_,_,_,_=>none
  | k + 1,x1,x5,x230000,x230001=>if x5 ≥ 0 then (if 0 ≤ x5 then (if x5 < (x230001.length : Int) then (if ((rd_T98 x230001 x5).f0) = x1 then (some ((rd_T98 x230001 x5).f1)) else (impl_readSector.l0 k x1 (wrap64 (x5 - 1)) x230000 x230001)) else (none)) else (none)) else (if 0 ≤ x1 then (if x1 < (x230000.length : Int) then (some (rdOf ByteArray.empty x230000 x1)) else (none)) else (none))
def impl_readSector.f (k : Nat) (l0_0 : List ByteArray) (l0_1 : List (S98)) (a1 : Int) : Option (ByteArray):=impl_readSector.l0 k a1 (wrap64 ((l0_1.length : Int) - 1)) l0_0 l0_1
theorem impl_readSector.mono_l : ∀ k,(∀ y0 y1 y2 y3,LeO (impl_readSector.l0 k y0 y1 y2 y3) (impl_readSector.l0 (k + 1) y0 y1 y2 y3))
  | 0=>fun _ _ _ _ r h=>by simp [impl_readSector.l0] at h
  | k + 1=>by
    have ih0:=impl_readSector.mono_l k
    · intro y0 y1 y2 y3
      unfold impl_readSector.l0
      repeat' first
      | (with_reducible exact ih0 _ _ _ _)
      | (with_reducible exact LeO.refl _)
      | (with_reducible exact LeO.none _)
      | (with_reducible refine LeO.ite ?_ ?_)
      | (with_reducible refine LeO.bind ?_ (fun _=>?_))
      | exact ih0 _ _ _ _
      | exact LeO.none _
      | refine LeO.ite ?_ ?_
      | refine LeO.bind ?_ (fun _=>?_)
theorem impl_readSector.mono : ∀ a0 a1 a2 k,LeO (impl_readSector.f k a0 a1 a2) (impl_readSector.f (k + 1) a0 a1 a2):=by
  intro a0 a1 a2 k
  have ih0:=impl_readSector.mono_l k
  unfold impl_readSector.f
  repeat' first
      | (with_reducible exact ih0 _ _ _ _)
      | (with_reducible exact LeO.refl _)
      | (with_reducible exact LeO.none _)
      | (with_reducible refine LeO.ite ?_ ?_)
      | (with_reducible refine LeO.bind ?_ (fun _=>?_))
      | exact ih0 _ _ _ _
      | exact LeO.none _
      | refine LeO.ite ?_ ?_
      | refine LeO.bind ?_ (fun _=>?_)
set_option maxHeartbeats 8000000 in
set_option maxRecDepth 100000 in
theorem impl_readSector.calls (k : Nat) (A0_0 : Option Addr) (c0_0 : Nat) (l0_0 : List ByteArray) (A0_1 : Option Addr) (c0_1 : Nat) (l0_1 : List (S98)) (a1 : Int) (r : ByteArray) (w : World) (hr0_0 : Kd.C Kd.string w A0_0 l0_0.length l0_0) (hc0_0 : l0_0.length ≤ c0_0) (hr0_1 : Kd.C k98 w A0_1 l0_1.length l0_1) (hc0_1 : l0_1.length ≤ c0_1) (h : impl_readSector.f k l0_0 l0_1 a1 = some r) :
    Calls Try.prog 64 #[.agg #[.slice A0_0 l0_0.length c0_0,.slice A0_1 l0_1.length c0_1],.int .i64 a1] w fun e w'=>e = .returned (.string r) ∧ Below w.heap.size w w':=by
  have hu40:=Try.underlying40
  have HR0_0:=qn.mk hr0_0
  have HC0_0:=qn.mk hc0_0
  clear hr0_0 hc0_0
  have HR0_1:=qn.mk hr0_1
  have HC0_1:=qn.mk hc0_1
  clear hr0_1 hc0_1
  have HB:=qn.mk (Below.refl w.heap.size w)
  have H : (impl_readSector.l0 k a1 (wrap64 ((l0_1.length : Int) - 1)) l0_0 l0_1) = some r:=h
  clear h
  have H':=qn.mk H
  clear H
  go_enter Try.func64,Try.ntmps64
  go_wp2_with (first|((with_reducible refine gate_dst (N:=2) rfl ?_);refine box_event ?hg (N:=2) ?hd (cs:=#[.slice A0_0 l0_0.length c0_0,.slice A0_1 l0_1.length c0_1]) (t:=40) ?hr ?_;(case hd=>rfl);(case hg=>rfl);(case hr=>first|(go_simp;done)|(go_simp;rfl));intro gb229 hg w3 hbox hb;have n0_:=hs_ HB hb;have n1_:=qn.mk (hbox);have n2_:=qn.mk ((by rw [hg];exact (qj (by repeat (first|(with_reducible first|exact HB.out|apply qf|apply qa|apply qd)|exact HB.out))) : w.heap.size ≤ gb229));have n3_:=qn.mk ((by rw [hg];exact (qj (by repeat (first|(with_reducible first|exact HB.out|apply qf|apply qa|apply qd)|exact HB.out))) : w.heap.size ≤ gb229));clear HB;have HB:=n0_;have BK229:=n1_;have GW229:=n2_;have GE229:=n3_;clear n0_ n1_ n2_ n3_;clear hb hbox hg;have hcz4_0 : w3.cell? ⟨gb229,0,none⟩ = some (.slice A0_0 l0_0.length c0_0):=(qh BK229.out 0).trans rfl;have hcz4_1 : w3.cell? ⟨gb229,1,none⟩ = some (.slice A0_1 l0_1.length c0_1):=(qh BK229.out 1).trans rfl;have hfz4_0:=qi BK229.out 0;have hfz4_1:=qi BK229.out 1))
  go_loopg [5] k (fun kq v5 w'=>∃ (x5_1 : Int),v5 = .int .i64 x5_1 ∧ qn (impl_readSector.l0 kq a1 x5_1 l0_0 l0_1 = some r) ∧ qn (kq ≤ k) ∧ qn (w'.heap[gb229]? = some (.cells #[(.slice A0_0 l0_0.length c0_0),(.slice A0_1 l0_1.length c0_1)] 40 (0,0))) ∧ qn (Below w.heap.size w w'))
  case atStart=>exact ⟨(wrap64 ((l0_1.length : Int) - 1)),(by first|rfl|(simp;done)|(simp [*];done)),H',⟨Nat.le_refl _⟩,⟨by (with_reducible repeat (first|refine qb ?_ _|refine qe ?_|refine qc ?_ _));exact BK229.out⟩,⟨by repeat (first|(with_reducible first|exact HB.out|apply qf|apply qa|apply qd|refine qg ?_ GE229.out)|exact HB.out)⟩⟩
  case round =>
    clear H'
    try clear p2
    try clear hcz4_0
    try clear hcz4_1
    try clear hfz4_0
    try clear hfz4_1
    obtain ⟨x5_1,rfl,HA,HK1,BK229,HB⟩:=hrel
    cases gk with
    | zero=>exact absurd HA.out (by simp [impl_readSector.l0])
    | succ k1 =>
      have H:=HA.out
      clear HA
      simp only [impl_readSector.l0] at H
      by_cases c5 : x5_1 ≥ 0
      · rw [if_pos c5] at H
        have c5b0 : decide (0 ≤ x5_1) = true:=decide_eq_true c5
        clear c5
        by_cases c6 : 0 ≤ x5_1
        · rw [if_pos c6] at H
          have c6b0 : decide (0 ≤ x5_1) = true:=decide_eq_true c6
          clear c6
          by_cases c7 : x5_1 < (l0_1.length : Int)
          · rw [if_pos c7] at H
            have c7b0 : decide (x5_1 < (l0_1.length : Int)) = true:=decide_eq_true c7
            clear c7
            by_cases c8 : ((rd_T98 l0_1 x5_1).f0) = a1
            · rw [if_pos c8] at H
              have c8b0 : (((rd_T98 l0_1 x5_1).f0) == a1) = true:=beq_iff_eq.mpr c8
              have c8b1 : (((rd_T98 l0_1 x5_1).f0) != a1) = false:=bne_eq_false_iff_eq.mpr c8
              clear c8
              obtain rfl:=Option.some.inj H
              have hcz9_0 : wr.cell? ⟨gb229,0,none⟩ = some (.slice A0_0 l0_0.length c0_0):=(qh BK229.out 0).trans rfl
              have hcz9_1 : wr.cell? ⟨gb229,1,none⟩ = some (.slice A0_1 l0_1.length c0_1):=(qh BK229.out 1).trans rfl
              have hfz9_0:=qi BK229.out 0
              have hfz9_1:=qi BK229.out 1
              have p230 : 0 ≤ (x5_1 : Int):=of_decide_eq_true (by first|(with_reducible assumption)|assumption)
              have q230 : x5_1 < (l0_1.length : Int):=of_decide_eq_true (by first|(with_reducible assumption)|assumption)
              obtain ⟨ad230,e230,hx230_0,hx230_1⟩:=at_T98 HR0_1.out x5_1 p230 q230
              cases e230
              replace hx230_0:=cb_ HB hx230_0
              replace hx230_1:=cb_ HB hx230_1
              replace p230:=eq_true p230
              replace q230:=eq_true q230
              have p231 : 0 ≤ (x5_1 : Int):=of_decide_eq_true (by first|(with_reducible assumption)|assumption)
              have q231 : x5_1 < (l0_1.length : Int):=of_decide_eq_true (by first|(with_reducible assumption)|assumption)
              obtain ⟨ad231,e231,hx231_0,hx231_1⟩:=at_T98 HR0_1.out x5_1 p231 q231
              obtain rfl : ad230 = ad231:=(by injection e231)
              replace hx231_0:=cb_ HB hx231_0
              replace hx231_1:=cb_ HB hx231_1
              replace p231:=eq_true p231
              replace q231:=eq_true q231
              go_wp2
              go_ret
              exact ⟨by first|rfl|(simp [errW_none,errW_some] <;> rfl)|(simp [*,errW_none,errW_some] <;> rfl),by repeat (first|(with_reducible first|exact HB.out|apply qf|apply qa|apply qd|refine qg ?_ GE229.out)|exact HB.out)⟩
            · rw [if_neg c8] at H
              have c8b0 : (((rd_T98 l0_1 x5_1).f0) == a1) = false:=beq_eq_false_iff_ne.mpr c8
              have c8b1 : (((rd_T98 l0_1 x5_1).f0) != a1) = true:=bne_iff_ne.mpr c8
              have H':=qn.mk H
              clear H
              have hcz10_0 : wr.cell? ⟨gb229,0,none⟩ = some (.slice A0_0 l0_0.length c0_0):=(qh BK229.out 0).trans rfl
              have hcz10_1 : wr.cell? ⟨gb229,1,none⟩ = some (.slice A0_1 l0_1.length c0_1):=(qh BK229.out 1).trans rfl
              have hfz10_0:=qi BK229.out 0
              have hfz10_1:=qi BK229.out 1
              have p230 : 0 ≤ (x5_1 : Int):=of_decide_eq_true (by first|(with_reducible assumption)|assumption)
              have q230 : x5_1 < (l0_1.length : Int):=of_decide_eq_true (by first|(with_reducible assumption)|assumption)
              obtain ⟨ad230,e230,hx230_0,hx230_1⟩:=at_T98 HR0_1.out x5_1 p230 q230
              cases e230
              replace hx230_0:=cb_ HB hx230_0
              replace hx230_1:=cb_ HB hx230_1
              replace p230:=eq_true p230
              replace q230:=eq_true q230
              go_wp2
              go_roundg k1
              case measure=>have:=HK1.out;omega
              case rel=>exact ⟨(wrap64 (x5_1 - 1)),(by first|rfl|(simp;done)|(simp [*];done)),H',⟨by have:=HK1.out;omega⟩,⟨by (with_reducible repeat (first|refine qb ?_ _|refine qe ?_|refine qc ?_ _));exact BK229.out⟩,⟨by repeat (first|(with_reducible first|exact HB.out|apply qf|apply qa|apply qd|refine qg ?_ GE229.out)|exact HB.out)⟩⟩
          · rw [if_neg c7] at H
            exact absurd H (by simp)
        · rw [if_neg c6] at H
          exact absurd H (by simp)
      · rw [if_neg c5] at H
        have c5b0 : decide (0 ≤ x5_1) = false:=decide_eq_false c5
        clear c5
        by_cases c11 : 0 ≤ a1
        · rw [if_pos c11] at H
          have c11b0 : decide (0 ≤ a1) = true:=decide_eq_true c11
          clear c11
          by_cases c12 : a1 < (l0_0.length : Int)
          · rw [if_pos c12] at H
            have c12b0 : decide (a1 < (l0_0.length : Int)) = true:=decide_eq_true c12
            clear c12
            obtain rfl:=Option.some.inj H
            have hcz13_0 : wr.cell? ⟨gb229,0,none⟩ = some (.slice A0_0 l0_0.length c0_0):=(qh BK229.out 0).trans rfl
            have hcz13_1 : wr.cell? ⟨gb229,1,none⟩ = some (.slice A0_1 l0_1.length c0_1):=(qh BK229.out 1).trans rfl
            have hfz13_0:=qi BK229.out 0
            have hfz13_1:=qi BK229.out 1
            have p232 : 0 ≤ (a1 : Int):=of_decide_eq_true (by first|(with_reducible assumption)|assumption)
            have q232 : a1 < (l0_0.length : Int):=of_decide_eq_true (by first|(with_reducible assumption)|assumption)
            obtain ⟨ad232,e232,hx232_0⟩:=Kd.at_string HR0_0.out a1 p232 q232
            cases e232
            replace hx232_0:=cb_ HB hx232_0
            replace p232:=eq_true p232
            replace q232:=eq_true q232
            go_wp2
            go_ret
            exact ⟨by first|rfl|(simp [errW_none,errW_some] <;> rfl)|(simp [*,errW_none,errW_some] <;> rfl),by repeat (first|(with_reducible first|exact HB.out|apply qf|apply qa|apply qd|refine qg ?_ GE229.out)|exact HB.out)⟩
          · rw [if_neg c12] at H
            exact absurd H (by simp)
        · rw [if_neg c11] at H
          exact absurd H (by simp)

/-! ### impl_ReadSector: function 24 -/
def impl_ReadSector.f (k : Nat) (l0_0 : List ByteArray) (l0_1 : List (S98)) (a1 : Int) : Option (ByteArray × Bool):=(impl_DeviceOk.f k l0_0 l0_1).bind fun t234=>(if t234 = true then ((impl_in.f a1 0 (wrap64 ((l0_0.length : Int) - 1))).bind fun t235=>(if t235 = true then ((impl_readSector.f k l0_0 l0_1 a1).bind fun t236=>(some (t236,true))) else (some ((⟨#[]⟩ : ByteArray),false)))) else (some ((⟨#[]⟩ : ByteArray),false)))
theorem impl_ReadSector.mono : ∀ a0 a1 a2 k,LeO (impl_ReadSector.f k a0 a1 a2) (impl_ReadSector.f (k + 1) a0 a1 a2):=by
  intro a0 a1 a2 k
  unfold impl_ReadSector.f
  repeat' first
      | (with_reducible exact impl_DeviceOk.mono _ _ _)
      | (with_reducible exact impl_readSector.mono _ _ _ _)
      | (with_reducible exact LeO.refl _)
      | (with_reducible exact LeO.none _)
      | (with_reducible refine LeO.ite ?_ ?_)
      | (with_reducible refine LeO.bind ?_ (fun _=>?_))
      | exact impl_DeviceOk.mono _ _ _
      | exact impl_readSector.mono _ _ _ _
      | exact LeO.none _
      | refine LeO.ite ?_ ?_
      | refine LeO.bind ?_ (fun _=>?_)
set_option maxHeartbeats 8000000 in
set_option maxRecDepth 100000 in
theorem impl_ReadSector.calls (k : Nat) (A0_0 : Option Addr) (c0_0 : Nat) (l0_0 : List ByteArray) (A0_1 : Option Addr) (c0_1 : Nat) (l0_1 : List (S98)) (a1 : Int) (r1 : ByteArray) (r2 : Bool) (w : World) (hr0_0 : Kd.C Kd.string w A0_0 l0_0.length l0_0) (hc0_0 : l0_0.length ≤ c0_0) (hr0_1 : Kd.C k98 w A0_1 l0_1.length l0_1) (hc0_1 : l0_1.length ≤ c0_1) (h : impl_ReadSector.f k l0_0 l0_1 a1 = some (r1,r2)) :
    Calls Try.prog 24 #[.agg #[.slice A0_0 l0_0.length c0_0,.slice A0_1 l0_1.length c0_1],.int .i64 a1] w fun e w'=>e = .returned (.tuple #[.string r1,.bool r2]) ∧ Below w.heap.size w w':=by
  have hu40:=Try.underlying40
  have HR0_0:=qn.mk hr0_0
  have HC0_0:=qn.mk hc0_0
  clear hr0_0 hc0_0
  have HR0_1:=qn.mk hr0_1
  have HC0_1:=qn.mk hc0_1
  clear hr0_1 hc0_1
  have HB:=qn.mk (Below.refl w.heap.size w)
  have H : ((impl_DeviceOk.f k l0_0 l0_1).bind fun t234=>(if t234 = true then ((impl_in.f a1 0 (wrap64 ((l0_0.length : Int) - 1))).bind fun t235=>(if t235 = true then ((impl_readSector.f k l0_0 l0_1 a1).bind fun t236=>(some (t236,true))) else (some ((⟨#[]⟩ : ByteArray),false)))) else (some ((⟨#[]⟩ : ByteArray),false)))) = some (r1,r2):=h
  clear h
  replace H:=Option.bind_eq_some_iff.mp H
  obtain ⟨t234,A30,H⟩:=H
  replace H : (if t234 = true then ((impl_in.f a1 0 (wrap64 ((l0_0.length : Int) - 1))).bind fun t235=>(if t235 = true then ((impl_readSector.f k l0_0 l0_1 a1).bind fun t236=>(some (t236,true))) else (some ((⟨#[]⟩ : ByteArray),false)))) else (some ((⟨#[]⟩ : ByteArray),false))) = some (r1,r2):=H
  have A3:=qn.mk A30
  clear A30
  by_cases c4 : t234 = true
  · subst c4
    have H1 : ((impl_in.f a1 0 (wrap64 ((l0_0.length : Int) - 1))).bind fun t235=>(if t235 = true then ((impl_readSector.f k l0_0 l0_1 a1).bind fun t236=>(some (t236,true))) else (some ((⟨#[]⟩ : ByteArray),false)))) = some (r1,r2):=by rw [if_pos rfl] at H;exact H
    clear H
    have H:=H1
    clear H1
    replace H:=Option.bind_eq_some_iff.mp H
    obtain ⟨t235,A50,H⟩:=H
    replace H : (if t235 = true then ((impl_readSector.f k l0_0 l0_1 a1).bind fun t236=>(some (t236,true))) else (some ((⟨#[]⟩ : ByteArray),false))) = some (r1,r2):=H
    have A5:=qn.mk A50
    clear A50
    by_cases c6 : t235 = true
    · subst c6
      have H1 : ((impl_readSector.f k l0_0 l0_1 a1).bind fun t236=>(some (t236,true))) = some (r1,r2):=by rw [if_pos rfl] at H;exact H
      clear H
      have H:=H1
      clear H1
      replace H:=Option.bind_eq_some_iff.mp H
      obtain ⟨t236,A70,H⟩:=H
      replace H : (some (t236,true)) = some (r1,r2):=H
      have A7:=qn.mk A70
      clear A70
      simp only [Option.some.injEq,Prod.mk.injEq] at H
      obtain ⟨rfl,rfl⟩:=H
      go_enter Try.func24,Try.ntmps24
      go_wp2_with (first|((with_reducible refine gate_dst (N:=2) rfl ?_);(try (refine gate_guard (by rfl) ?_;dsimp only));refine box_event ?hg (N:=2) ?hd (cs:=#[.slice A0_0 l0_0.length c0_0,.slice A0_1 l0_1.length c0_1]) (t:=40) ?hr ?_;(case hd=>rfl);(case hg=>rfl);(case hr=>first|(go_simp;done)|(go_simp;rfl));intro gb233 hg w8 hbox hb;have n0_:=hs_ HB hb;have n1_:=qn.mk (hbox);have n2_:=qn.mk ((by rw [hg];exact (qj (by repeat (first|(with_reducible first|exact HB.out|apply qf|apply qa|apply qd)|exact HB.out))) : w.heap.size ≤ gb233));have n3_:=qn.mk ((by rw [hg];exact (qj (by repeat (first|(with_reducible first|exact HB.out|apply qf|apply qa|apply qd)|exact HB.out))) : w.heap.size ≤ gb233));clear HB;have HB:=n0_;have BK233:=n1_;have GW233:=n2_;have GE233:=n3_;clear n0_ n1_ n2_ n3_;clear hb hbox hg;have hcz9_0 : w8.cell? ⟨gb233,0,none⟩ = some (.slice A0_0 l0_0.length c0_0):=(qh BK233.out 0).trans rfl;have hcz9_1 : w8.cell? ⟨gb233,1,none⟩ = some (.slice A0_1 l0_1.length c0_1):=(qh BK233.out 1).trans rfl;have hfz9_0:=qi BK233.out 0;have hfz9_1:=qi BK233.out 1)|((with_reducible refine gate_callee (f:=23) rfl ?_);refine goesL_ (some 7) rfl rfl Try.func23 (by kernel_rfl) rfl #[.agg #[.slice A0_0 l0_0.length c0_0,.slice A0_1 l0_1.length c0_1]] rfl (by (try simp only [List.map_toArray,List.map_cons,List.map_nil]);first|done|rfl|(simp only [List.length_drop,List.length_take];rfl)) ?_;(with_reducible refine (impl_DeviceOk.calls k _ _ l0_0 _ _ l0_1 true _ ?side1 ?side2 ?side3 ?side4 A3.out).mono ?_);(case side1=>repeat (first|exact (Kd.C_below HR0_0.out HB.out)|(with_reducible refine Kd.C_alloc ?_ _)|(with_reducible refine Kd.C_drewN ?_ _)|(with_reducible refine Kd.C_drew ?_)));(case side2=>exact HC0_0.out);(case side3=>repeat (first|exact (Kd.C_below HR0_1.out HB.out)|(with_reducible refine Kd.C_alloc ?_ _)|(with_reducible refine Kd.C_drewN ?_ _)|(with_reducible refine Kd.C_drew ?_)));(case side4=>exact HC0_1.out);rintro e w10 ⟨rfl,hb⟩;refine ⟨_,rfl,?_⟩;have n0_:=bb_ BK233 hb;have n1_:=hs_ HB hb;clear BK233;clear HB;have BK233:=n0_;have HB:=n1_;clear n0_ n1_;(try clear hb);(try clear hb2);(try clear hk);(try clear hi);have hcz11_0 : w10.cell? ⟨gb233,0,none⟩ = some (.slice A0_0 l0_0.length c0_0):=(qh BK233.out 0).trans rfl;have hcz11_1 : w10.cell? ⟨gb233,1,none⟩ = some (.slice A0_1 l0_1.length c0_1):=(qh BK233.out 1).trans rfl;have hfz11_0:=qi BK233.out 0;have hfz11_1:=qi BK233.out 1)|(go_at_call 59;(with_reducible refine (impl_in.calls a1 0 (wrap64 ((l0_0.length : Int) - 1)) true _ A5.out).mono ?_);rintro e w' ⟨rfl,⟨nd,rfl⟩⟩)|((with_reducible refine gate_callee (f:=64) rfl ?_);refine goesL_ (some 20) rfl rfl Try.func64 (by kernel_rfl) rfl #[.agg #[.slice A0_0 l0_0.length c0_0,.slice A0_1 l0_1.length c0_1],.int .i64 a1] rfl (by (try simp only [List.map_toArray,List.map_cons,List.map_nil]);first|done|rfl|(simp only [List.length_drop,List.length_take];rfl)) ?_;(with_reducible refine (impl_readSector.calls k _ _ l0_0 _ _ l0_1 a1 t236 _ ?side1 ?side2 ?side3 ?side4 A7.out).mono ?_);(case side1=>repeat (first|exact (Kd.C_below HR0_0.out (by repeat (first|(with_reducible first|exact HB.out|apply qf|apply qa|apply qd|refine qg ?_ GE233.out)|exact HB.out)))|(with_reducible refine Kd.C_alloc ?_ _)|(with_reducible refine Kd.C_drewN ?_ _)|(with_reducible refine Kd.C_drew ?_)));(case side2=>exact HC0_0.out);(case side3=>repeat (first|exact (Kd.C_below HR0_1.out (by repeat (first|(with_reducible first|exact HB.out|apply qf|apply qa|apply qd|refine qg ?_ GE233.out)|exact HB.out)))|(with_reducible refine Kd.C_alloc ?_ _)|(with_reducible refine Kd.C_drewN ?_ _)|(with_reducible refine Kd.C_drew ?_)));(case side4=>exact HC0_1.out);rintro e w12 ⟨rfl,hb⟩;refine ⟨_,rfl,?_⟩;have n0_:=bb_ BK233 hb;have n1_:=hs_ HB hb;clear BK233;clear HB;have BK233:=n0_;have HB:=n1_;clear n0_ n1_;(try clear hb);(try clear hb2);(try clear hk);(try clear hi)))
      go_ret2
      exact ⟨by first|rfl|(simp [errW_none,errW_some] <;> rfl)|(simp [*,errW_none,errW_some] <;> rfl),by repeat (first|(with_reducible first|exact HB.out|apply qf|apply qa|apply qd|refine qg ?_ GE233.out)|exact HB.out)⟩
    · replace c6:=Bool.eq_false_iff.mpr c6
      subst c6
      have H1 : (some ((⟨#[]⟩ : ByteArray),false)) = some (r1,r2):=by rw [if_neg (show ¬ (false = true) by decide)] at H;exact H
      clear H
      have H:=H1
      clear H1
      simp only [Option.some.injEq,Prod.mk.injEq] at H
      obtain ⟨rfl,rfl⟩:=H
      go_enter Try.func24,Try.ntmps24
      go_wp2_with (first|((with_reducible refine gate_dst (N:=2) rfl ?_);(try (refine gate_guard (by rfl) ?_;dsimp only));refine box_event ?hg (N:=2) ?hd (cs:=#[.slice A0_0 l0_0.length c0_0,.slice A0_1 l0_1.length c0_1]) (t:=40) ?hr ?_;(case hd=>rfl);(case hg=>rfl);(case hr=>first|(go_simp;done)|(go_simp;rfl));intro gb233 hg w13 hbox hb;have n0_:=hs_ HB hb;have n1_:=qn.mk (hbox);have n2_:=qn.mk ((by rw [hg];exact (qj (by repeat (first|(with_reducible first|exact HB.out|apply qf|apply qa|apply qd)|exact HB.out))) : w.heap.size ≤ gb233));have n3_:=qn.mk ((by rw [hg];exact (qj (by repeat (first|(with_reducible first|exact HB.out|apply qf|apply qa|apply qd)|exact HB.out))) : w.heap.size ≤ gb233));clear HB;have HB:=n0_;have BK233:=n1_;have GW233:=n2_;have GE233:=n3_;clear n0_ n1_ n2_ n3_;clear hb hbox hg;have hcz14_0 : w13.cell? ⟨gb233,0,none⟩ = some (.slice A0_0 l0_0.length c0_0):=(qh BK233.out 0).trans rfl;have hcz14_1 : w13.cell? ⟨gb233,1,none⟩ = some (.slice A0_1 l0_1.length c0_1):=(qh BK233.out 1).trans rfl;have hfz14_0:=qi BK233.out 0;have hfz14_1:=qi BK233.out 1)|((with_reducible refine gate_callee (f:=23) rfl ?_);refine goesL_ (some 7) rfl rfl Try.func23 (by kernel_rfl) rfl #[.agg #[.slice A0_0 l0_0.length c0_0,.slice A0_1 l0_1.length c0_1]] rfl (by (try simp only [List.map_toArray,List.map_cons,List.map_nil]);first|done|rfl|(simp only [List.length_drop,List.length_take];rfl)) ?_;(with_reducible refine (impl_DeviceOk.calls k _ _ l0_0 _ _ l0_1 true _ ?side1 ?side2 ?side3 ?side4 A3.out).mono ?_);(case side1=>repeat (first|exact (Kd.C_below HR0_0.out HB.out)|(with_reducible refine Kd.C_alloc ?_ _)|(with_reducible refine Kd.C_drewN ?_ _)|(with_reducible refine Kd.C_drew ?_)));(case side2=>exact HC0_0.out);(case side3=>repeat (first|exact (Kd.C_below HR0_1.out HB.out)|(with_reducible refine Kd.C_alloc ?_ _)|(with_reducible refine Kd.C_drewN ?_ _)|(with_reducible refine Kd.C_drew ?_)));(case side4=>exact HC0_1.out);rintro e w15 ⟨rfl,hb⟩;refine ⟨_,rfl,?_⟩;have n0_:=bb_ BK233 hb;have n1_:=hs_ HB hb;clear BK233;clear HB;have BK233:=n0_;have HB:=n1_;clear n0_ n1_;(try clear hb);(try clear hb2);(try clear hk);(try clear hi);have hcz16_0 : w15.cell? ⟨gb233,0,none⟩ = some (.slice A0_0 l0_0.length c0_0):=(qh BK233.out 0).trans rfl;have hcz16_1 : w15.cell? ⟨gb233,1,none⟩ = some (.slice A0_1 l0_1.length c0_1):=(qh BK233.out 1).trans rfl;have hfz16_0:=qi BK233.out 0;have hfz16_1:=qi BK233.out 1)|(go_at_call 59;(with_reducible refine (impl_in.calls a1 0 (wrap64 ((l0_0.length : Int) - 1)) false _ A5.out).mono ?_);rintro e w' ⟨rfl,⟨nd,rfl⟩⟩))
      go_ret2
      exact ⟨by first|rfl|(simp [errW_none,errW_some] <;> rfl)|(simp [*,errW_none,errW_some] <;> rfl),by repeat (first|(with_reducible first|exact HB.out|apply qf|apply qa|apply qd|refine qg ?_ GE233.out)|exact HB.out)⟩
  · replace c4:=Bool.eq_false_iff.mpr c4
    subst c4
    have H1 : (some ((⟨#[]⟩ : ByteArray),false)) = some (r1,r2):=by rw [if_neg (show ¬ (false = true) by decide)] at H;exact H
    clear H
    have H:=H1
    clear H1
    simp only [Option.some.injEq,Prod.mk.injEq] at H
    obtain ⟨rfl,rfl⟩:=H
    go_enter Try.func24,Try.ntmps24
    go_wp2_with (first|((with_reducible refine gate_dst (N:=2) rfl ?_);(try (refine gate_guard (by rfl) ?_;dsimp only));refine box_event ?hg (N:=2) ?hd (cs:=#[.slice A0_0 l0_0.length c0_0,.slice A0_1 l0_1.length c0_1]) (t:=40) ?hr ?_;(case hd=>rfl);(case hg=>rfl);(case hr=>first|(go_simp;done)|(go_simp;rfl));intro gb233 hg w17 hbox hb;have n0_:=hs_ HB hb;have n1_:=qn.mk (hbox);have n2_:=qn.mk ((by rw [hg];exact (qj (by repeat (first|(with_reducible first|exact HB.out|apply qf|apply qa|apply qd)|exact HB.out))) : w.heap.size ≤ gb233));have n3_:=qn.mk ((by rw [hg];exact (qj (by repeat (first|(with_reducible first|exact HB.out|apply qf|apply qa|apply qd)|exact HB.out))) : w.heap.size ≤ gb233));clear HB;have HB:=n0_;have BK233:=n1_;have GW233:=n2_;have GE233:=n3_;clear n0_ n1_ n2_ n3_;clear hb hbox hg;have hcz18_0 : w17.cell? ⟨gb233,0,none⟩ = some (.slice A0_0 l0_0.length c0_0):=(qh BK233.out 0).trans rfl;have hcz18_1 : w17.cell? ⟨gb233,1,none⟩ = some (.slice A0_1 l0_1.length c0_1):=(qh BK233.out 1).trans rfl;have hfz18_0:=qi BK233.out 0;have hfz18_1:=qi BK233.out 1)|((with_reducible refine gate_callee (f:=23) rfl ?_);refine goesL_ (some 7) rfl rfl Try.func23 (by kernel_rfl) rfl #[.agg #[.slice A0_0 l0_0.length c0_0,.slice A0_1 l0_1.length c0_1]] rfl (by (try simp only [List.map_toArray,List.map_cons,List.map_nil]);first|done|rfl|(simp only [List.length_drop,List.length_take];rfl)) ?_;(with_reducible refine (impl_DeviceOk.calls k _ _ l0_0 _ _ l0_1 false _ ?side1 ?side2 ?side3 ?side4 A3.out).mono ?_);(case side1=>repeat (first|exact (Kd.C_below HR0_0.out HB.out)|(with_reducible refine Kd.C_alloc ?_ _)|(with_reducible refine Kd.C_drewN ?_ _)|(with_reducible refine Kd.C_drew ?_)));(case side2=>exact HC0_0.out);(case side3=>repeat (first|exact (Kd.C_below HR0_1.out HB.out)|(with_reducible refine Kd.C_alloc ?_ _)|(with_reducible refine Kd.C_drewN ?_ _)|(with_reducible refine Kd.C_drew ?_)));(case side4=>exact HC0_1.out);rintro e w19 ⟨rfl,hb⟩;refine ⟨_,rfl,?_⟩;have n0_:=bb_ BK233 hb;have n1_:=hs_ HB hb;clear BK233;clear HB;have BK233:=n0_;have HB:=n1_;clear n0_ n1_;(try clear hb);(try clear hb2);(try clear hk);(try clear hi)))
    go_ret2
    exact ⟨by first|rfl|(simp [errW_none,errW_some] <;> rfl)|(simp [*,errW_none,errW_some] <;> rfl),by repeat (first|(with_reducible first|exact HB.out|apply qf|apply qa|apply qd|refine qg ?_ GE233.out)|exact HB.out)⟩

end Go.Proofs.Ytfmemcffbfahhaa.QFnDevices
