/- Lean functions for the Go functions that the law FnCuts reaches, and that each Go function comes to just its Lean function's answer; by a program of this session. -/
import Derived.Test.YtfmemcffbfahhaaQFnCutsx0
import Derived.Test.YtfmemcffbfahhaaQFnCutsx1
import Derived.Test.YtfmemcffbfahhaaQFnCutsx2
import Derived.Test.YtfmemcffbfahhaaQFnCutsx4
import Derived.Test.YtfmemcffbfahhaaQFnCutsx5
import Derived.Test.YtfmemcffbfahhaaQFnCutsx6
namespace Go.Proofs.Ytfmemcffbfahhaa.QFnCuts
open Go.RowKit Go.Proofs.YtfmemcffbfahhaaW.PrintWords Go.Proofs.YtfmemcffbfahhaaW.PrintLast Go.Proofs.YtfmemcffbfahhaaW.PrintMore
attribute [local go_sem] max2_int min2_int max_two min_two max_three min_three max_four min_four   -- for this text's walks alone
set_option linter.unusedVariables false
set_option linter.unusedSimpArgs false

attribute [local go_sem high] eqA61
/-! ### laws_FnCuts: function 6 -/
mutual
def laws_FnCuts.l0 : Nat → Int → List (S61) → List (List (S61)) → Int → Int → Option (Bool)
  | 0, _, _, _, _, _ => none
  | k + 1, x3, x4, x5, x6, x7 => if x7 < (x5.length : Int) then (laws_FnCuts.l1 k x3 x4 x5 x6 x7 0 0) else (some (x6 == (x4.length : Int)))
def laws_FnCuts.l1 : Nat → Int → List (S61) → List (List (S61)) → Int → Int → Int → Int → Option (Bool)
  | 0, _, _, _, _, _, _, _ => none
  | k + 1, x3, x4, x5, x6, x7, x8, x9 => if 0 ≤ x7 then (if x7 < (x5.length : Int) then (if x9 < ((rd_L5 x5 x7).length : Int) then (if x6 ≥ (x4.length : Int) then (some false) else (if 0 ≤ x9 then (if 0 ≤ x6 then (if x6 < (x4.length : Int) then (if (!((((rd_T61 (rd_L5 x5 x7) x9).f0).toList) == (((rd_T61 x4 x6).f0).toList)) || (!((((rd_T61 (rd_L5 x5 x7) x9).f1).toList) == (((rd_T61 x4 x6).f1).toList)) || (!(((rd_T61 (rd_L5 x5 x7) x9).f2) == ((rd_T61 x4 x6).f2))))) = true then (some false) else ((spec_ItemSize.f k x3 ((rd_T61 x4 x6).f0) ((rd_T61 x4 x6).f1) ((rd_T61 x4 x6).f2)).bind fun t313 => (laws_FnCuts.l1 k x3 x4 x5 (wrap64 (x6 + 1)) x7 (wrap64 (x8 + t313)) (wrap64 (x9 + 1))))) else (none)) else (none)) else (none))) else (if ((rd_L5 x5 x7).length : Int) = 0 then (some false) else (if ((rd_L5 x5 x7).length : Int) > 1 then (if x8 > 54 then (some false) else (laws_FnCuts.l0 k x3 x4 x5 x6 (wrap64 (x7 + 1)))) else (laws_FnCuts.l0 k x3 x4 x5 x6 (wrap64 (x7 + 1)))))) else (none)) else (none)
end
def laws_FnCuts.f (k : Nat) (l0 : List Int) : Option (Bool) := (laws_big.f l0).bind fun t300 => (if t300 = true then (some true) else ((spec_DrawCutItems.f k l0).bind fun bt301 => ((impl_CutItems.f k bt301.1 bt301.2).bind fun t305 => (laws_FnCuts.l0 k bt301.1 bt301.2 t305 0 0))))
theorem laws_FnCuts.mono_l : ∀ k, (∀ y0 y1 y2 y3 y4, LeO (laws_FnCuts.l0 k y0 y1 y2 y3 y4) (laws_FnCuts.l0 (k + 1) y0 y1 y2 y3 y4)) ∧ (∀ y0 y1 y2 y3 y4 y5 y6, LeO (laws_FnCuts.l1 k y0 y1 y2 y3 y4 y5 y6) (laws_FnCuts.l1 (k + 1) y0 y1 y2 y3 y4 y5 y6))
  | 0 => ⟨fun _ _ _ _ _ r h => by simp [laws_FnCuts.l0] at h, fun _ _ _ _ _ _ _ r h => by simp [laws_FnCuts.l1] at h⟩
  | k + 1 => by
    obtain ⟨ih0, ih1⟩ := laws_FnCuts.mono_l k
    refine ⟨?_, ?_⟩
    · intro y0 y1 y2 y3 y4
      unfold laws_FnCuts.l0
      repeat' first
      | (with_reducible exact ih0 _ _ _ _ _)
      | (with_reducible exact ih1 _ _ _ _ _ _ _)
      | (with_reducible exact impl_CutItems.mono _ _ _)
      | (with_reducible exact spec_DrawCutItems.mono _ _)
      | (with_reducible exact spec_ItemSize.mono _ _ _ _ _)
      | (with_reducible exact LeO.refl _)
      | (with_reducible exact LeO.none _)
      | (with_reducible refine LeO.ite ?_ ?_)
      | (with_reducible refine LeO.bind ?_ (fun _ => ?_))
      | exact ih0 _ _ _ _ _
      | exact ih1 _ _ _ _ _ _ _
      | exact impl_CutItems.mono _ _ _
      | exact spec_DrawCutItems.mono _ _
      | exact spec_ItemSize.mono _ _ _ _ _
      | exact LeO.none _
      | refine LeO.ite ?_ ?_
      | refine LeO.bind ?_ (fun _ => ?_)
    · intro y0 y1 y2 y3 y4 y5 y6
      unfold laws_FnCuts.l1
      repeat' first
      | (with_reducible exact ih0 _ _ _ _ _)
      | (with_reducible exact ih1 _ _ _ _ _ _ _)
      | (with_reducible exact impl_CutItems.mono _ _ _)
      | (with_reducible exact spec_DrawCutItems.mono _ _)
      | (with_reducible exact spec_ItemSize.mono _ _ _ _ _)
      | (with_reducible exact LeO.refl _)
      | (with_reducible exact LeO.none _)
      | (with_reducible refine LeO.ite ?_ ?_)
      | (with_reducible refine LeO.bind ?_ (fun _ => ?_))
      | exact ih0 _ _ _ _ _
      | exact ih1 _ _ _ _ _ _ _
      | exact impl_CutItems.mono _ _ _
      | exact spec_DrawCutItems.mono _ _
      | exact spec_ItemSize.mono _ _ _ _ _
      | exact LeO.none _
      | refine LeO.ite ?_ ?_
      | refine LeO.bind ?_ (fun _ => ?_)
theorem laws_FnCuts.mono : ∀ a0 k, LeO (laws_FnCuts.f k a0) (laws_FnCuts.f (k + 1) a0) := by
  intro a0 k
  obtain ⟨ih0, ih1⟩ := laws_FnCuts.mono_l k
  unfold laws_FnCuts.f
  repeat' first
      | (with_reducible exact ih0 _ _ _ _ _)
      | (with_reducible exact ih1 _ _ _ _ _ _ _)
      | (with_reducible exact impl_CutItems.mono _ _ _)
      | (with_reducible exact spec_DrawCutItems.mono _ _)
      | (with_reducible exact spec_ItemSize.mono _ _ _ _ _)
      | (with_reducible exact LeO.refl _)
      | (with_reducible exact LeO.none _)
      | (with_reducible refine LeO.ite ?_ ?_)
      | (with_reducible refine LeO.bind ?_ (fun _ => ?_))
      | exact ih0 _ _ _ _ _
      | exact ih1 _ _ _ _ _ _ _
      | exact impl_CutItems.mono _ _ _
      | exact spec_DrawCutItems.mono _ _
      | exact spec_ItemSize.mono _ _ _ _ _
      | exact LeO.none _
      | refine LeO.ite ?_ ?_
      | refine LeO.bind ?_ (fun _ => ?_)
set_option maxHeartbeats 8000000 in
set_option maxRecDepth 100000 in
theorem laws_FnCuts.calls (k : Nat) (A0 : Option Addr) (c0 : Nat) (l0 : List Int) (r : Bool) (w : World) (hr0 : Kd.C (Kd.int .u8) w A0 l0.length l0) (hc0 : l0.length ≤ c0) (h : laws_FnCuts.f k l0 = some r) :
    Calls Try.prog 6 #[.slice A0 l0.length c0] w fun e w' => e = .returned (.bool r) ∧ Below w.heap.size w w' := by
  have hu61 := Try.underlying61
  have HR0 := Aside0.mk hr0
  have HC0 := Aside0.mk hc0
  clear hr0 hc0
  have HB := Aside0.mk (Below.refl w.heap.size w)
  have H : ((laws_big.f l0).bind fun t300 => (if t300 = true then (some true) else ((spec_DrawCutItems.f k l0).bind fun bt301 => ((impl_CutItems.f k bt301.1 bt301.2).bind fun t305 => (laws_FnCuts.l0 k bt301.1 bt301.2 t305 0 0))))) = some r := h
  clear h
  replace H := Option.bind_eq_some_iff.mp H
  obtain ⟨t300, A20, H⟩ := H
  replace H : (if t300 = true then (some true) else ((spec_DrawCutItems.f k l0).bind fun bt301 => ((impl_CutItems.f k bt301.1 bt301.2).bind fun t305 => (laws_FnCuts.l0 k bt301.1 bt301.2 t305 0 0)))) = some r := H
  have A2 := Aside0.mk A20
  clear A20
  by_cases c3 : t300 = true
  · subst c3
    have H1 : (some true) = some r := by rw [if_pos rfl] at H; exact H
    clear H
    have H := H1
    clear H1
    obtain rfl := Option.some.inj H
    go_enter Try.func6, Try.ntmps6
    go_wp2_with (first | (go_at_call 12; (with_reducible refine (laws_big.calls _ _ l0 true _ ?side1 ?side2 A2.out).mono ?_); (case side1 => repeat (first | exact HR0.out | (with_reducible refine Kd.C_alloc ?_ _) | (with_reducible refine Kd.C_drewN ?_ _) | (with_reducible refine Kd.C_drew ?_))); (case side2 => exact HC0.out); rintro e w' ⟨rfl, ⟨nd, rfl⟩⟩; (try first | exact ⟨rfl, _, World.drewN_drewN _ _ _⟩ | exact ⟨rfl, _, Eq.trans (World.drewN_drewN _ _ _) (congrArg (World.drewN _) (Nat.add_assoc _ _ _))⟩)))
    repeat (go_quiet (first | (go_at_call 12; (with_reducible refine (laws_big.calls _ _ l0 true _ ?side1 ?side2 A2.out).mono ?_); (case side1 => repeat (first | exact HR0.out | (with_reducible refine Kd.C_alloc ?_ _) | (with_reducible refine Kd.C_drewN ?_ _) | (with_reducible refine Kd.C_drew ?_))); (case side2 => exact HC0.out); rintro e w' ⟨rfl, ⟨nd, rfl⟩⟩; (try first | exact ⟨rfl, _, World.drewN_drewN _ _ _⟩ | exact ⟨rfl, _, Eq.trans (World.drewN_drewN _ _ _) (congrArg (World.drewN _) (Nat.add_assoc _ _ _))⟩))); try go_wp2_with (first | (go_at_call 12; (with_reducible refine (laws_big.calls _ _ l0 true _ ?side1 ?side2 A2.out).mono ?_); (case side1 => repeat (first | exact HR0.out | (with_reducible refine Kd.C_alloc ?_ _) | (with_reducible refine Kd.C_drewN ?_ _) | (with_reducible refine Kd.C_drew ?_))); (case side2 => exact HC0.out); rintro e w' ⟨rfl, ⟨nd, rfl⟩⟩; (try first | exact ⟨rfl, _, World.drewN_drewN _ _ _⟩ | exact ⟨rfl, _, Eq.trans (World.drewN_drewN _ _ _) (congrArg (World.drewN _) (Nat.add_assoc _ _ _))⟩))))
    go_ret
    exact ⟨by first | rfl | (simp [errW_none, errW_some] <;> rfl) | (simp [*, errW_none, errW_some] <;> rfl), by repeat (first | (with_reducible first | exact HB.out | apply below_alloc | apply pw_below_drewN | apply below_drew1) | exact HB.out)⟩
  · replace c3 := Bool.eq_false_iff.mpr c3
    subst c3
    have H1 : ((spec_DrawCutItems.f k l0).bind fun bt301 => ((impl_CutItems.f k bt301.1 bt301.2).bind fun t305 => (laws_FnCuts.l0 k bt301.1 bt301.2 t305 0 0))) = some r := by rw [if_neg (show ¬ (false = true) by decide)] at H; exact H
    clear H
    have H := H1
    clear H1
    replace H := Option.bind_eq_some_iff.mp H
    obtain ⟨⟨t301, t302⟩, A40, H⟩ := H
    replace H : ((impl_CutItems.f k t301 t302).bind fun t305 => (laws_FnCuts.l0 k t301 t302 t305 0 0)) = some r := H
    have A4 := Aside0.mk A40
    clear A40
    replace H := Option.bind_eq_some_iff.mp H
    obtain ⟨t305, A50, H⟩ := H
    replace H : (laws_FnCuts.l0 k t301 t302 t305 0 0) = some r := H
    have A5 := Aside0.mk A50
    clear A50
    have H' := Aside0.mk H
    clear H
    go_enter Try.func6, Try.ntmps6
    go_wp2_with (first | (go_at_call 12; (with_reducible refine (laws_big.calls _ _ l0 false _ ?side1 ?side2 A2.out).mono ?_); (case side1 => repeat (first | exact HR0.out | (with_reducible refine Kd.C_alloc ?_ _) | (with_reducible refine Kd.C_drewN ?_ _) | (with_reducible refine Kd.C_drew ?_))); (case side2 => exact HC0.out); rintro e w' ⟨rfl, ⟨nd, rfl⟩⟩; (try first | exact ⟨rfl, _, World.drewN_drewN _ _ _⟩ | exact ⟨rfl, _, Eq.trans (World.drewN_drewN _ _ _) (congrArg (World.drewN _) (Nat.add_assoc _ _ _))⟩)) | (go_at_call 30; (with_reducible refine (spec_DrawCutItems.calls k _ _ l0 t301 t302 _ ?side1 ?side2 A4.out).mono ?_); (case side1 => repeat (first | exact HR0.out | (with_reducible refine Kd.C_alloc ?_ _) | (with_reducible refine Kd.C_drewN ?_ _) | (with_reducible refine Kd.C_drew ?_))); (case side2 => exact HC0.out); rintro e w6 ⟨v303, rfl, ho0, hb⟩; have n0_ := Aside0.mk (Kd.R_lower ho0 (below_size (by repeat (first | (with_reducible first | exact HB.out | apply below_alloc | apply pw_below_drewN | apply below_drew1) | exact HB.out)))); have n1_ := Aside0.mk (below_step (by repeat (first | (with_reducible first | exact HB.out | apply below_alloc | apply pw_below_drewN | apply below_drew1) | exact HB.out)) hb); clear HB; have HO304 := n0_; have HB := n1_; clear n0_ n1_; (try clear hb); (try clear hb2); (try clear hk); (try clear hi); (try clear ho0); obtain ⟨Ao7, co7, eo7⟩ := Kd.R_slice HO304.out; subst eo7) | (go_at_call 31; (with_reducible refine (impl_CutItems.calls k t301 _ _ t302 t305 _ ?side1 ?side2 A5.out).mono ?_); (case side1 => repeat (first | exact (Kd.R_reads' HO304.out).2.2 | (with_reducible refine Kd.C_alloc ?_ _) | (with_reducible refine Kd.C_drewN ?_ _) | (with_reducible refine Kd.C_drew ?_))); (case side2 => exact (Kd.R_reads' HO304.out).2.1); rintro e w8 ⟨v306, rfl, ho0, hb⟩; have n0_ := Aside0.mk (Kd.R_below (by (with_reducible repeat (first | apply Kd.R_alloc | apply Kd.R_drewN | apply Kd.R_drew)); exact HO304.out) hb); have n1_ := Aside0.mk (Kd.S_lower (Kd.S_new' ho0 (Kd.R_lt (by (with_reducible repeat (first | apply Kd.R_alloc | apply Kd.R_drewN | apply Kd.R_drew)); exact HO304.out))) (below_size (by repeat (first | (with_reducible first | exact HB.out | apply below_alloc | apply pw_below_drewN | apply below_drew1) | exact HB.out)))); have n2_ := Aside0.mk (below_step (by repeat (first | (with_reducible first | exact HB.out | apply below_alloc | apply pw_below_drewN | apply below_drew1) | exact HB.out)) hb); clear HO304; clear HB; have HO304 := n0_; have HO307 := n1_; have HB := n2_; clear n0_ n1_ n2_; (try clear hb); (try clear hb2); (try clear hk); (try clear hi); (try clear ho0)))
    repeat (go_quiet (first | (go_at_call 12; (with_reducible refine (laws_big.calls _ _ l0 false _ ?side1 ?side2 A2.out).mono ?_); (case side1 => repeat (first | exact HR0.out | (with_reducible refine Kd.C_alloc ?_ _) | (with_reducible refine Kd.C_drewN ?_ _) | (with_reducible refine Kd.C_drew ?_))); (case side2 => exact HC0.out); rintro e w' ⟨rfl, ⟨nd, rfl⟩⟩; (try first | exact ⟨rfl, _, World.drewN_drewN _ _ _⟩ | exact ⟨rfl, _, Eq.trans (World.drewN_drewN _ _ _) (congrArg (World.drewN _) (Nat.add_assoc _ _ _))⟩)) | (go_at_call 30; (with_reducible refine (spec_DrawCutItems.calls k _ _ l0 t301 t302 _ ?side1 ?side2 A4.out).mono ?_); (case side1 => repeat (first | exact HR0.out | (with_reducible refine Kd.C_alloc ?_ _) | (with_reducible refine Kd.C_drewN ?_ _) | (with_reducible refine Kd.C_drew ?_))); (case side2 => exact HC0.out); rintro e w6 ⟨v303, rfl, ho0, hb⟩; have n0_ := Aside0.mk (Kd.R_lower ho0 (below_size (by repeat (first | (with_reducible first | exact HB.out | apply below_alloc | apply pw_below_drewN | apply below_drew1) | exact HB.out)))); have n1_ := Aside0.mk (below_step (by repeat (first | (with_reducible first | exact HB.out | apply below_alloc | apply pw_below_drewN | apply below_drew1) | exact HB.out)) hb); clear HB; have HO304 := n0_; have HB := n1_; clear n0_ n1_; (try clear hb); (try clear hb2); (try clear hk); (try clear hi); (try clear ho0); obtain ⟨Ao7, co7, eo7⟩ := Kd.R_slice HO304.out; subst eo7) | (go_at_call 31; (with_reducible refine (impl_CutItems.calls k t301 _ _ t302 t305 _ ?side1 ?side2 A5.out).mono ?_); (case side1 => repeat (first | exact (Kd.R_reads' HO304.out).2.2 | (with_reducible refine Kd.C_alloc ?_ _) | (with_reducible refine Kd.C_drewN ?_ _) | (with_reducible refine Kd.C_drew ?_))); (case side2 => exact (Kd.R_reads' HO304.out).2.1); rintro e w8 ⟨v306, rfl, ho0, hb⟩; have n0_ := Aside0.mk (Kd.R_below (by (with_reducible repeat (first | apply Kd.R_alloc | apply Kd.R_drewN | apply Kd.R_drew)); exact HO304.out) hb); have n1_ := Aside0.mk (Kd.S_lower (Kd.S_new' ho0 (Kd.R_lt (by (with_reducible repeat (first | apply Kd.R_alloc | apply Kd.R_drewN | apply Kd.R_drew)); exact HO304.out))) (below_size (by repeat (first | (with_reducible first | exact HB.out | apply below_alloc | apply pw_below_drewN | apply below_drew1) | exact HB.out)))); have n2_ := Aside0.mk (below_step (by repeat (first | (with_reducible first | exact HB.out | apply below_alloc | apply pw_below_drewN | apply below_drew1) | exact HB.out)) hb); clear HO304; clear HB; have HO304 := n0_; have HO307 := n1_; have HB := n2_; clear n0_ n1_ n2_; (try clear hb); (try clear hb2); (try clear hk); (try clear hi); (try clear ho0))); try go_wp2_with (first | (go_at_call 12; (with_reducible refine (laws_big.calls _ _ l0 false _ ?side1 ?side2 A2.out).mono ?_); (case side1 => repeat (first | exact HR0.out | (with_reducible refine Kd.C_alloc ?_ _) | (with_reducible refine Kd.C_drewN ?_ _) | (with_reducible refine Kd.C_drew ?_))); (case side2 => exact HC0.out); rintro e w' ⟨rfl, ⟨nd, rfl⟩⟩; (try first | exact ⟨rfl, _, World.drewN_drewN _ _ _⟩ | exact ⟨rfl, _, Eq.trans (World.drewN_drewN _ _ _) (congrArg (World.drewN _) (Nat.add_assoc _ _ _))⟩)) | (go_at_call 30; (with_reducible refine (spec_DrawCutItems.calls k _ _ l0 t301 t302 _ ?side1 ?side2 A4.out).mono ?_); (case side1 => repeat (first | exact HR0.out | (with_reducible refine Kd.C_alloc ?_ _) | (with_reducible refine Kd.C_drewN ?_ _) | (with_reducible refine Kd.C_drew ?_))); (case side2 => exact HC0.out); rintro e w6 ⟨v303, rfl, ho0, hb⟩; have n0_ := Aside0.mk (Kd.R_lower ho0 (below_size (by repeat (first | (with_reducible first | exact HB.out | apply below_alloc | apply pw_below_drewN | apply below_drew1) | exact HB.out)))); have n1_ := Aside0.mk (below_step (by repeat (first | (with_reducible first | exact HB.out | apply below_alloc | apply pw_below_drewN | apply below_drew1) | exact HB.out)) hb); clear HB; have HO304 := n0_; have HB := n1_; clear n0_ n1_; (try clear hb); (try clear hb2); (try clear hk); (try clear hi); (try clear ho0); obtain ⟨Ao7, co7, eo7⟩ := Kd.R_slice HO304.out; subst eo7) | (go_at_call 31; (with_reducible refine (impl_CutItems.calls k t301 _ _ t302 t305 _ ?side1 ?side2 A5.out).mono ?_); (case side1 => repeat (first | exact (Kd.R_reads' HO304.out).2.2 | (with_reducible refine Kd.C_alloc ?_ _) | (with_reducible refine Kd.C_drewN ?_ _) | (with_reducible refine Kd.C_drew ?_))); (case side2 => exact (Kd.R_reads' HO304.out).2.1); rintro e w8 ⟨v306, rfl, ho0, hb⟩; have n0_ := Aside0.mk (Kd.R_below (by (with_reducible repeat (first | apply Kd.R_alloc | apply Kd.R_drewN | apply Kd.R_drew)); exact HO304.out) hb); have n1_ := Aside0.mk (Kd.S_lower (Kd.S_new' ho0 (Kd.R_lt (by (with_reducible repeat (first | apply Kd.R_alloc | apply Kd.R_drewN | apply Kd.R_drew)); exact HO304.out))) (below_size (by repeat (first | (with_reducible first | exact HB.out | apply below_alloc | apply pw_below_drewN | apply below_drew1) | exact HB.out)))); have n2_ := Aside0.mk (below_step (by repeat (first | (with_reducible first | exact HB.out | apply below_alloc | apply pw_below_drewN | apply below_drew1) | exact HB.out)) hb); clear HO304; clear HB; have HO304 := n0_; have HO307 := n1_; have HB := n2_; clear n0_ n1_ n2_; (try clear hb); (try clear hb2); (try clear hk); (try clear hi); (try clear ho0))))
    go_loopg [6, 7] k (fun kq v6 v7 w' => ∃ (x6_1 : Int) (x7_1 : Int), v6 = .int .i64 x6_1 ∧ v7 = .int .i64 x7_1 ∧ Aside0 (laws_FnCuts.l0 kq t301 t302 t305 x6_1 x7_1 = some r) ∧ Aside0 (kq ≤ k) ∧ Aside0 (Kd.R k61 61 w' w.heap.size (fun _ => True) (.slice Ao7 t302.length co7) t302) ∧ Aside0 (Kd.S (Kd.slice 61 k61) 48 w' w.heap.size (fun k_ => some k_ ≠ ((.slice Ao7 t302.length co7) : Value).ownBlock) v306 t305) ∧ Aside0 (Below w.heap.size w w'))
    case atStart => exact ⟨(0), (0), (by first | rfl | (simp; done) | (simp [*]; done)), (by first | rfl | (simp; done) | (simp [*]; done)), H', ⟨Nat.le_refl _⟩, ⟨by (with_reducible repeat (first | apply Kd.R_alloc | apply Kd.R_drewN | apply Kd.R_drew)); exact HO304.out⟩, ⟨by (with_reducible repeat (first | apply Kd.S_alloc | apply Kd.S_drewN | apply Kd.S_drew)); exact Kd.S_mono HO307.out (fun _ hk => hk.2)⟩, ⟨by repeat (first | (with_reducible first | exact HB.out | apply below_alloc | apply pw_below_drewN | apply below_drew1) | exact HB.out)⟩⟩
    case round =>
      clear H'
      try clear p2
      try clear c3
      try clear c6
      obtain ⟨x6_1, x7_1, rfl, rfl, HA, HK1, HO_4, HO_5, HB⟩ := hrel
      cases gk with
      | zero => exact absurd HA.out (by simp [laws_FnCuts.l0])
      | succ k1 =>
        have H := HA.out
        clear HA
        simp only [laws_FnCuts.l0] at H
        by_cases c9 : x7_1 < (t305.length : Int)
        · rw [if_pos c9] at H
          have c9b0 : decide (x7_1 < (t305.length : Int)) = true := decide_eq_true c9
          clear c9
          have H' := Aside0.mk H
          clear H
          obtain ⟨Ao10, co10, eo10⟩ := Kd.S_slice HO_5.out
          subst eo10
          go_wp2
          repeat (go_quiet (fail); try go_wp2)
          go_loopg [6, 8, 9] k1 (fun kq v6 v8 v9 w' => ∃ (x6_2 : Int) (x8_2 : Int) (x9_2 : Int), v6 = .int .i64 x6_2 ∧ v8 = .int .i64 x8_2 ∧ v9 = .int .i64 x9_2 ∧ Aside0 (laws_FnCuts.l1 kq t301 t302 t305 x6_2 x7_1 x8_2 x9_2 = some r) ∧ Aside0 (kq ≤ k1) ∧ Aside0 (Kd.R k61 61 w' w.heap.size (fun _ => True) (.slice Ao7 t302.length co7) t302) ∧ Aside0 (Kd.S (Kd.slice 61 k61) 48 w' w.heap.size (fun k_ => some k_ ≠ ((.slice Ao7 t302.length co7) : Value).ownBlock) (.slice Ao10 t305.length co10) t305) ∧ Aside0 (Below w.heap.size w w'))
          case atStart => exact ⟨(x6_1), (0), (0), (by first | rfl | (simp; done) | (simp [*]; done)), (by first | rfl | (simp; done) | (simp [*]; done)), (by first | rfl | (simp; done) | (simp [*]; done)), H', ⟨Nat.le_refl _⟩, ⟨by (with_reducible repeat (first | apply Kd.R_alloc | apply Kd.R_drewN | apply Kd.R_drew)); exact HO_4.out⟩, ⟨by (with_reducible repeat (first | apply Kd.S_alloc | apply Kd.S_drewN | apply Kd.S_drew)); exact HO_5.out⟩, ⟨by repeat (first | (with_reducible first | exact HB.out | apply below_alloc | apply pw_below_drewN | apply below_drew1) | exact HB.out)⟩⟩
          case round =>
            clear H'
            try clear p2
            try clear c3
            try clear c6
            try clear c9
            try clear c9b0
            try clear p2
            obtain ⟨x6_2, x8_2, x9_2, rfl, rfl, rfl, HA, HK2, HO_4, HO_5, HB⟩ := hrel
            cases gk with
            | zero => exact absurd HA.out (by simp [laws_FnCuts.l1])
            | succ k2 =>
              have H := HA.out
              clear HA
              simp only [laws_FnCuts.l1] at H
              by_cases c11 : 0 ≤ x7_1
              · rw [if_pos c11] at H
                have c11b0 : decide (0 ≤ x7_1) = true := decide_eq_true c11
                clear c11
                by_cases c12 : x7_1 < (t305.length : Int)
                · rw [if_pos c12] at H
                  have c12b0 : decide (x7_1 < (t305.length : Int)) = true := decide_eq_true c12
                  clear c12
                  by_cases c13 : x9_2 < ((rd_L5 t305 x7_1).length : Int)
                  · rw [if_pos c13] at H
                    have c13b0 : decide (x9_2 < ((rd_L5 t305 x7_1).length : Int)) = true := decide_eq_true c13
                    clear c13
                    by_cases c14 : x6_2 ≥ (t302.length : Int)
                    · rw [if_pos c14] at H
                      have c14b0 : decide ((t302.length : Int) ≤ x6_2) = true := decide_eq_true c14
                      clear c14
                      obtain rfl := Option.some.inj H
                      have p308 : 0 ≤ (x7_1 : Int) := of_decide_eq_true (by first | (with_reducible assumption) | assumption)
                      have q308 : x7_1 < (t305.length : Int) := of_decide_eq_true (by first | (with_reducible assumption) | assumption)
                      obtain ⟨ad308, A308_0, c308_0, e308, hx308_0, hl308_0, hi308_0⟩ := at_L5 (Kd.S_reads' HO_5.out).2.2 x7_1 p308 q308
                      cases e308
                      obtain ⟨ce308, hce308, hMe308, hcc308⟩ := Kd.S_get HO_5.out [] x7_1 p308 (by first | exact q308 | exact of_decide_eq_true (by first | (with_reducible assumption) | assumption) | (have e_ := (Kd.S_reads' HO_5.out).1; omega))
                      obtain ⟨ve308_0, rfl, ge308_0⟩ := hMe308
                      have hv308_0 := hcc308 0 _ rfl
                      rw [Nat.add_zero, show ((Kd.slice 61 k61)).sz = 1 from rfl, Nat.mul_one] at hv308_0
                      replace hv308_0 := Option.some.inj (hv308_0.symm.trans hx308_0)
                      rw [hv308_0] at ge308_0
                      have HL308_0 := Aside0.mk (show Kd.R k61 61 _ _ _ _ (rd_L5 t305 x7_1) from ge308_0)
                      clear hv308_0 ge308_0
                      clear hcc308 hce308
                      have HR308_0 := Aside0.mk hi308_0
                      have HC308_0 := Aside0.mk hl308_0
                      clear hi308_0 hl308_0
                      replace p308 := eq_true p308
                      replace q308 := eq_true q308
                      go_wp2
                      repeat (go_quiet (fail); try go_wp2)
                      go_ret
                      exact ⟨by first | rfl | (simp [errW_none, errW_some] <;> rfl) | (simp [*, errW_none, errW_some] <;> rfl), by repeat (first | (with_reducible first | exact HB.out | apply below_alloc | apply pw_below_drewN | apply below_drew1) | exact HB.out)⟩
                    · rw [if_neg c14] at H
                      have c14b0 : decide ((t302.length : Int) ≤ x6_2) = false := decide_eq_false c14
                      clear c14
                      by_cases c15 : 0 ≤ x9_2
                      · rw [if_pos c15] at H
                        have c15b0 : decide (0 ≤ x9_2) = true := decide_eq_true c15
                        clear c15
                        by_cases c16 : 0 ≤ x6_2
                        · rw [if_pos c16] at H
                          have c16b0 : decide (0 ≤ x6_2) = true := decide_eq_true c16
                          clear c16
                          by_cases c17 : x6_2 < (t302.length : Int)
                          · rw [if_pos c17] at H
                            have c17b0 : decide (x6_2 < (t302.length : Int)) = true := decide_eq_true c17
                            clear c17
                            by_cases c18 : (!((((rd_T61 (rd_L5 t305 x7_1) x9_2).f0).toList) == (((rd_T61 t302 x6_2).f0).toList)) || (!((((rd_T61 (rd_L5 t305 x7_1) x9_2).f1).toList) == (((rd_T61 t302 x6_2).f1).toList)) || (!(((rd_T61 (rd_L5 t305 x7_1) x9_2).f2) == ((rd_T61 t302 x6_2).f2))))) = true
                            · rw [if_pos c18] at H
                              have c18b0 : (!((((rd_T61 (rd_L5 t305 x7_1) x9_2).f0).toList) == (((rd_T61 t302 x6_2).f0).toList)) || (!((((rd_T61 (rd_L5 t305 x7_1) x9_2).f1).toList) == (((rd_T61 t302 x6_2).f1).toList)) || (!(((rd_T61 (rd_L5 t305 x7_1) x9_2).f2) == ((rd_T61 t302 x6_2).f2))))) = true := c18
                              clear c18
                              obtain rfl := Option.some.inj H
                              have p308 : 0 ≤ (x7_1 : Int) := of_decide_eq_true (by first | (with_reducible assumption) | assumption)
                              have q308 : x7_1 < (t305.length : Int) := of_decide_eq_true (by first | (with_reducible assumption) | assumption)
                              obtain ⟨ad308, A308_0, c308_0, e308, hx308_0, hl308_0, hi308_0⟩ := at_L5 (Kd.S_reads' HO_5.out).2.2 x7_1 p308 q308
                              cases e308
                              obtain ⟨ce308, hce308, hMe308, hcc308⟩ := Kd.S_get HO_5.out [] x7_1 p308 (by first | exact q308 | exact of_decide_eq_true (by first | (with_reducible assumption) | assumption) | (have e_ := (Kd.S_reads' HO_5.out).1; omega))
                              obtain ⟨ve308_0, rfl, ge308_0⟩ := hMe308
                              have hv308_0 := hcc308 0 _ rfl
                              rw [Nat.add_zero, show ((Kd.slice 61 k61)).sz = 1 from rfl, Nat.mul_one] at hv308_0
                              replace hv308_0 := Option.some.inj (hv308_0.symm.trans hx308_0)
                              rw [hv308_0] at ge308_0
                              have HL308_0 := Aside0.mk (show Kd.R k61 61 _ _ _ _ (rd_L5 t305 x7_1) from ge308_0)
                              clear hv308_0 ge308_0
                              clear hcc308 hce308
                              have HR308_0 := Aside0.mk hi308_0
                              have HC308_0 := Aside0.mk hl308_0
                              clear hi308_0 hl308_0
                              replace p308 := eq_true p308
                              replace q308 := eq_true q308
                              have p309 : 0 ≤ (x7_1 : Int) := of_decide_eq_true (by first | (with_reducible assumption) | assumption)
                              have q309 : x7_1 < (t305.length : Int) := of_decide_eq_true (by first | (with_reducible assumption) | assumption)
                              obtain ⟨ad309, A309_0, c309_0, e309, hx309_0, hl309_0, hi309_0⟩ := at_L5 (Kd.S_reads' HO_5.out).2.2 x7_1 p309 q309
                              obtain rfl : ad308 = ad309 := (by injection e309)
                              obtain ⟨ce309, hce309, hMe309, hcc309⟩ := Kd.S_get HO_5.out [] x7_1 p309 (by first | exact q309 | exact of_decide_eq_true (by first | (with_reducible assumption) | assumption) | (have e_ := (Kd.S_reads' HO_5.out).1; omega))
                              obtain ⟨ve309_0, rfl, ge309_0⟩ := hMe309
                              have hv309_0 := hcc309 0 _ rfl
                              rw [Nat.add_zero, show ((Kd.slice 61 k61)).sz = 1 from rfl, Nat.mul_one] at hv309_0
                              replace hv309_0 := Option.some.inj (hv309_0.symm.trans hx309_0)
                              rw [hv309_0] at ge309_0
                              have HL309_0 := Aside0.mk (show Kd.R k61 61 _ _ _ _ (rd_L5 t305 x7_1) from ge309_0)
                              clear hv309_0 ge309_0
                              clear hcc309 hce309
                              have HR309_0 := Aside0.mk hi309_0
                              have HC309_0 := Aside0.mk hl309_0
                              clear hi309_0 hl309_0
                              replace p309 := eq_true p309
                              replace q309 := eq_true q309
                              have ea_ := Option.some.inj (hx308_0.symm.trans hx309_0)
                              injection ea_ with ea_ en_ ec_
                              subst ea_
                              subst ec_
                              clear en_
                              have p310 : 0 ≤ (x9_2 : Int) := of_decide_eq_true (by first | (with_reducible assumption) | assumption)
                              have q310 : x9_2 < ((rd_L5 t305 x7_1).length : Int) := of_decide_eq_true (by first | (with_reducible assumption) | assumption)
                              obtain ⟨ad310, e310, hx310_0, hx310_1, hx310_2⟩ := at_T61 (by repeat (first | (with_reducible exact HR309_0.out) | (with_reducible refine Kd.C_alloc ?_ _) | (with_reducible refine Kd.C_drewN ?_ _) | (with_reducible refine Kd.C_drew ?_) | exact HR309_0.out)) x9_2 p310 q310
                              cases e310
                              replace p310 := eq_true p310
                              replace q310 := eq_true q310
                              have p311 : 0 ≤ (x6_2 : Int) := of_decide_eq_true (by first | (with_reducible assumption) | assumption)
                              have q311 : x6_2 < (t302.length : Int) := of_decide_eq_true (by first | (with_reducible assumption) | assumption)
                              obtain ⟨ad311, e311, hx311_0, hx311_1, hx311_2⟩ := at_T61 (Kd.R_reads' HO_4.out).2.2 x6_2 p311 q311
                              cases e311
                              replace p311 := eq_true p311
                              replace q311 := eq_true q311
                              go_wp2
                              repeat (go_quiet (fail); try go_wp2)
                              go_ret
                              exact ⟨by first | rfl | (simp [errW_none, errW_some] <;> rfl) | (simp [*, errW_none, errW_some] <;> rfl), by repeat (first | (with_reducible first | exact HB.out | apply below_alloc | apply pw_below_drewN | apply below_drew1) | exact HB.out)⟩
                            · rw [if_neg c18] at H
                              have c18b0 : (!((((rd_T61 (rd_L5 t305 x7_1) x9_2).f0).toList) == (((rd_T61 t302 x6_2).f0).toList)) || (!((((rd_T61 (rd_L5 t305 x7_1) x9_2).f1).toList) == (((rd_T61 t302 x6_2).f1).toList)) || (!(((rd_T61 (rd_L5 t305 x7_1) x9_2).f2) == ((rd_T61 t302 x6_2).f2))))) = false := by simpa using c18
                              clear c18
                              replace H := Option.bind_eq_some_iff.mp H
                              obtain ⟨t313, A190, H⟩ := H
                              replace H : (laws_FnCuts.l1 k2 t301 t302 t305 (wrap64 (x6_2 + 1)) x7_1 (wrap64 (x8_2 + t313)) (wrap64 (x9_2 + 1))) = some r := H
                              have A19 := Aside0.mk A190
                              clear A190
                              have H' := Aside0.mk H
                              clear H
                              have p308 : 0 ≤ (x7_1 : Int) := of_decide_eq_true (by first | (with_reducible assumption) | assumption)
                              have q308 : x7_1 < (t305.length : Int) := of_decide_eq_true (by first | (with_reducible assumption) | assumption)
                              obtain ⟨ad308, A308_0, c308_0, e308, hx308_0, hl308_0, hi308_0⟩ := at_L5 (Kd.S_reads' HO_5.out).2.2 x7_1 p308 q308
                              cases e308
                              obtain ⟨ce308, hce308, hMe308, hcc308⟩ := Kd.S_get HO_5.out [] x7_1 p308 (by first | exact q308 | exact of_decide_eq_true (by first | (with_reducible assumption) | assumption) | (have e_ := (Kd.S_reads' HO_5.out).1; omega))
                              obtain ⟨ve308_0, rfl, ge308_0⟩ := hMe308
                              have hv308_0 := hcc308 0 _ rfl
                              rw [Nat.add_zero, show ((Kd.slice 61 k61)).sz = 1 from rfl, Nat.mul_one] at hv308_0
                              replace hv308_0 := Option.some.inj (hv308_0.symm.trans hx308_0)
                              rw [hv308_0] at ge308_0
                              have HL308_0 := Aside0.mk (show Kd.R k61 61 _ _ _ _ (rd_L5 t305 x7_1) from ge308_0)
                              clear hv308_0 ge308_0
                              clear hcc308 hce308
                              have HR308_0 := Aside0.mk hi308_0
                              have HC308_0 := Aside0.mk hl308_0
                              clear hi308_0 hl308_0
                              replace p308 := eq_true p308
                              replace q308 := eq_true q308
                              have p309 : 0 ≤ (x7_1 : Int) := of_decide_eq_true (by first | (with_reducible assumption) | assumption)
                              have q309 : x7_1 < (t305.length : Int) := of_decide_eq_true (by first | (with_reducible assumption) | assumption)
                              obtain ⟨ad309, A309_0, c309_0, e309, hx309_0, hl309_0, hi309_0⟩ := at_L5 (Kd.S_reads' HO_5.out).2.2 x7_1 p309 q309
                              obtain rfl : ad308 = ad309 := (by injection e309)
                              obtain ⟨ce309, hce309, hMe309, hcc309⟩ := Kd.S_get HO_5.out [] x7_1 p309 (by first | exact q309 | exact of_decide_eq_true (by first | (with_reducible assumption) | assumption) | (have e_ := (Kd.S_reads' HO_5.out).1; omega))
                              obtain ⟨ve309_0, rfl, ge309_0⟩ := hMe309
                              have hv309_0 := hcc309 0 _ rfl
                              rw [Nat.add_zero, show ((Kd.slice 61 k61)).sz = 1 from rfl, Nat.mul_one] at hv309_0
                              replace hv309_0 := Option.some.inj (hv309_0.symm.trans hx309_0)
                              rw [hv309_0] at ge309_0
                              have HL309_0 := Aside0.mk (show Kd.R k61 61 _ _ _ _ (rd_L5 t305 x7_1) from ge309_0)
                              clear hv309_0 ge309_0
                              clear hcc309 hce309
                              have HR309_0 := Aside0.mk hi309_0
                              have HC309_0 := Aside0.mk hl309_0
                              clear hi309_0 hl309_0
                              replace p309 := eq_true p309
                              replace q309 := eq_true q309
                              have ea_ := Option.some.inj (hx308_0.symm.trans hx309_0)
                              injection ea_ with ea_ en_ ec_
                              subst ea_
                              subst ec_
                              clear en_
                              have p310 : 0 ≤ (x9_2 : Int) := of_decide_eq_true (by first | (with_reducible assumption) | assumption)
                              have q310 : x9_2 < ((rd_L5 t305 x7_1).length : Int) := of_decide_eq_true (by first | (with_reducible assumption) | assumption)
                              obtain ⟨ad310, e310, hx310_0, hx310_1, hx310_2⟩ := at_T61 (by repeat (first | (with_reducible exact HR309_0.out) | (with_reducible refine Kd.C_alloc ?_ _) | (with_reducible refine Kd.C_drewN ?_ _) | (with_reducible refine Kd.C_drew ?_) | exact HR309_0.out)) x9_2 p310 q310
                              cases e310
                              replace p310 := eq_true p310
                              replace q310 := eq_true q310
                              have p311 : 0 ≤ (x6_2 : Int) := of_decide_eq_true (by first | (with_reducible assumption) | assumption)
                              have q311 : x6_2 < (t302.length : Int) := of_decide_eq_true (by first | (with_reducible assumption) | assumption)
                              obtain ⟨ad311, e311, hx311_0, hx311_1, hx311_2⟩ := at_T61 (Kd.R_reads' HO_4.out).2.2 x6_2 p311 q311
                              cases e311
                              replace p311 := eq_true p311
                              replace q311 := eq_true q311
                              have p312 : 0 ≤ (x6_2 : Int) := of_decide_eq_true (by first | (with_reducible assumption) | assumption)
                              have q312 : x6_2 < (t302.length : Int) := of_decide_eq_true (by first | (with_reducible assumption) | assumption)
                              obtain ⟨ad312, e312, hx312_0, hx312_1, hx312_2⟩ := at_T61 (Kd.R_reads' HO_4.out).2.2 x6_2 p312 q312
                              obtain rfl : ad311 = ad312 := (by injection e312)
                              replace p312 := eq_true p312
                              replace q312 := eq_true q312
                              go_wp2_with (first | (go_at_call 32; (with_reducible refine (spec_ItemSize.calls k2 t301 ((rd_T61 t302 x6_2).f0) ((rd_T61 t302 x6_2).f1) ((rd_T61 t302 x6_2).f2) t313 _ A19.out).mono ?_); rintro e w20 ⟨rfl, hb⟩; have n0_ := Aside0.mk (Kd.R_below (by (with_reducible repeat (first | apply Kd.R_alloc | apply Kd.R_drewN | apply Kd.R_drew)); exact HO_4.out) hb); have n1_ := Aside0.mk (Kd.S_below (by (with_reducible repeat (first | apply Kd.S_alloc | apply Kd.S_drewN | apply Kd.S_drew)); exact HO_5.out) hb); have n2_ := Aside0.mk (Kd.R_below (by (with_reducible repeat (first | apply Kd.R_alloc | apply Kd.R_drewN | apply Kd.R_drew)); exact HL308_0.out) hb); have n3_ := Aside0.mk (Kd.R_below (by (with_reducible repeat (first | apply Kd.R_alloc | apply Kd.R_drewN | apply Kd.R_drew)); exact HL309_0.out) hb); have n4_ := Aside0.mk (Kd.C_below (by repeat (first | (with_reducible exact HR308_0.out) | (with_reducible refine Kd.C_alloc ?_ _) | (with_reducible refine Kd.C_drewN ?_ _) | (with_reducible refine Kd.C_drew ?_) | exact HR308_0.out)) hb); have n5_ := Aside0.mk (Kd.C_below (by repeat (first | (with_reducible exact HR309_0.out) | (with_reducible refine Kd.C_alloc ?_ _) | (with_reducible refine Kd.C_drewN ?_ _) | (with_reducible refine Kd.C_drew ?_) | exact HR309_0.out)) hb); have n6_ := Aside0.mk (below_step (by repeat (first | (with_reducible first | exact HB.out | apply below_alloc | apply pw_below_drewN | apply below_drew1) | exact HB.out)) hb); clear HO_4; clear HO_5; clear HL308_0; clear HL309_0; clear HR308_0; clear HR309_0; clear HB; have HO_4 := n0_; have HO_5 := n1_; have HL308_0 := n2_; have HL309_0 := n3_; have HR308_0 := n4_; have HR309_0 := n5_; have HB := n6_; clear n0_ n1_ n2_ n3_ n4_ n5_ n6_; (try clear hb); (try clear hb2); (try clear hk); (try clear hi)))
                              repeat (go_quiet (first | (go_at_call 32; (with_reducible refine (spec_ItemSize.calls k2 t301 ((rd_T61 t302 x6_2).f0) ((rd_T61 t302 x6_2).f1) ((rd_T61 t302 x6_2).f2) t313 _ A19.out).mono ?_); rintro e w20 ⟨rfl, hb⟩; have n0_ := Aside0.mk (Kd.R_below (by (with_reducible repeat (first | apply Kd.R_alloc | apply Kd.R_drewN | apply Kd.R_drew)); exact HO_4.out) hb); have n1_ := Aside0.mk (Kd.S_below (by (with_reducible repeat (first | apply Kd.S_alloc | apply Kd.S_drewN | apply Kd.S_drew)); exact HO_5.out) hb); have n2_ := Aside0.mk (Kd.R_below (by (with_reducible repeat (first | apply Kd.R_alloc | apply Kd.R_drewN | apply Kd.R_drew)); exact HL308_0.out) hb); have n3_ := Aside0.mk (Kd.R_below (by (with_reducible repeat (first | apply Kd.R_alloc | apply Kd.R_drewN | apply Kd.R_drew)); exact HL309_0.out) hb); have n4_ := Aside0.mk (Kd.C_below (by repeat (first | (with_reducible exact HR308_0.out) | (with_reducible refine Kd.C_alloc ?_ _) | (with_reducible refine Kd.C_drewN ?_ _) | (with_reducible refine Kd.C_drew ?_) | exact HR308_0.out)) hb); have n5_ := Aside0.mk (Kd.C_below (by repeat (first | (with_reducible exact HR309_0.out) | (with_reducible refine Kd.C_alloc ?_ _) | (with_reducible refine Kd.C_drewN ?_ _) | (with_reducible refine Kd.C_drew ?_) | exact HR309_0.out)) hb); have n6_ := Aside0.mk (below_step (by repeat (first | (with_reducible first | exact HB.out | apply below_alloc | apply pw_below_drewN | apply below_drew1) | exact HB.out)) hb); clear HO_4; clear HO_5; clear HL308_0; clear HL309_0; clear HR308_0; clear HR309_0; clear HB; have HO_4 := n0_; have HO_5 := n1_; have HL308_0 := n2_; have HL309_0 := n3_; have HR308_0 := n4_; have HR309_0 := n5_; have HB := n6_; clear n0_ n1_ n2_ n3_ n4_ n5_ n6_; (try clear hb); (try clear hb2); (try clear hk); (try clear hi))); try go_wp2_with (first | (go_at_call 32; (with_reducible refine (spec_ItemSize.calls k2 t301 ((rd_T61 t302 x6_2).f0) ((rd_T61 t302 x6_2).f1) ((rd_T61 t302 x6_2).f2) t313 _ A19.out).mono ?_); rintro e w20 ⟨rfl, hb⟩; have n0_ := Aside0.mk (Kd.R_below (by (with_reducible repeat (first | apply Kd.R_alloc | apply Kd.R_drewN | apply Kd.R_drew)); exact HO_4.out) hb); have n1_ := Aside0.mk (Kd.S_below (by (with_reducible repeat (first | apply Kd.S_alloc | apply Kd.S_drewN | apply Kd.S_drew)); exact HO_5.out) hb); have n2_ := Aside0.mk (Kd.R_below (by (with_reducible repeat (first | apply Kd.R_alloc | apply Kd.R_drewN | apply Kd.R_drew)); exact HL308_0.out) hb); have n3_ := Aside0.mk (Kd.R_below (by (with_reducible repeat (first | apply Kd.R_alloc | apply Kd.R_drewN | apply Kd.R_drew)); exact HL309_0.out) hb); have n4_ := Aside0.mk (Kd.C_below (by repeat (first | (with_reducible exact HR308_0.out) | (with_reducible refine Kd.C_alloc ?_ _) | (with_reducible refine Kd.C_drewN ?_ _) | (with_reducible refine Kd.C_drew ?_) | exact HR308_0.out)) hb); have n5_ := Aside0.mk (Kd.C_below (by repeat (first | (with_reducible exact HR309_0.out) | (with_reducible refine Kd.C_alloc ?_ _) | (with_reducible refine Kd.C_drewN ?_ _) | (with_reducible refine Kd.C_drew ?_) | exact HR309_0.out)) hb); have n6_ := Aside0.mk (below_step (by repeat (first | (with_reducible first | exact HB.out | apply below_alloc | apply pw_below_drewN | apply below_drew1) | exact HB.out)) hb); clear HO_4; clear HO_5; clear HL308_0; clear HL309_0; clear HR308_0; clear HR309_0; clear HB; have HO_4 := n0_; have HO_5 := n1_; have HL308_0 := n2_; have HL309_0 := n3_; have HR308_0 := n4_; have HR309_0 := n5_; have HB := n6_; clear n0_ n1_ n2_ n3_ n4_ n5_ n6_; (try clear hb); (try clear hb2); (try clear hk); (try clear hi))))
                              go_roundg k2
                              case measure => have := HK1.out; have := HK2.out; omega
                              case rel => exact ⟨(wrap64 (x6_2 + 1)), (wrap64 (x8_2 + t313)), (wrap64 (x9_2 + 1)), (by first | rfl | (simp; done) | (simp [*]; done)), (by first | rfl | (simp; done) | (simp [*]; done)), (by first | rfl | (simp; done) | (simp [*]; done)), H', ⟨by have := HK1.out; have := HK2.out; omega⟩, ⟨by (with_reducible repeat (first | apply Kd.R_alloc | apply Kd.R_drewN | apply Kd.R_drew)); exact HO_4.out⟩, ⟨by (with_reducible repeat (first | apply Kd.S_alloc | apply Kd.S_drewN | apply Kd.S_drew)); exact HO_5.out⟩, ⟨by repeat (first | (with_reducible first | exact HB.out | apply below_alloc | apply pw_below_drewN | apply below_drew1) | exact HB.out)⟩⟩
                          · rw [if_neg c17] at H
                            exact absurd H (by simp)
                        · rw [if_neg c16] at H
                          exact absurd H (by simp)
                      · rw [if_neg c15] at H
                        exact absurd H (by simp)
                  · rw [if_neg c13] at H
                    have c13b0 : decide (x9_2 < ((rd_L5 t305 x7_1).length : Int)) = false := decide_eq_false c13
                    clear c13
                    by_cases c21 : ((rd_L5 t305 x7_1).length : Int) = 0
                    · rw [if_pos c21] at H
                      have c21b0 : (((rd_L5 t305 x7_1).length : Int) == 0) = true := beq_iff_eq.mpr c21
                      have c21b1 : (((rd_L5 t305 x7_1).length : Int) != 0) = false := bne_eq_false_iff_eq.mpr c21
                      clear c21
                      obtain rfl := Option.some.inj H
                      have p308 : 0 ≤ (x7_1 : Int) := of_decide_eq_true (by first | (with_reducible assumption) | assumption)
                      have q308 : x7_1 < (t305.length : Int) := of_decide_eq_true (by first | (with_reducible assumption) | assumption)
                      obtain ⟨ad308, A308_0, c308_0, e308, hx308_0, hl308_0, hi308_0⟩ := at_L5 (Kd.S_reads' HO_5.out).2.2 x7_1 p308 q308
                      cases e308
                      obtain ⟨ce308, hce308, hMe308, hcc308⟩ := Kd.S_get HO_5.out [] x7_1 p308 (by first | exact q308 | exact of_decide_eq_true (by first | (with_reducible assumption) | assumption) | (have e_ := (Kd.S_reads' HO_5.out).1; omega))
                      obtain ⟨ve308_0, rfl, ge308_0⟩ := hMe308
                      have hv308_0 := hcc308 0 _ rfl
                      rw [Nat.add_zero, show ((Kd.slice 61 k61)).sz = 1 from rfl, Nat.mul_one] at hv308_0
                      replace hv308_0 := Option.some.inj (hv308_0.symm.trans hx308_0)
                      rw [hv308_0] at ge308_0
                      have HL308_0 := Aside0.mk (show Kd.R k61 61 _ _ _ _ (rd_L5 t305 x7_1) from ge308_0)
                      clear hv308_0 ge308_0
                      clear hcc308 hce308
                      have HR308_0 := Aside0.mk hi308_0
                      have HC308_0 := Aside0.mk hl308_0
                      clear hi308_0 hl308_0
                      replace p308 := eq_true p308
                      replace q308 := eq_true q308
                      have p314 : 0 ≤ (x7_1 : Int) := of_decide_eq_true (by first | (with_reducible assumption) | assumption)
                      have q314 : x7_1 < (t305.length : Int) := of_decide_eq_true (by first | (with_reducible assumption) | assumption)
                      obtain ⟨ad314, A314_0, c314_0, e314, hx314_0, hl314_0, hi314_0⟩ := at_L5 (Kd.S_reads' HO_5.out).2.2 x7_1 p314 q314
                      obtain rfl : ad308 = ad314 := (by injection e314)
                      obtain ⟨ce314, hce314, hMe314, hcc314⟩ := Kd.S_get HO_5.out [] x7_1 p314 (by first | exact q314 | exact of_decide_eq_true (by first | (with_reducible assumption) | assumption) | (have e_ := (Kd.S_reads' HO_5.out).1; omega))
                      obtain ⟨ve314_0, rfl, ge314_0⟩ := hMe314
                      have hv314_0 := hcc314 0 _ rfl
                      rw [Nat.add_zero, show ((Kd.slice 61 k61)).sz = 1 from rfl, Nat.mul_one] at hv314_0
                      replace hv314_0 := Option.some.inj (hv314_0.symm.trans hx314_0)
                      rw [hv314_0] at ge314_0
                      have HL314_0 := Aside0.mk (show Kd.R k61 61 _ _ _ _ (rd_L5 t305 x7_1) from ge314_0)
                      clear hv314_0 ge314_0
                      clear hcc314 hce314
                      have HR314_0 := Aside0.mk hi314_0
                      have HC314_0 := Aside0.mk hl314_0
                      clear hi314_0 hl314_0
                      replace p314 := eq_true p314
                      replace q314 := eq_true q314
                      have ea_ := Option.some.inj (hx308_0.symm.trans hx314_0)
                      injection ea_ with ea_ en_ ec_
                      subst ea_
                      subst ec_
                      clear en_
                      go_wp2
                      repeat (go_quiet (fail); try go_wp2)
                      go_ret
                      exact ⟨by first | rfl | (simp [errW_none, errW_some] <;> rfl) | (simp [*, errW_none, errW_some] <;> rfl), by repeat (first | (with_reducible first | exact HB.out | apply below_alloc | apply pw_below_drewN | apply below_drew1) | exact HB.out)⟩
                    · rw [if_neg c21] at H
                      have c21b0 : (((rd_L5 t305 x7_1).length : Int) == 0) = false := beq_eq_false_iff_ne.mpr c21
                      have c21b1 : (((rd_L5 t305 x7_1).length : Int) != 0) = true := bne_iff_ne.mpr c21
                      have c21b2 : ¬ ((rd_L5 t305 x7_1) = []) := fun h_ => c21 (by rw [h_]; rfl)
                      by_cases c22 : ((rd_L5 t305 x7_1).length : Int) > 1
                      · rw [if_pos c22] at H
                        have c22b0 : decide (1 < ((rd_L5 t305 x7_1).length : Int)) = true := decide_eq_true c22
                        have c22b1 : decide (1 < (rd_L5 t305 x7_1).length) = true := decide_eq_true (by omega)
                        clear c22
                        by_cases c23 : x8_2 > 54
                        · rw [if_pos c23] at H
                          have c23b0 : decide (54 < x8_2) = true := decide_eq_true c23
                          clear c23
                          obtain rfl := Option.some.inj H
                          have p308 : 0 ≤ (x7_1 : Int) := of_decide_eq_true (by first | (with_reducible assumption) | assumption)
                          have q308 : x7_1 < (t305.length : Int) := of_decide_eq_true (by first | (with_reducible assumption) | assumption)
                          obtain ⟨ad308, A308_0, c308_0, e308, hx308_0, hl308_0, hi308_0⟩ := at_L5 (Kd.S_reads' HO_5.out).2.2 x7_1 p308 q308
                          cases e308
                          obtain ⟨ce308, hce308, hMe308, hcc308⟩ := Kd.S_get HO_5.out [] x7_1 p308 (by first | exact q308 | exact of_decide_eq_true (by first | (with_reducible assumption) | assumption) | (have e_ := (Kd.S_reads' HO_5.out).1; omega))
                          obtain ⟨ve308_0, rfl, ge308_0⟩ := hMe308
                          have hv308_0 := hcc308 0 _ rfl
                          rw [Nat.add_zero, show ((Kd.slice 61 k61)).sz = 1 from rfl, Nat.mul_one] at hv308_0
                          replace hv308_0 := Option.some.inj (hv308_0.symm.trans hx308_0)
                          rw [hv308_0] at ge308_0
                          have HL308_0 := Aside0.mk (show Kd.R k61 61 _ _ _ _ (rd_L5 t305 x7_1) from ge308_0)
                          clear hv308_0 ge308_0
                          clear hcc308 hce308
                          have HR308_0 := Aside0.mk hi308_0
                          have HC308_0 := Aside0.mk hl308_0
                          clear hi308_0 hl308_0
                          replace p308 := eq_true p308
                          replace q308 := eq_true q308
                          have p314 : 0 ≤ (x7_1 : Int) := of_decide_eq_true (by first | (with_reducible assumption) | assumption)
                          have q314 : x7_1 < (t305.length : Int) := of_decide_eq_true (by first | (with_reducible assumption) | assumption)
                          obtain ⟨ad314, A314_0, c314_0, e314, hx314_0, hl314_0, hi314_0⟩ := at_L5 (Kd.S_reads' HO_5.out).2.2 x7_1 p314 q314
                          obtain rfl : ad308 = ad314 := (by injection e314)
                          obtain ⟨ce314, hce314, hMe314, hcc314⟩ := Kd.S_get HO_5.out [] x7_1 p314 (by first | exact q314 | exact of_decide_eq_true (by first | (with_reducible assumption) | assumption) | (have e_ := (Kd.S_reads' HO_5.out).1; omega))
                          obtain ⟨ve314_0, rfl, ge314_0⟩ := hMe314
                          have hv314_0 := hcc314 0 _ rfl
                          rw [Nat.add_zero, show ((Kd.slice 61 k61)).sz = 1 from rfl, Nat.mul_one] at hv314_0
                          replace hv314_0 := Option.some.inj (hv314_0.symm.trans hx314_0)
                          rw [hv314_0] at ge314_0
                          have HL314_0 := Aside0.mk (show Kd.R k61 61 _ _ _ _ (rd_L5 t305 x7_1) from ge314_0)
                          clear hv314_0 ge314_0
                          clear hcc314 hce314
                          have HR314_0 := Aside0.mk hi314_0
                          have HC314_0 := Aside0.mk hl314_0
                          clear hi314_0 hl314_0
                          replace p314 := eq_true p314
                          replace q314 := eq_true q314
                          have ea_ := Option.some.inj (hx308_0.symm.trans hx314_0)
                          injection ea_ with ea_ en_ ec_
                          subst ea_
                          subst ec_
                          clear en_
                          have p315 : 0 ≤ (x7_1 : Int) := of_decide_eq_true (by first | (with_reducible assumption) | assumption)
                          have q315 : x7_1 < (t305.length : Int) := of_decide_eq_true (by first | (with_reducible assumption) | assumption)
                          obtain ⟨ad315, A315_0, c315_0, e315, hx315_0, hl315_0, hi315_0⟩ := at_L5 (Kd.S_reads' HO_5.out).2.2 x7_1 p315 q315
                          obtain rfl : ad308 = ad315 := (by injection e315)
                          obtain ⟨ce315, hce315, hMe315, hcc315⟩ := Kd.S_get HO_5.out [] x7_1 p315 (by first | exact q315 | exact of_decide_eq_true (by first | (with_reducible assumption) | assumption) | (have e_ := (Kd.S_reads' HO_5.out).1; omega))
                          obtain ⟨ve315_0, rfl, ge315_0⟩ := hMe315
                          have hv315_0 := hcc315 0 _ rfl
                          rw [Nat.add_zero, show ((Kd.slice 61 k61)).sz = 1 from rfl, Nat.mul_one] at hv315_0
                          replace hv315_0 := Option.some.inj (hv315_0.symm.trans hx315_0)
                          rw [hv315_0] at ge315_0
                          have HL315_0 := Aside0.mk (show Kd.R k61 61 _ _ _ _ (rd_L5 t305 x7_1) from ge315_0)
                          clear hv315_0 ge315_0
                          clear hcc315 hce315
                          have HR315_0 := Aside0.mk hi315_0
                          have HC315_0 := Aside0.mk hl315_0
                          clear hi315_0 hl315_0
                          replace p315 := eq_true p315
                          replace q315 := eq_true q315
                          have ea_ := Option.some.inj (hx308_0.symm.trans hx315_0)
                          injection ea_ with ea_ en_ ec_
                          subst ea_
                          subst ec_
                          clear en_
                          go_wp2
                          repeat (go_quiet (fail); try go_wp2)
                          go_ret
                          exact ⟨by first | rfl | (simp [errW_none, errW_some] <;> rfl) | (simp [*, errW_none, errW_some] <;> rfl), by repeat (first | (with_reducible first | exact HB.out | apply below_alloc | apply pw_below_drewN | apply below_drew1) | exact HB.out)⟩
                        · rw [if_neg c23] at H
                          have c23b0 : decide (54 < x8_2) = false := decide_eq_false c23
                          clear c23
                          have H' := Aside0.mk H
                          clear H
                          have p308 : 0 ≤ (x7_1 : Int) := of_decide_eq_true (by first | (with_reducible assumption) | assumption)
                          have q308 : x7_1 < (t305.length : Int) := of_decide_eq_true (by first | (with_reducible assumption) | assumption)
                          obtain ⟨ad308, A308_0, c308_0, e308, hx308_0, hl308_0, hi308_0⟩ := at_L5 (Kd.S_reads' HO_5.out).2.2 x7_1 p308 q308
                          cases e308
                          obtain ⟨ce308, hce308, hMe308, hcc308⟩ := Kd.S_get HO_5.out [] x7_1 p308 (by first | exact q308 | exact of_decide_eq_true (by first | (with_reducible assumption) | assumption) | (have e_ := (Kd.S_reads' HO_5.out).1; omega))
                          obtain ⟨ve308_0, rfl, ge308_0⟩ := hMe308
                          have hv308_0 := hcc308 0 _ rfl
                          rw [Nat.add_zero, show ((Kd.slice 61 k61)).sz = 1 from rfl, Nat.mul_one] at hv308_0
                          replace hv308_0 := Option.some.inj (hv308_0.symm.trans hx308_0)
                          rw [hv308_0] at ge308_0
                          have HL308_0 := Aside0.mk (show Kd.R k61 61 _ _ _ _ (rd_L5 t305 x7_1) from ge308_0)
                          clear hv308_0 ge308_0
                          clear hcc308 hce308
                          have HR308_0 := Aside0.mk hi308_0
                          have HC308_0 := Aside0.mk hl308_0
                          clear hi308_0 hl308_0
                          replace p308 := eq_true p308
                          replace q308 := eq_true q308
                          have p314 : 0 ≤ (x7_1 : Int) := of_decide_eq_true (by first | (with_reducible assumption) | assumption)
                          have q314 : x7_1 < (t305.length : Int) := of_decide_eq_true (by first | (with_reducible assumption) | assumption)
                          obtain ⟨ad314, A314_0, c314_0, e314, hx314_0, hl314_0, hi314_0⟩ := at_L5 (Kd.S_reads' HO_5.out).2.2 x7_1 p314 q314
                          obtain rfl : ad308 = ad314 := (by injection e314)
                          obtain ⟨ce314, hce314, hMe314, hcc314⟩ := Kd.S_get HO_5.out [] x7_1 p314 (by first | exact q314 | exact of_decide_eq_true (by first | (with_reducible assumption) | assumption) | (have e_ := (Kd.S_reads' HO_5.out).1; omega))
                          obtain ⟨ve314_0, rfl, ge314_0⟩ := hMe314
                          have hv314_0 := hcc314 0 _ rfl
                          rw [Nat.add_zero, show ((Kd.slice 61 k61)).sz = 1 from rfl, Nat.mul_one] at hv314_0
                          replace hv314_0 := Option.some.inj (hv314_0.symm.trans hx314_0)
                          rw [hv314_0] at ge314_0
                          have HL314_0 := Aside0.mk (show Kd.R k61 61 _ _ _ _ (rd_L5 t305 x7_1) from ge314_0)
                          clear hv314_0 ge314_0
                          clear hcc314 hce314
                          have HR314_0 := Aside0.mk hi314_0
                          have HC314_0 := Aside0.mk hl314_0
                          clear hi314_0 hl314_0
                          replace p314 := eq_true p314
                          replace q314 := eq_true q314
                          have ea_ := Option.some.inj (hx308_0.symm.trans hx314_0)
                          injection ea_ with ea_ en_ ec_
                          subst ea_
                          subst ec_
                          clear en_
                          have p315 : 0 ≤ (x7_1 : Int) := of_decide_eq_true (by first | (with_reducible assumption) | assumption)
                          have q315 : x7_1 < (t305.length : Int) := of_decide_eq_true (by first | (with_reducible assumption) | assumption)
                          obtain ⟨ad315, A315_0, c315_0, e315, hx315_0, hl315_0, hi315_0⟩ := at_L5 (Kd.S_reads' HO_5.out).2.2 x7_1 p315 q315
                          obtain rfl : ad308 = ad315 := (by injection e315)
                          obtain ⟨ce315, hce315, hMe315, hcc315⟩ := Kd.S_get HO_5.out [] x7_1 p315 (by first | exact q315 | exact of_decide_eq_true (by first | (with_reducible assumption) | assumption) | (have e_ := (Kd.S_reads' HO_5.out).1; omega))
                          obtain ⟨ve315_0, rfl, ge315_0⟩ := hMe315
                          have hv315_0 := hcc315 0 _ rfl
                          rw [Nat.add_zero, show ((Kd.slice 61 k61)).sz = 1 from rfl, Nat.mul_one] at hv315_0
                          replace hv315_0 := Option.some.inj (hv315_0.symm.trans hx315_0)
                          rw [hv315_0] at ge315_0
                          have HL315_0 := Aside0.mk (show Kd.R k61 61 _ _ _ _ (rd_L5 t305 x7_1) from ge315_0)
                          clear hv315_0 ge315_0
                          clear hcc315 hce315
                          have HR315_0 := Aside0.mk hi315_0
                          have HC315_0 := Aside0.mk hl315_0
                          clear hi315_0 hl315_0
                          replace p315 := eq_true p315
                          replace q315 := eq_true q315
                          have ea_ := Option.some.inj (hx308_0.symm.trans hx315_0)
                          injection ea_ with ea_ en_ ec_
                          subst ea_
                          subst ec_
                          clear en_
                          go_wp2
                          repeat (go_quiet (fail); try go_wp2)
                          go_roundg k2
                          case measure => have := HK1.out; have := HK2.out; omega
                          case rel => exact ⟨(x6_2), (wrap64 (x7_1 + 1)), (by first | rfl | (simp; done) | (simp [*]; done)), (by first | rfl | (simp; done) | (simp [*]; done)), H', ⟨by have := HK1.out; have := HK2.out; omega⟩, ⟨by (with_reducible repeat (first | apply Kd.R_alloc | apply Kd.R_drewN | apply Kd.R_drew)); exact HO_4.out⟩, ⟨by (with_reducible repeat (first | apply Kd.S_alloc | apply Kd.S_drewN | apply Kd.S_drew)); exact HO_5.out⟩, ⟨by repeat (first | (with_reducible first | exact HB.out | apply below_alloc | apply pw_below_drewN | apply below_drew1) | exact HB.out)⟩⟩
                      · rw [if_neg c22] at H
                        have c22b0 : decide (1 < ((rd_L5 t305 x7_1).length : Int)) = false := decide_eq_false c22
                        have c22b1 : decide (1 < (rd_L5 t305 x7_1).length) = false := decide_eq_false (by omega)
                        clear c22
                        have H' := Aside0.mk H
                        clear H
                        have p308 : 0 ≤ (x7_1 : Int) := of_decide_eq_true (by first | (with_reducible assumption) | assumption)
                        have q308 : x7_1 < (t305.length : Int) := of_decide_eq_true (by first | (with_reducible assumption) | assumption)
                        obtain ⟨ad308, A308_0, c308_0, e308, hx308_0, hl308_0, hi308_0⟩ := at_L5 (Kd.S_reads' HO_5.out).2.2 x7_1 p308 q308
                        cases e308
                        obtain ⟨ce308, hce308, hMe308, hcc308⟩ := Kd.S_get HO_5.out [] x7_1 p308 (by first | exact q308 | exact of_decide_eq_true (by first | (with_reducible assumption) | assumption) | (have e_ := (Kd.S_reads' HO_5.out).1; omega))
                        obtain ⟨ve308_0, rfl, ge308_0⟩ := hMe308
                        have hv308_0 := hcc308 0 _ rfl
                        rw [Nat.add_zero, show ((Kd.slice 61 k61)).sz = 1 from rfl, Nat.mul_one] at hv308_0
                        replace hv308_0 := Option.some.inj (hv308_0.symm.trans hx308_0)
                        rw [hv308_0] at ge308_0
                        have HL308_0 := Aside0.mk (show Kd.R k61 61 _ _ _ _ (rd_L5 t305 x7_1) from ge308_0)
                        clear hv308_0 ge308_0
                        clear hcc308 hce308
                        have HR308_0 := Aside0.mk hi308_0
                        have HC308_0 := Aside0.mk hl308_0
                        clear hi308_0 hl308_0
                        replace p308 := eq_true p308
                        replace q308 := eq_true q308
                        have p314 : 0 ≤ (x7_1 : Int) := of_decide_eq_true (by first | (with_reducible assumption) | assumption)
                        have q314 : x7_1 < (t305.length : Int) := of_decide_eq_true (by first | (with_reducible assumption) | assumption)
                        obtain ⟨ad314, A314_0, c314_0, e314, hx314_0, hl314_0, hi314_0⟩ := at_L5 (Kd.S_reads' HO_5.out).2.2 x7_1 p314 q314
                        obtain rfl : ad308 = ad314 := (by injection e314)
                        obtain ⟨ce314, hce314, hMe314, hcc314⟩ := Kd.S_get HO_5.out [] x7_1 p314 (by first | exact q314 | exact of_decide_eq_true (by first | (with_reducible assumption) | assumption) | (have e_ := (Kd.S_reads' HO_5.out).1; omega))
                        obtain ⟨ve314_0, rfl, ge314_0⟩ := hMe314
                        have hv314_0 := hcc314 0 _ rfl
                        rw [Nat.add_zero, show ((Kd.slice 61 k61)).sz = 1 from rfl, Nat.mul_one] at hv314_0
                        replace hv314_0 := Option.some.inj (hv314_0.symm.trans hx314_0)
                        rw [hv314_0] at ge314_0
                        have HL314_0 := Aside0.mk (show Kd.R k61 61 _ _ _ _ (rd_L5 t305 x7_1) from ge314_0)
                        clear hv314_0 ge314_0
                        clear hcc314 hce314
                        have HR314_0 := Aside0.mk hi314_0
                        have HC314_0 := Aside0.mk hl314_0
                        clear hi314_0 hl314_0
                        replace p314 := eq_true p314
                        replace q314 := eq_true q314
                        have ea_ := Option.some.inj (hx308_0.symm.trans hx314_0)
                        injection ea_ with ea_ en_ ec_
                        subst ea_
                        subst ec_
                        clear en_
                        have p315 : 0 ≤ (x7_1 : Int) := of_decide_eq_true (by first | (with_reducible assumption) | assumption)
                        have q315 : x7_1 < (t305.length : Int) := of_decide_eq_true (by first | (with_reducible assumption) | assumption)
                        obtain ⟨ad315, A315_0, c315_0, e315, hx315_0, hl315_0, hi315_0⟩ := at_L5 (Kd.S_reads' HO_5.out).2.2 x7_1 p315 q315
                        obtain rfl : ad308 = ad315 := (by injection e315)
                        obtain ⟨ce315, hce315, hMe315, hcc315⟩ := Kd.S_get HO_5.out [] x7_1 p315 (by first | exact q315 | exact of_decide_eq_true (by first | (with_reducible assumption) | assumption) | (have e_ := (Kd.S_reads' HO_5.out).1; omega))
                        obtain ⟨ve315_0, rfl, ge315_0⟩ := hMe315
                        have hv315_0 := hcc315 0 _ rfl
                        rw [Nat.add_zero, show ((Kd.slice 61 k61)).sz = 1 from rfl, Nat.mul_one] at hv315_0
                        replace hv315_0 := Option.some.inj (hv315_0.symm.trans hx315_0)
                        rw [hv315_0] at ge315_0
                        have HL315_0 := Aside0.mk (show Kd.R k61 61 _ _ _ _ (rd_L5 t305 x7_1) from ge315_0)
                        clear hv315_0 ge315_0
                        clear hcc315 hce315
                        have HR315_0 := Aside0.mk hi315_0
                        have HC315_0 := Aside0.mk hl315_0
                        clear hi315_0 hl315_0
                        replace p315 := eq_true p315
                        replace q315 := eq_true q315
                        have ea_ := Option.some.inj (hx308_0.symm.trans hx315_0)
                        injection ea_ with ea_ en_ ec_
                        subst ea_
                        subst ec_
                        clear en_
                        go_wp2
                        repeat (go_quiet (fail); try go_wp2)
                        go_roundg k2
                        case measure => have := HK1.out; have := HK2.out; omega
                        case rel => exact ⟨(x6_2), (wrap64 (x7_1 + 1)), (by first | rfl | (simp; done) | (simp [*]; done)), (by first | rfl | (simp; done) | (simp [*]; done)), H', ⟨by have := HK1.out; have := HK2.out; omega⟩, ⟨by (with_reducible repeat (first | apply Kd.R_alloc | apply Kd.R_drewN | apply Kd.R_drew)); exact HO_4.out⟩, ⟨by (with_reducible repeat (first | apply Kd.S_alloc | apply Kd.S_drewN | apply Kd.S_drew)); exact HO_5.out⟩, ⟨by repeat (first | (with_reducible first | exact HB.out | apply below_alloc | apply pw_below_drewN | apply below_drew1) | exact HB.out)⟩⟩
                · rw [if_neg c12] at H
                  exact absurd H (by simp)
              · rw [if_neg c11] at H
                exact absurd H (by simp)
        · rw [if_neg c9] at H
          have c9b0 : decide (x7_1 < (t305.length : Int)) = false := decide_eq_false c9
          clear c9
          obtain rfl := Option.some.inj H
          obtain ⟨Ao24, co24, eo24⟩ := Kd.S_slice HO_5.out
          subst eo24
          go_wp2
          repeat (go_quiet (fail); try go_wp2)
          go_ret
          exact ⟨by first | rfl | (simp [errW_none, errW_some] <;> rfl) | (simp [*, errW_none, errW_some] <;> rfl), by repeat (first | (with_reducible first | exact HB.out | apply below_alloc | apply pw_below_drewN | apply below_drew1) | exact HB.out)⟩

/-- THE ONE PURE STATEMENT of laws_FnCuts: yours. -/
def laws_FnCuts.Pure : Prop := ∀ (l0 : List Int), l0.length ≤ maxLen → l0.length * 1 ≤ 140737488351232 → (∀ x ∈ l0, (Lit.int .u8 x).wf = true) → ∃ k, laws_FnCuts.f k l0 = some true
theorem laws_FnCuts.walk (P : laws_FnCuts.Pure) (a0 : Option Addr) (len0 cap0 : Nat) (z0 : List Int) (w : World) (w0 : (a0 = none ∧ len0 = 0 ∧ cap0 = 0 ∧ z0 = []) ∨ ∃ x, a0 = some x ∧ len0 ≤ cap0 ∧ cap0 ≤ maxLen ∧ z0.length = cap0 ∧ (∀ i, i < z0.length → w.cell? (x.add i) = some (.int .u8 (z0.getD i 0))) ∧ ∀ n ∈ z0, (Lit.int .u8 n).wf = true) (y0 : len0 * 1 ≤ 140737488351232) :
    Calls Try.prog 6 #[.slice a0 len0 cap0] w fun e w' => e = .returned (.bool true) ∧ Below w.heap.size w w' := by
  obtain ⟨l0, rfl, hr0, hm0, hw0, hc0⟩ := ReadsInt.ofRowC w0
  obtain ⟨k, h⟩ := P l0 hm0 y0 hw0
  refine (laws_FnCuts.calls k _ _ l0 true w (Kd.C_of_reads (d := (0 : Int)) (h1 := fun _ => rfl) hr0) hc0 h).mono ?_
  rintro e w' ⟨rfl, hd⟩
  exact ⟨rfl, hd⟩

end Go.Proofs.Ytfmemcffbfahhaa.QFnCuts
