/- Lean functions for the Go functions that the law FnExactReadDecimal reaches, and that each Go function comes to just its Lean function's answer; by a program of this session. -/
import Derived.Test.YtcmgaldejpkeaaaDoorQFnExactReadDecimalx0
import Derived.Test.YtcmgaldejpkeaaaDoorQFnExactReadDecimalx1
namespace Go.Proofs.YtcmgaldejpkeaaaDoor.QFnExactReadDecimal
open Go.RowKit Go.Proofs.YtcmgaldejpkeaaaDoorW.PrintWords Go.Proofs.YtcmgaldejpkeaaaDoorW.PrintLast Go.Proofs.YtcmgaldejpkeaaaDoorW.PrintMore
attribute [local go_sem] max2_int min2_int max_two min_two max_three min_three max_four min_four   -- for this text's walks alone
set_option linter.unusedVariables false
set_option linter.unusedSimpArgs false

-- NOT PRINTED: function 59 (strconv_ParseUint)

-- NOT PRINTED: function 46 (strconv_ParseInt)

-- NOT PRINTED: function 39 (strconv_Atoi_39)

-- NOT PRINTED: function 60 (stringslite_Clone)

-- NOT PRINTED: function 47 (strconv_syntaxError)

-- NOT PRINTED: function 48 (strconv_rangeError)

-- NOT PRINTED: function 61 (errors_New)

-- NOT PRINTED: function 49 (strconv_baseError)

-- NOT PRINTED: function 50 (strconv_bitSizeError)

-- NOT PRINTED: function 40 (strconv_toError)

-- NOT PRINTED: function 27 (strconv_Atoi_27)

/-! ### impl_in: function 28 -/
def impl_in.f (a0 : Int) (a1 : Int) (a2 : Int) : Option (Bool) := if a0 ≥ a1 then (some (decide (a0 ≤ a2))) else (some false)
set_option maxHeartbeats 8000000 in
set_option maxRecDepth 100000 in
theorem impl_in.calls (a0 : Int) (a1 : Int) (a2 : Int) (r : Bool) (w : World) (h : impl_in.f a0 a1 a2 = some r) :
    Calls Tryd.prog 28 #[.int .i64 a0, .int .i64 a1, .int .i64 a2] w fun e w' => e = .returned (.bool r) ∧ Drawn0 w w' := by
  have H : (if a0 ≥ a1 then (some (decide (a0 ≤ a2))) else (some false)) = some r := h
  clear h
  by_cases c4 : a0 ≥ a1
  · rw [if_pos c4] at H
    have c4b0 : decide (a1 ≤ a0) = true := decide_eq_true c4
    clear c4
    obtain rfl := Option.some.inj H
    go_enter Tryd.func28, Tryd.ntmps28
    go_wp2
    go_ret
    exact ⟨by first | rfl | (simp; done) | (simp [*]; done), by repeat (first | exact Drawn0.refl _ | apply Drawn0.step)⟩
  · rw [if_neg c4] at H
    have c4b0 : decide (a1 ≤ a0) = false := decide_eq_false c4
    clear c4
    obtain rfl := Option.some.inj H
    go_enter Tryd.func28, Tryd.ntmps28
    go_wp2
    go_ret
    exact ⟨by first | rfl | (simp; done) | (simp [*]; done), by repeat (first | exact Drawn0.refl _ | apply Drawn0.step)⟩

-- NOT PRINTED: function 10 (impl_ReadDecimal)

-- NOT PRINTED: function 4 (laws_FnExactReadDecimal)

end Go.Proofs.YtcmgaldejpkeaaaDoor.QFnExactReadDecimal
