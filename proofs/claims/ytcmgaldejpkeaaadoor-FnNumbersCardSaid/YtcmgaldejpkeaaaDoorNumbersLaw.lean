/- A drawn number comes back from its texts, and a drawn text too, for every input; under the given condition on the library's tables alone. -/
import Derived.Test.YtcmgaldejpkeaaaDoorTie
import Derived.Test.YtcmgaldejpkeaaaDoorCards
import Derived.Test.YtcmgaldejpkeaaaDoorShelfRd
import Derived.Test.YtcmgaldejpkeaaaDoorPureFnNumbers
import Derived.WalkKit
import Derived.ProofKit
import Derived.OpenShut
import Derived.LaidMore
import Derived.Lay
import Derived.Lib.LaidTab
import Derived.Lib.LaidU8
import Derived.Lib.AppendIntMem
import Derived.Lib.AtoiAllCases
import Derived.Stop.LaidErr
import Derived.SevenTiedAt
import Derived.ShutString
import Derived.ChangeOld
import Derived.Below
import Derived.SizedLaws
import Derived.Test.YtcmgaldejpkeaaaDoorWSized
import Derived.Stop.Joined
namespace Go.Proofs.YtcmgaldejpkeaaaDoor.fnNumbers
open Go.ChangeMaps (open_string shut_string)
open Go.ChangeShapes Go.WideShapes Go.ChangeAt Go.RowKit Go.Proofs.YtcmgaldejpkeaaaDoorW.PrintWords Go.Proofs.YtcmgaldejpkeaaaDoorW.PrintLast Go.Proofs.YtcmgaldejpkeaaaDoorW.PrintMore
set_option linter.unusedVariables false
abbrev Tab (w : World) : Prop := Lib.TabIs Tryd.prog w "internal/strconv.uint64pow10" .u64 Lib.pow10Tab
theorem impl_Decimal.calls (n : Int) (h0 : -9223372036854775808 ≤ n) (h1 : n ≤ 9223372036854775807) (w : World) (ht : Tab w) :
    Calls Tryd.prog 8 #[.int .i64 n] w fun e w' => e = .returned (.string (Pure.decT n)) ∧ Below w.heap.size w w' := by
  go_enter Tryd.func8, Tryd.ntmps8
  go_wp2_with (first | (go_at_call 26; refine (Tryd.strconv_Itoa n h0 h1 _ ht).mono ?_; rintro e w1 ⟨rfl, k, os, rfl⟩))
  go_ret
  exact ⟨rfl, Lib.below_grow _ _ (Nat.le_refl _) _ _⟩
theorem var_below {P : Program} {w w' : World} {name : String} {cs : Array Value} (h : w.var? P name = some cs) (hb : Below w.heap.size w w') : w'.var? P name = some cs := by
  unfold World.var? at *
  cases hg : P.globalNamed name with
  | none => simp [hg] at h
  | some g =>
    simp only [hg, Option.bind_some] at h ⊢
    have hlt : g < w.heap.size := by
      rcases Nat.lt_or_ge g w.heap.size with h' | h'
      · exact h'
      · rw [Array.getElem?_eq_none h'] at h; simp at h
    rw [hb.block g hlt]
    exact h
/-- What the two variables of errors hold. -/
def Errs (w : World) : Prop := ∃ (t1 t2 : TypeId) (p1 p2 : Value), w.var? Tryd.prog "strconv.ErrSyntax" = some #[.iface t1 p1] ∧ w.var? Tryd.prog "strconv.ErrRange" = some #[.iface t2 p2]
theorem Errs.below {w w' : World} (h : Errs w) (hb : Below w.heap.size w w') : Errs w' := by
  obtain ⟨t1, t2, p1, p2, h1, h2⟩ := h
  exact ⟨t1, t2, p1, p2, var_below h1 hb, var_below h2 hb⟩
theorem atoi_bad (s : ByteArray) (hs : s.size ≤ 1048576) (h : ∀ v, Lib.atoiAll s.data.toList ≠ .ok v) (w : World) (he : Errs w) :
    Calls Tryd.prog 27 #[.string s] w fun e w' => (∃ (n : Int) (N : Nat), e = .returned (.tuple #[.int .i64 n, .iface 69 (.pointer (some ⟨N, 0, none⟩))])) ∧ Below w.heap.size w w' := by
  obtain ⟨t1, t2, p1, p2, h1, h2⟩ := he
  cases q : Lib.atoiAll s.data.toList
  · exact absurd q (h _)
  · exact Calls.mono (Any.strconv_Atoi_syntax_var Tryd.laysC172 s (by omega) q t1 p1 w h1) (by rintro e w' ⟨N, rfl, _, _, hb⟩; exact ⟨⟨_, N, rfl⟩, hb⟩)
  · exact Calls.mono (Any.strconv_Atoi_range_var Tryd.laysC172 s (by omega) q t2 p2 w h2) (by rintro e w' ⟨N, rfl, _, _, hb⟩; exact ⟨⟨_, N, rfl⟩, hb⟩)
theorem atoi_good (s : ByteArray) (hs : s.size ≤ 1048576) (v : Int) (h : Lib.atoiAll s.data.toList = .ok v) (w : World) :
    Calls Tryd.prog 27 #[.string s] w fun e w' => e = .returned (.tuple #[.int .i64 v, .nilIface]) ∧ Below w.heap.size w w' :=
  (Tryd.strconv_Atoi_ok s (by omega) v h w).mono (by
    rintro e w' ⟨rfl, hw⟩
    refine ⟨rfl, ?_⟩
    rcases hw with rfl | ⟨t, rfl⟩
    · exact Below.refl _ _
    · exact ⟨rfl, rfl, rfl, by rw [Lib.bytesWorld_size]; omega, fun k hk => Lib.bytesWorld_at_old w 5 t k hk⟩)
theorem impl_ReadDecimal.calls (s : ByteArray) (hs : s.size ≤ 1048576) (w : World) (ht : Tab w) (he : Errs w) :
    Calls Tryd.prog 10 #[.string s] w fun e w' => e = .returned (.tuple #[.int .i64 (Pure.pReadDec s).1, .bool (Pure.pReadDec s).2]) ∧ Below w.heap.size w w' := by
  have HT := Aside0.mk (Lib.tabBelow_of_tabIs ht)
  have HB := Aside0.mk (Below.refl w.heap.size w)
  clear ht
  by_cases hok : ∃ v, Lib.atoiAll s.data.toList = .ok v
  · obtain ⟨v, h⟩ := hok
    obtain ⟨hb0, hb1⟩ := Lib.atoiAll_bounds h
    by_cases hin : 0 ≤ v ∧ v ≤ 1000000000
    · have hI := Pure.in_ex v
      rw [decide_eq_true hin] at hI
      by_cases hd : Pure.decT v = s
      · rw [Pure.pReadDec_t hin hd]
        have d0 : ((Pure.decT v).toList == s.toList) = true := by rw [hd]; exact beq_self_eq_true _
        have d1 : ((Pure.decT v).toList != s.toList) = false := by rw [hd]; simp
        clear hd
        go_enter Tryd.func10, Tryd.ntmps10
        go_wp2_with (first | (go_at_call 27; refine (atoi_good s hs v h _).mono ?_; rintro e w1 ⟨rfl, hb⟩; have HB := Aside0.mk (below_step (by repeat (first | (with_reducible first | exact HB.out | apply below_alloc | apply pw_below_drewN | apply below_drew1) | exact HB.out)) hb); clear hb) | (go_at_call 28; (with_reducible refine (QFnNumbers.impl_in.calls v 0 1000000000 _ _ hI).mono ?_); rintro e w2 ⟨rfl, ⟨nd, rfl⟩⟩) | (go_at_call 8; (with_reducible refine (impl_Decimal.calls v hb0 hb1 _ ?side1).mono ?_); (case side1 => exact HT.out _ (by repeat (first | (with_reducible first | exact HB.out | apply below_alloc | apply pw_below_drewN | apply below_drew1) | exact HB.out))); rintro e w3 ⟨rfl, hb⟩; have HB := Aside0.mk (below_step (by repeat (first | (with_reducible first | exact HB.out | apply below_alloc | apply pw_below_drewN | apply below_drew1) | exact HB.out)) hb); clear hb))
        go_ret2
        exact ⟨rfl, (by repeat (first | (with_reducible first | exact HB.out | apply below_alloc | apply pw_below_drewN | apply below_drew1) | exact HB.out))⟩
      · rw [Pure.rd_ne h hd]
        have d0 : ((Pure.decT v).toList == s.toList) = false := beq_eq_false_iff_ne.mpr (fun e => hd (Pure.tl_inj.1 e))
        have d1 : ((Pure.decT v).toList != s.toList) = true := bne_iff_ne.mpr (fun e => hd (Pure.tl_inj.1 e))
        clear hd
        go_enter Tryd.func10, Tryd.ntmps10
        go_wp2_with (first | (go_at_call 27; refine (atoi_good s hs v h _).mono ?_; rintro e w1 ⟨rfl, hb⟩; have HB := Aside0.mk (below_step (by repeat (first | (with_reducible first | exact HB.out | apply below_alloc | apply pw_below_drewN | apply below_drew1) | exact HB.out)) hb); clear hb) | (go_at_call 28; (with_reducible refine (QFnNumbers.impl_in.calls v 0 1000000000 _ _ hI).mono ?_); rintro e w2 ⟨rfl, ⟨nd, rfl⟩⟩) | (go_at_call 8; (with_reducible refine (impl_Decimal.calls v hb0 hb1 _ ?side1).mono ?_); (case side1 => exact HT.out _ (by repeat (first | (with_reducible first | exact HB.out | apply below_alloc | apply pw_below_drewN | apply below_drew1) | exact HB.out))); rintro e w3 ⟨rfl, hb⟩; have HB := Aside0.mk (below_step (by repeat (first | (with_reducible first | exact HB.out | apply below_alloc | apply pw_below_drewN | apply below_drew1) | exact HB.out)) hb); clear hb))
        go_ret2
        exact ⟨rfl, (by repeat (first | (with_reducible first | exact HB.out | apply below_alloc | apply pw_below_drewN | apply below_drew1) | exact HB.out))⟩
    · rw [Pure.rd_out h hin]
      have hI := Pure.in_ex v
      rw [decide_eq_false hin] at hI
      go_enter Tryd.func10, Tryd.ntmps10
      go_wp2_with (first | (go_at_call 27; refine (atoi_good s hs v h _).mono ?_; rintro e w1 ⟨rfl, hb⟩; have HB := Aside0.mk (below_step (by repeat (first | (with_reducible first | exact HB.out | apply below_alloc | apply pw_below_drewN | apply below_drew1) | exact HB.out)) hb); clear hb) | (go_at_call 28; (with_reducible refine (QFnNumbers.impl_in.calls v 0 1000000000 _ _ hI).mono ?_); rintro e w2 ⟨rfl, ⟨nd, rfl⟩⟩) | (go_at_call 8; (with_reducible refine (impl_Decimal.calls v hb0 hb1 _ ?side1).mono ?_); (case side1 => exact HT.out _ (by repeat (first | (with_reducible first | exact HB.out | apply below_alloc | apply pw_below_drewN | apply below_drew1) | exact HB.out))); rintro e w3 ⟨rfl, hb⟩; have HB := Aside0.mk (below_step (by repeat (first | (with_reducible first | exact HB.out | apply below_alloc | apply pw_below_drewN | apply below_drew1) | exact HB.out)) hb); clear hb))
      go_ret2
      exact ⟨rfl, (by repeat (first | (with_reducible first | exact HB.out | apply below_alloc | apply pw_below_drewN | apply below_drew1) | exact HB.out))⟩
  · rw [Pure.rd_no (fun v h => hok ⟨v, h⟩)]
    have hA := fun w he => atoi_bad s hs (fun v h => hok ⟨v, h⟩) w he
    clear hok
    go_enter Tryd.func10, Tryd.ntmps10
    go_wp2_with (first | (go_at_call 27; refine (hA _ he).mono ?_; rintro e w1 ⟨⟨n, N, rfl⟩, hb⟩; have HB := Aside0.mk (below_step (by repeat (first | (with_reducible first | exact HB.out | apply below_alloc | apply pw_below_drewN | apply below_drew1) | exact HB.out)) hb); clear hb))
    go_ret2
    exact ⟨rfl, (by repeat (first | (with_reducible first | exact HB.out | apply below_alloc | apply pw_below_drewN | apply below_drew1) | exact HB.out))⟩
set_option maxHeartbeats 4000000 in
set_option maxRecDepth 100000 in
theorem law.calls (A0 : Option Addr) (c0 : Nat) (l0 : List Int) (w : World) (hr0 : Kd.C (Kd.int .u8) w A0 l0.length l0) (hc0 : l0.length ≤ c0) (ht : Tab w) (he : Errs w) :
    Calls Tryd.prog 6 #[.slice A0 l0.length c0] w fun e w' => e = .returned (.bool true) ∧ Below w.heap.size w w' := by
  have HR0 := Aside0.mk hr0
  have HC0 := Aside0.mk hc0
  have HT := Aside0.mk (Lib.tabBelow_of_tabIs ht)
  have HE := Aside0.mk he
  have HB := Aside0.mk (Below.refl w.heap.size w)
  clear ht he hr0 hc0
  by_cases hbig : (l0.length : Int) > 1048576
  · have hbg : QFnNumbers.laws_big.f l0 = some true := by unfold QFnNumbers.laws_big.f; rw [decide_eq_true hbig]
    clear hbig
    go_enter Tryd.func6, Tryd.ntmps6
    go_wp2_with (go_at_call 16; (with_reducible refine (QFnNumbers.laws_big.calls _ _ l0 true _ ?side1 ?side2 hbg).mono ?_); (case side1 => repeat (first | exact HR0.out | exact Kd.C_below HR0.out HB.out | (with_reducible refine Kd.C_alloc ?_ _) | (with_reducible refine Kd.C_drewN ?_ _) | (with_reducible refine Kd.C_drew ?_))); (case side2 => exact HC0.out); rintro e w1 ⟨rfl, ⟨nd, rfl⟩⟩)
    go_ret
    exact ⟨rfl, (by repeat (first | (with_reducible first | exact HB.out | apply below_alloc | apply pw_below_drewN | apply below_drew1) | exact HB.out))⟩
  · have hbg : QFnNumbers.laws_big.f l0 = some false := by unfold QFnNumbers.laws_big.f; rw [decide_eq_false hbig]
    obtain ⟨k, n0, n, t0, t, vs, a, h, g1, hn, hnr, g2, g3, g4, ht, g5, g6, g7, g8, hv5, ht3, ha4⟩ := Pure.num_good l0 (by omega)
    clear hbig
    have lo : -9223372036854775808 ≤ n := by omega
    have hi : n ≤ 9223372036854775807 := by omega
    have hds : (Pure.decT n).size ≤ 1048576 := Nat.le_trans (Pure.decT_size hnr.1 hnr.2) (by omega)
    have hrd : Pure.pReadDec (Pure.decT n) = (n, true) := Pure.pReadDec_t hnr rfl
    have q1 : (n == n) = true := beq_self_eq_true _
    have q2 : (t.toList == t.toList) = true := beq_self_eq_true _
    have q3 : ((a.size : Int) == (a.size : Int)) = true := beq_self_eq_true _
    have q4 : ((vs.size : Int) + 1 == (vs.size : Int) + 1) = true := beq_self_eq_true _
    have z1 : (9223372036854775807 < 1 + vs.size) = False := eq_false (by omega)
    have z2 : (9223372036854775807 < 1 + vs.size + 1) = False := eq_false (by omega)
    have z3 : (9223372036854775807 < ((⟨#[120]⟩ : ByteArray) ++ vs).size + 1) = False := eq_false (by rw [ByteArray.size_append]; show ¬ 9223372036854775807 < 1 + vs.size + 1; omega)
    have z4 : (9223372036854775807 < (⟨#[120]⟩ : ByteArray).size + vs.size) = False := z1
    have z5 : (9223372036854775807 < ((⟨#[120]⟩ : ByteArray) ++ vs).size + (⟨#[121]⟩ : ByteArray).size) = False := z3
    have z6 : wrap64 ((vs.size : Int) + 1) = (vs.size : Int) + 1 := by unfold wrap64; omega
    clear hv5 ha4
    have hn' : (decide (n0 < 0) = true ∧ n = 12345) ∨ (decide (n0 < 0) = false ∧ decide (1000000000 < n0) = true ∧ n = 12345) ∨ (decide (n0 < 0) = false ∧ decide (1000000000 < n0) = false ∧ n = n0) := by
      rcases hn with ⟨h1, h2⟩ | ⟨h1, h2⟩
      · exact .inr (.inr ⟨decide_eq_false (by omega), decide_eq_false (by omega), h2⟩)
      · by_cases c : n0 < 0
        · exact .inl ⟨decide_eq_true c, h2⟩
        · exact .inr (.inl ⟨decide_eq_false c, decide_eq_true (by omega), h2⟩)
    have ht' : (decide (300 < (t0.size : Int)) = false ∧ decide (300 < t0.size) = false ∧ t = t0) ∨ (decide (300 < (t0.size : Int)) = true ∧ decide (300 < t0.size) = true ∧ t = ⟨#[97, 98, 99]⟩) := by
      rcases ht with ⟨h1, h2⟩ | ⟨h1, h2⟩
      · exact .inl ⟨decide_eq_false (by omega), decide_eq_false (by omega), h2⟩
      · exact .inr ⟨decide_eq_true (by omega), decide_eq_true (by omega), h2⟩
    clear hn ht hnr ht3
    rcases hn' with ⟨u1, en⟩ | ⟨u1, u2, en⟩ | ⟨u1, u2, en⟩
    · rcases ht' with ⟨v1, v2, et⟩ | ⟨v1, v2, et⟩
      · subst en et
        go_enter Tryd.func6, Tryd.ntmps6
        go_wp2_with (first
              | (go_at_call 16; (with_reducible refine (QFnNumbers.laws_big.calls _ _ l0 false _ ?side1 ?side2 hbg).mono ?_); (case side1 => repeat (first | exact HR0.out | exact Kd.C_below HR0.out HB.out | (with_reducible refine Kd.C_alloc ?_ _) | (with_reducible refine Kd.C_drewN ?_ _) | (with_reducible refine Kd.C_drew ?_))); (case side2 => exact HC0.out); rintro e w1 ⟨rfl, ⟨nd, rfl⟩⟩)
              | (go_at_call 17; (with_reducible refine (QFnNumbers.spec_DrawVarText.calls k _ _ l0 n0 _ ?side1 ?side2 g1).mono ?_); (case side1 => repeat (first | exact HR0.out | exact Kd.C_below HR0.out HB.out | (with_reducible refine Kd.C_alloc ?_ _) | (with_reducible refine Kd.C_drewN ?_ _) | (with_reducible refine Kd.C_drew ?_))); (case side2 => exact HC0.out); rintro e w2 ⟨rfl, hb⟩; have HB := Aside0.mk (below_step (by repeat (first | (with_reducible first | exact HB.out | apply below_alloc | apply pw_below_drewN | apply below_drew1) | exact HB.out)) hb); clear hb)
              | (go_at_call 18; (with_reducible refine (QFnNumbers.impl_VarText.calls k 12345 vs true _ g2).mono ?_); rintro e w3 ⟨rfl, hb⟩; have HB := Aside0.mk (below_step (by repeat (first | (with_reducible first | exact HB.out | apply below_alloc | apply pw_below_drewN | apply below_drew1) | exact HB.out)) hb); clear hb)
              | (go_at_call 19; (with_reducible refine (QFnNumbers.impl_ReadVar.calls k _ 1 12345 ((vs.size : Int) + 1) true _ g3).mono ?_); rintro e w4 ⟨rfl, ⟨nd2, rfl⟩⟩)
              | (go_at_call 8; (with_reducible refine (impl_Decimal.calls 12345 lo hi _ ?side1).mono ?_); (case side1 => exact HT.out _ (by repeat (first | (with_reducible first | exact HB.out | apply below_alloc | apply pw_below_drewN | apply below_drew1) | exact HB.out))); rintro e w5 ⟨rfl, hb⟩; have HB := Aside0.mk (below_step (by repeat (first | (with_reducible first | exact HB.out | apply below_alloc | apply pw_below_drewN | apply below_drew1) | exact HB.out)) hb); clear hb)
              | (go_at_call 10; (with_reducible refine (impl_ReadDecimal.calls (Pure.decT 12345) hds _ ?side1 ?side2).mono ?_); (case side1 => exact HT.out _ (by repeat (first | (with_reducible first | exact HB.out | apply below_alloc | apply pw_below_drewN | apply below_drew1) | exact HB.out))); (case side2 => exact HE.out.below (by repeat (first | (with_reducible first | exact HB.out | apply below_alloc | apply pw_below_drewN | apply below_drew1) | exact HB.out))); rintro e w6 ⟨rfl, hb⟩; have HB := Aside0.mk (below_step (by repeat (first | (with_reducible first | exact HB.out | apply below_alloc | apply pw_below_drewN | apply below_drew1) | exact HB.out)) hb); clear hb; rw [hrd])
              | (go_at_call 20; (with_reducible refine (QFnNumbers.spec_DrawHex.calls k _ _ l0 t _ ?side1 ?side2 g4).mono ?_); (case side1 => repeat (first | exact HR0.out | exact Kd.C_below HR0.out HB.out | (with_reducible refine Kd.C_alloc ?_ _) | (with_reducible refine Kd.C_drewN ?_ _) | (with_reducible refine Kd.C_drew ?_))); (case side2 => exact HC0.out); rintro e w7 ⟨rfl, hb⟩; have HB := Aside0.mk (below_step (by repeat (first | (with_reducible first | exact HB.out | apply below_alloc | apply pw_below_drewN | apply below_drew1) | exact HB.out)) hb); clear hb)
              | (go_at_call 21; (with_reducible refine (QFnNumbers.impl_ShortText.calls k t a true _ g5).mono ?_); rintro e w8 ⟨rfl, hb⟩; have HB := Aside0.mk (below_step (by repeat (first | (with_reducible first | exact HB.out | apply below_alloc | apply pw_below_drewN | apply below_drew1) | exact HB.out)) hb); clear hb)
              | (go_at_call 22; (with_reducible refine (QFnNumbers.impl_ReadShort.calls k a 0 t (a.size : Int) true _ g6).mono ?_); rintro e w9 ⟨rfl, ⟨nd9, rfl⟩⟩)
              | (go_at_call 23; (with_reducible refine (QFnNumbers.impl_Hex.calls k t h true _ g7).mono ?_); rintro e w10 ⟨rfl, hb⟩; have HB := Aside0.mk (below_step (by repeat (first | (with_reducible first | exact HB.out | apply below_alloc | apply pw_below_drewN | apply below_drew1) | exact HB.out)) hb); clear hb)
              | (go_at_call 24; (with_reducible refine (QFnNumbers.impl_Unhex.calls k h t true _ g8).mono ?_); rintro e w11 ⟨rfl, hb⟩; have HB := Aside0.mk (below_step (by repeat (first | (with_reducible first | exact HB.out | apply below_alloc | apply pw_below_drewN | apply below_drew1) | exact HB.out)) hb); clear hb))
        go_ret
        exact ⟨by first | rfl | (simp; done), (by repeat (first | (with_reducible first | exact HB.out | apply below_alloc | apply pw_below_drewN | apply below_drew1) | exact HB.out))⟩
      · subst en et
        go_enter Tryd.func6, Tryd.ntmps6
        go_wp2_with (first
              | (go_at_call 16; (with_reducible refine (QFnNumbers.laws_big.calls _ _ l0 false _ ?side1 ?side2 hbg).mono ?_); (case side1 => repeat (first | exact HR0.out | exact Kd.C_below HR0.out HB.out | (with_reducible refine Kd.C_alloc ?_ _) | (with_reducible refine Kd.C_drewN ?_ _) | (with_reducible refine Kd.C_drew ?_))); (case side2 => exact HC0.out); rintro e w1 ⟨rfl, ⟨nd, rfl⟩⟩)
              | (go_at_call 17; (with_reducible refine (QFnNumbers.spec_DrawVarText.calls k _ _ l0 n0 _ ?side1 ?side2 g1).mono ?_); (case side1 => repeat (first | exact HR0.out | exact Kd.C_below HR0.out HB.out | (with_reducible refine Kd.C_alloc ?_ _) | (with_reducible refine Kd.C_drewN ?_ _) | (with_reducible refine Kd.C_drew ?_))); (case side2 => exact HC0.out); rintro e w2 ⟨rfl, hb⟩; have HB := Aside0.mk (below_step (by repeat (first | (with_reducible first | exact HB.out | apply below_alloc | apply pw_below_drewN | apply below_drew1) | exact HB.out)) hb); clear hb)
              | (go_at_call 18; (with_reducible refine (QFnNumbers.impl_VarText.calls k 12345 vs true _ g2).mono ?_); rintro e w3 ⟨rfl, hb⟩; have HB := Aside0.mk (below_step (by repeat (first | (with_reducible first | exact HB.out | apply below_alloc | apply pw_below_drewN | apply below_drew1) | exact HB.out)) hb); clear hb)
              | (go_at_call 19; (with_reducible refine (QFnNumbers.impl_ReadVar.calls k _ 1 12345 ((vs.size : Int) + 1) true _ g3).mono ?_); rintro e w4 ⟨rfl, ⟨nd2, rfl⟩⟩)
              | (go_at_call 8; (with_reducible refine (impl_Decimal.calls 12345 lo hi _ ?side1).mono ?_); (case side1 => exact HT.out _ (by repeat (first | (with_reducible first | exact HB.out | apply below_alloc | apply pw_below_drewN | apply below_drew1) | exact HB.out))); rintro e w5 ⟨rfl, hb⟩; have HB := Aside0.mk (below_step (by repeat (first | (with_reducible first | exact HB.out | apply below_alloc | apply pw_below_drewN | apply below_drew1) | exact HB.out)) hb); clear hb)
              | (go_at_call 10; (with_reducible refine (impl_ReadDecimal.calls (Pure.decT 12345) hds _ ?side1 ?side2).mono ?_); (case side1 => exact HT.out _ (by repeat (first | (with_reducible first | exact HB.out | apply below_alloc | apply pw_below_drewN | apply below_drew1) | exact HB.out))); (case side2 => exact HE.out.below (by repeat (first | (with_reducible first | exact HB.out | apply below_alloc | apply pw_below_drewN | apply below_drew1) | exact HB.out))); rintro e w6 ⟨rfl, hb⟩; have HB := Aside0.mk (below_step (by repeat (first | (with_reducible first | exact HB.out | apply below_alloc | apply pw_below_drewN | apply below_drew1) | exact HB.out)) hb); clear hb; rw [hrd])
              | (go_at_call 20; (with_reducible refine (QFnNumbers.spec_DrawHex.calls k _ _ l0 t0 _ ?side1 ?side2 g4).mono ?_); (case side1 => repeat (first | exact HR0.out | exact Kd.C_below HR0.out HB.out | (with_reducible refine Kd.C_alloc ?_ _) | (with_reducible refine Kd.C_drewN ?_ _) | (with_reducible refine Kd.C_drew ?_))); (case side2 => exact HC0.out); rintro e w7 ⟨rfl, hb⟩; have HB := Aside0.mk (below_step (by repeat (first | (with_reducible first | exact HB.out | apply below_alloc | apply pw_below_drewN | apply below_drew1) | exact HB.out)) hb); clear hb)
              | (go_at_call 21; (with_reducible refine (QFnNumbers.impl_ShortText.calls k (⟨#[97, 98, 99]⟩ : ByteArray) a true _ g5).mono ?_); rintro e w8 ⟨rfl, hb⟩; have HB := Aside0.mk (below_step (by repeat (first | (with_reducible first | exact HB.out | apply below_alloc | apply pw_below_drewN | apply below_drew1) | exact HB.out)) hb); clear hb)
              | (go_at_call 22; (with_reducible refine (QFnNumbers.impl_ReadShort.calls k a 0 (⟨#[97, 98, 99]⟩ : ByteArray) (a.size : Int) true _ g6).mono ?_); rintro e w9 ⟨rfl, ⟨nd9, rfl⟩⟩)
              | (go_at_call 23; (with_reducible refine (QFnNumbers.impl_Hex.calls k (⟨#[97, 98, 99]⟩ : ByteArray) h true _ g7).mono ?_); rintro e w10 ⟨rfl, hb⟩; have HB := Aside0.mk (below_step (by repeat (first | (with_reducible first | exact HB.out | apply below_alloc | apply pw_below_drewN | apply below_drew1) | exact HB.out)) hb); clear hb)
              | (go_at_call 24; (with_reducible refine (QFnNumbers.impl_Unhex.calls k h (⟨#[97, 98, 99]⟩ : ByteArray) true _ g8).mono ?_); rintro e w11 ⟨rfl, hb⟩; have HB := Aside0.mk (below_step (by repeat (first | (with_reducible first | exact HB.out | apply below_alloc | apply pw_below_drewN | apply below_drew1) | exact HB.out)) hb); clear hb))
        go_ret
        exact ⟨by first | rfl | (simp; done), (by repeat (first | (with_reducible first | exact HB.out | apply below_alloc | apply pw_below_drewN | apply below_drew1) | exact HB.out))⟩
    · rcases ht' with ⟨v1, v2, et⟩ | ⟨v1, v2, et⟩
      · subst en et
        go_enter Tryd.func6, Tryd.ntmps6
        go_wp2_with (first
              | (go_at_call 16; (with_reducible refine (QFnNumbers.laws_big.calls _ _ l0 false _ ?side1 ?side2 hbg).mono ?_); (case side1 => repeat (first | exact HR0.out | exact Kd.C_below HR0.out HB.out | (with_reducible refine Kd.C_alloc ?_ _) | (with_reducible refine Kd.C_drewN ?_ _) | (with_reducible refine Kd.C_drew ?_))); (case side2 => exact HC0.out); rintro e w1 ⟨rfl, ⟨nd, rfl⟩⟩)
              | (go_at_call 17; (with_reducible refine (QFnNumbers.spec_DrawVarText.calls k _ _ l0 n0 _ ?side1 ?side2 g1).mono ?_); (case side1 => repeat (first | exact HR0.out | exact Kd.C_below HR0.out HB.out | (with_reducible refine Kd.C_alloc ?_ _) | (with_reducible refine Kd.C_drewN ?_ _) | (with_reducible refine Kd.C_drew ?_))); (case side2 => exact HC0.out); rintro e w2 ⟨rfl, hb⟩; have HB := Aside0.mk (below_step (by repeat (first | (with_reducible first | exact HB.out | apply below_alloc | apply pw_below_drewN | apply below_drew1) | exact HB.out)) hb); clear hb)
              | (go_at_call 18; (with_reducible refine (QFnNumbers.impl_VarText.calls k 12345 vs true _ g2).mono ?_); rintro e w3 ⟨rfl, hb⟩; have HB := Aside0.mk (below_step (by repeat (first | (with_reducible first | exact HB.out | apply below_alloc | apply pw_below_drewN | apply below_drew1) | exact HB.out)) hb); clear hb)
              | (go_at_call 19; (with_reducible refine (QFnNumbers.impl_ReadVar.calls k _ 1 12345 ((vs.size : Int) + 1) true _ g3).mono ?_); rintro e w4 ⟨rfl, ⟨nd2, rfl⟩⟩)
              | (go_at_call 8; (with_reducible refine (impl_Decimal.calls 12345 lo hi _ ?side1).mono ?_); (case side1 => exact HT.out _ (by repeat (first | (with_reducible first | exact HB.out | apply below_alloc | apply pw_below_drewN | apply below_drew1) | exact HB.out))); rintro e w5 ⟨rfl, hb⟩; have HB := Aside0.mk (below_step (by repeat (first | (with_reducible first | exact HB.out | apply below_alloc | apply pw_below_drewN | apply below_drew1) | exact HB.out)) hb); clear hb)
              | (go_at_call 10; (with_reducible refine (impl_ReadDecimal.calls (Pure.decT 12345) hds _ ?side1 ?side2).mono ?_); (case side1 => exact HT.out _ (by repeat (first | (with_reducible first | exact HB.out | apply below_alloc | apply pw_below_drewN | apply below_drew1) | exact HB.out))); (case side2 => exact HE.out.below (by repeat (first | (with_reducible first | exact HB.out | apply below_alloc | apply pw_below_drewN | apply below_drew1) | exact HB.out))); rintro e w6 ⟨rfl, hb⟩; have HB := Aside0.mk (below_step (by repeat (first | (with_reducible first | exact HB.out | apply below_alloc | apply pw_below_drewN | apply below_drew1) | exact HB.out)) hb); clear hb; rw [hrd])
              | (go_at_call 20; (with_reducible refine (QFnNumbers.spec_DrawHex.calls k _ _ l0 t _ ?side1 ?side2 g4).mono ?_); (case side1 => repeat (first | exact HR0.out | exact Kd.C_below HR0.out HB.out | (with_reducible refine Kd.C_alloc ?_ _) | (with_reducible refine Kd.C_drewN ?_ _) | (with_reducible refine Kd.C_drew ?_))); (case side2 => exact HC0.out); rintro e w7 ⟨rfl, hb⟩; have HB := Aside0.mk (below_step (by repeat (first | (with_reducible first | exact HB.out | apply below_alloc | apply pw_below_drewN | apply below_drew1) | exact HB.out)) hb); clear hb)
              | (go_at_call 21; (with_reducible refine (QFnNumbers.impl_ShortText.calls k t a true _ g5).mono ?_); rintro e w8 ⟨rfl, hb⟩; have HB := Aside0.mk (below_step (by repeat (first | (with_reducible first | exact HB.out | apply below_alloc | apply pw_below_drewN | apply below_drew1) | exact HB.out)) hb); clear hb)
              | (go_at_call 22; (with_reducible refine (QFnNumbers.impl_ReadShort.calls k a 0 t (a.size : Int) true _ g6).mono ?_); rintro e w9 ⟨rfl, ⟨nd9, rfl⟩⟩)
              | (go_at_call 23; (with_reducible refine (QFnNumbers.impl_Hex.calls k t h true _ g7).mono ?_); rintro e w10 ⟨rfl, hb⟩; have HB := Aside0.mk (below_step (by repeat (first | (with_reducible first | exact HB.out | apply below_alloc | apply pw_below_drewN | apply below_drew1) | exact HB.out)) hb); clear hb)
              | (go_at_call 24; (with_reducible refine (QFnNumbers.impl_Unhex.calls k h t true _ g8).mono ?_); rintro e w11 ⟨rfl, hb⟩; have HB := Aside0.mk (below_step (by repeat (first | (with_reducible first | exact HB.out | apply below_alloc | apply pw_below_drewN | apply below_drew1) | exact HB.out)) hb); clear hb))
        go_ret
        exact ⟨by first | rfl | (simp; done), (by repeat (first | (with_reducible first | exact HB.out | apply below_alloc | apply pw_below_drewN | apply below_drew1) | exact HB.out))⟩
      · subst en et
        go_enter Tryd.func6, Tryd.ntmps6
        go_wp2_with (first
              | (go_at_call 16; (with_reducible refine (QFnNumbers.laws_big.calls _ _ l0 false _ ?side1 ?side2 hbg).mono ?_); (case side1 => repeat (first | exact HR0.out | exact Kd.C_below HR0.out HB.out | (with_reducible refine Kd.C_alloc ?_ _) | (with_reducible refine Kd.C_drewN ?_ _) | (with_reducible refine Kd.C_drew ?_))); (case side2 => exact HC0.out); rintro e w1 ⟨rfl, ⟨nd, rfl⟩⟩)
              | (go_at_call 17; (with_reducible refine (QFnNumbers.spec_DrawVarText.calls k _ _ l0 n0 _ ?side1 ?side2 g1).mono ?_); (case side1 => repeat (first | exact HR0.out | exact Kd.C_below HR0.out HB.out | (with_reducible refine Kd.C_alloc ?_ _) | (with_reducible refine Kd.C_drewN ?_ _) | (with_reducible refine Kd.C_drew ?_))); (case side2 => exact HC0.out); rintro e w2 ⟨rfl, hb⟩; have HB := Aside0.mk (below_step (by repeat (first | (with_reducible first | exact HB.out | apply below_alloc | apply pw_below_drewN | apply below_drew1) | exact HB.out)) hb); clear hb)
              | (go_at_call 18; (with_reducible refine (QFnNumbers.impl_VarText.calls k 12345 vs true _ g2).mono ?_); rintro e w3 ⟨rfl, hb⟩; have HB := Aside0.mk (below_step (by repeat (first | (with_reducible first | exact HB.out | apply below_alloc | apply pw_below_drewN | apply below_drew1) | exact HB.out)) hb); clear hb)
              | (go_at_call 19; (with_reducible refine (QFnNumbers.impl_ReadVar.calls k _ 1 12345 ((vs.size : Int) + 1) true _ g3).mono ?_); rintro e w4 ⟨rfl, ⟨nd2, rfl⟩⟩)
              | (go_at_call 8; (with_reducible refine (impl_Decimal.calls 12345 lo hi _ ?side1).mono ?_); (case side1 => exact HT.out _ (by repeat (first | (with_reducible first | exact HB.out | apply below_alloc | apply pw_below_drewN | apply below_drew1) | exact HB.out))); rintro e w5 ⟨rfl, hb⟩; have HB := Aside0.mk (below_step (by repeat (first | (with_reducible first | exact HB.out | apply below_alloc | apply pw_below_drewN | apply below_drew1) | exact HB.out)) hb); clear hb)
              | (go_at_call 10; (with_reducible refine (impl_ReadDecimal.calls (Pure.decT 12345) hds _ ?side1 ?side2).mono ?_); (case side1 => exact HT.out _ (by repeat (first | (with_reducible first | exact HB.out | apply below_alloc | apply pw_below_drewN | apply below_drew1) | exact HB.out))); (case side2 => exact HE.out.below (by repeat (first | (with_reducible first | exact HB.out | apply below_alloc | apply pw_below_drewN | apply below_drew1) | exact HB.out))); rintro e w6 ⟨rfl, hb⟩; have HB := Aside0.mk (below_step (by repeat (first | (with_reducible first | exact HB.out | apply below_alloc | apply pw_below_drewN | apply below_drew1) | exact HB.out)) hb); clear hb; rw [hrd])
              | (go_at_call 20; (with_reducible refine (QFnNumbers.spec_DrawHex.calls k _ _ l0 t0 _ ?side1 ?side2 g4).mono ?_); (case side1 => repeat (first | exact HR0.out | exact Kd.C_below HR0.out HB.out | (with_reducible refine Kd.C_alloc ?_ _) | (with_reducible refine Kd.C_drewN ?_ _) | (with_reducible refine Kd.C_drew ?_))); (case side2 => exact HC0.out); rintro e w7 ⟨rfl, hb⟩; have HB := Aside0.mk (below_step (by repeat (first | (with_reducible first | exact HB.out | apply below_alloc | apply pw_below_drewN | apply below_drew1) | exact HB.out)) hb); clear hb)
              | (go_at_call 21; (with_reducible refine (QFnNumbers.impl_ShortText.calls k (⟨#[97, 98, 99]⟩ : ByteArray) a true _ g5).mono ?_); rintro e w8 ⟨rfl, hb⟩; have HB := Aside0.mk (below_step (by repeat (first | (with_reducible first | exact HB.out | apply below_alloc | apply pw_below_drewN | apply below_drew1) | exact HB.out)) hb); clear hb)
              | (go_at_call 22; (with_reducible refine (QFnNumbers.impl_ReadShort.calls k a 0 (⟨#[97, 98, 99]⟩ : ByteArray) (a.size : Int) true _ g6).mono ?_); rintro e w9 ⟨rfl, ⟨nd9, rfl⟩⟩)
              | (go_at_call 23; (with_reducible refine (QFnNumbers.impl_Hex.calls k (⟨#[97, 98, 99]⟩ : ByteArray) h true _ g7).mono ?_); rintro e w10 ⟨rfl, hb⟩; have HB := Aside0.mk (below_step (by repeat (first | (with_reducible first | exact HB.out | apply below_alloc | apply pw_below_drewN | apply below_drew1) | exact HB.out)) hb); clear hb)
              | (go_at_call 24; (with_reducible refine (QFnNumbers.impl_Unhex.calls k h (⟨#[97, 98, 99]⟩ : ByteArray) true _ g8).mono ?_); rintro e w11 ⟨rfl, hb⟩; have HB := Aside0.mk (below_step (by repeat (first | (with_reducible first | exact HB.out | apply below_alloc | apply pw_below_drewN | apply below_drew1) | exact HB.out)) hb); clear hb))
        go_ret
        exact ⟨by first | rfl | (simp; done), (by repeat (first | (with_reducible first | exact HB.out | apply below_alloc | apply pw_below_drewN | apply below_drew1) | exact HB.out))⟩
    · rcases ht' with ⟨v1, v2, et⟩ | ⟨v1, v2, et⟩
      · subst en et
        go_enter Tryd.func6, Tryd.ntmps6
        go_wp2_with (first
              | (go_at_call 16; (with_reducible refine (QFnNumbers.laws_big.calls _ _ l0 false _ ?side1 ?side2 hbg).mono ?_); (case side1 => repeat (first | exact HR0.out | exact Kd.C_below HR0.out HB.out | (with_reducible refine Kd.C_alloc ?_ _) | (with_reducible refine Kd.C_drewN ?_ _) | (with_reducible refine Kd.C_drew ?_))); (case side2 => exact HC0.out); rintro e w1 ⟨rfl, ⟨nd, rfl⟩⟩)
              | (go_at_call 17; (with_reducible refine (QFnNumbers.spec_DrawVarText.calls k _ _ l0 n _ ?side1 ?side2 g1).mono ?_); (case side1 => repeat (first | exact HR0.out | exact Kd.C_below HR0.out HB.out | (with_reducible refine Kd.C_alloc ?_ _) | (with_reducible refine Kd.C_drewN ?_ _) | (with_reducible refine Kd.C_drew ?_))); (case side2 => exact HC0.out); rintro e w2 ⟨rfl, hb⟩; have HB := Aside0.mk (below_step (by repeat (first | (with_reducible first | exact HB.out | apply below_alloc | apply pw_below_drewN | apply below_drew1) | exact HB.out)) hb); clear hb)
              | (go_at_call 18; (with_reducible refine (QFnNumbers.impl_VarText.calls k n vs true _ g2).mono ?_); rintro e w3 ⟨rfl, hb⟩; have HB := Aside0.mk (below_step (by repeat (first | (with_reducible first | exact HB.out | apply below_alloc | apply pw_below_drewN | apply below_drew1) | exact HB.out)) hb); clear hb)
              | (go_at_call 19; (with_reducible refine (QFnNumbers.impl_ReadVar.calls k _ 1 n ((vs.size : Int) + 1) true _ g3).mono ?_); rintro e w4 ⟨rfl, ⟨nd2, rfl⟩⟩)
              | (go_at_call 8; (with_reducible refine (impl_Decimal.calls n lo hi _ ?side1).mono ?_); (case side1 => exact HT.out _ (by repeat (first | (with_reducible first | exact HB.out | apply below_alloc | apply pw_below_drewN | apply below_drew1) | exact HB.out))); rintro e w5 ⟨rfl, hb⟩; have HB := Aside0.mk (below_step (by repeat (first | (with_reducible first | exact HB.out | apply below_alloc | apply pw_below_drewN | apply below_drew1) | exact HB.out)) hb); clear hb)
              | (go_at_call 10; (with_reducible refine (impl_ReadDecimal.calls (Pure.decT n) hds _ ?side1 ?side2).mono ?_); (case side1 => exact HT.out _ (by repeat (first | (with_reducible first | exact HB.out | apply below_alloc | apply pw_below_drewN | apply below_drew1) | exact HB.out))); (case side2 => exact HE.out.below (by repeat (first | (with_reducible first | exact HB.out | apply below_alloc | apply pw_below_drewN | apply below_drew1) | exact HB.out))); rintro e w6 ⟨rfl, hb⟩; have HB := Aside0.mk (below_step (by repeat (first | (with_reducible first | exact HB.out | apply below_alloc | apply pw_below_drewN | apply below_drew1) | exact HB.out)) hb); clear hb; rw [hrd])
              | (go_at_call 20; (with_reducible refine (QFnNumbers.spec_DrawHex.calls k _ _ l0 t _ ?side1 ?side2 g4).mono ?_); (case side1 => repeat (first | exact HR0.out | exact Kd.C_below HR0.out HB.out | (with_reducible refine Kd.C_alloc ?_ _) | (with_reducible refine Kd.C_drewN ?_ _) | (with_reducible refine Kd.C_drew ?_))); (case side2 => exact HC0.out); rintro e w7 ⟨rfl, hb⟩; have HB := Aside0.mk (below_step (by repeat (first | (with_reducible first | exact HB.out | apply below_alloc | apply pw_below_drewN | apply below_drew1) | exact HB.out)) hb); clear hb)
              | (go_at_call 21; (with_reducible refine (QFnNumbers.impl_ShortText.calls k t a true _ g5).mono ?_); rintro e w8 ⟨rfl, hb⟩; have HB := Aside0.mk (below_step (by repeat (first | (with_reducible first | exact HB.out | apply below_alloc | apply pw_below_drewN | apply below_drew1) | exact HB.out)) hb); clear hb)
              | (go_at_call 22; (with_reducible refine (QFnNumbers.impl_ReadShort.calls k a 0 t (a.size : Int) true _ g6).mono ?_); rintro e w9 ⟨rfl, ⟨nd9, rfl⟩⟩)
              | (go_at_call 23; (with_reducible refine (QFnNumbers.impl_Hex.calls k t h true _ g7).mono ?_); rintro e w10 ⟨rfl, hb⟩; have HB := Aside0.mk (below_step (by repeat (first | (with_reducible first | exact HB.out | apply below_alloc | apply pw_below_drewN | apply below_drew1) | exact HB.out)) hb); clear hb)
              | (go_at_call 24; (with_reducible refine (QFnNumbers.impl_Unhex.calls k h t true _ g8).mono ?_); rintro e w11 ⟨rfl, hb⟩; have HB := Aside0.mk (below_step (by repeat (first | (with_reducible first | exact HB.out | apply below_alloc | apply pw_below_drewN | apply below_drew1) | exact HB.out)) hb); clear hb))
        go_ret
        exact ⟨by first | rfl | (simp; done), (by repeat (first | (with_reducible first | exact HB.out | apply below_alloc | apply pw_below_drewN | apply below_drew1) | exact HB.out))⟩
      · subst en et
        go_enter Tryd.func6, Tryd.ntmps6
        go_wp2_with (first
              | (go_at_call 16; (with_reducible refine (QFnNumbers.laws_big.calls _ _ l0 false _ ?side1 ?side2 hbg).mono ?_); (case side1 => repeat (first | exact HR0.out | exact Kd.C_below HR0.out HB.out | (with_reducible refine Kd.C_alloc ?_ _) | (with_reducible refine Kd.C_drewN ?_ _) | (with_reducible refine Kd.C_drew ?_))); (case side2 => exact HC0.out); rintro e w1 ⟨rfl, ⟨nd, rfl⟩⟩)
              | (go_at_call 17; (with_reducible refine (QFnNumbers.spec_DrawVarText.calls k _ _ l0 n _ ?side1 ?side2 g1).mono ?_); (case side1 => repeat (first | exact HR0.out | exact Kd.C_below HR0.out HB.out | (with_reducible refine Kd.C_alloc ?_ _) | (with_reducible refine Kd.C_drewN ?_ _) | (with_reducible refine Kd.C_drew ?_))); (case side2 => exact HC0.out); rintro e w2 ⟨rfl, hb⟩; have HB := Aside0.mk (below_step (by repeat (first | (with_reducible first | exact HB.out | apply below_alloc | apply pw_below_drewN | apply below_drew1) | exact HB.out)) hb); clear hb)
              | (go_at_call 18; (with_reducible refine (QFnNumbers.impl_VarText.calls k n vs true _ g2).mono ?_); rintro e w3 ⟨rfl, hb⟩; have HB := Aside0.mk (below_step (by repeat (first | (with_reducible first | exact HB.out | apply below_alloc | apply pw_below_drewN | apply below_drew1) | exact HB.out)) hb); clear hb)
              | (go_at_call 19; (with_reducible refine (QFnNumbers.impl_ReadVar.calls k _ 1 n ((vs.size : Int) + 1) true _ g3).mono ?_); rintro e w4 ⟨rfl, ⟨nd2, rfl⟩⟩)
              | (go_at_call 8; (with_reducible refine (impl_Decimal.calls n lo hi _ ?side1).mono ?_); (case side1 => exact HT.out _ (by repeat (first | (with_reducible first | exact HB.out | apply below_alloc | apply pw_below_drewN | apply below_drew1) | exact HB.out))); rintro e w5 ⟨rfl, hb⟩; have HB := Aside0.mk (below_step (by repeat (first | (with_reducible first | exact HB.out | apply below_alloc | apply pw_below_drewN | apply below_drew1) | exact HB.out)) hb); clear hb)
              | (go_at_call 10; (with_reducible refine (impl_ReadDecimal.calls (Pure.decT n) hds _ ?side1 ?side2).mono ?_); (case side1 => exact HT.out _ (by repeat (first | (with_reducible first | exact HB.out | apply below_alloc | apply pw_below_drewN | apply below_drew1) | exact HB.out))); (case side2 => exact HE.out.below (by repeat (first | (with_reducible first | exact HB.out | apply below_alloc | apply pw_below_drewN | apply below_drew1) | exact HB.out))); rintro e w6 ⟨rfl, hb⟩; have HB := Aside0.mk (below_step (by repeat (first | (with_reducible first | exact HB.out | apply below_alloc | apply pw_below_drewN | apply below_drew1) | exact HB.out)) hb); clear hb; rw [hrd])
              | (go_at_call 20; (with_reducible refine (QFnNumbers.spec_DrawHex.calls k _ _ l0 t0 _ ?side1 ?side2 g4).mono ?_); (case side1 => repeat (first | exact HR0.out | exact Kd.C_below HR0.out HB.out | (with_reducible refine Kd.C_alloc ?_ _) | (with_reducible refine Kd.C_drewN ?_ _) | (with_reducible refine Kd.C_drew ?_))); (case side2 => exact HC0.out); rintro e w7 ⟨rfl, hb⟩; have HB := Aside0.mk (below_step (by repeat (first | (with_reducible first | exact HB.out | apply below_alloc | apply pw_below_drewN | apply below_drew1) | exact HB.out)) hb); clear hb)
              | (go_at_call 21; (with_reducible refine (QFnNumbers.impl_ShortText.calls k (⟨#[97, 98, 99]⟩ : ByteArray) a true _ g5).mono ?_); rintro e w8 ⟨rfl, hb⟩; have HB := Aside0.mk (below_step (by repeat (first | (with_reducible first | exact HB.out | apply below_alloc | apply pw_below_drewN | apply below_drew1) | exact HB.out)) hb); clear hb)
              | (go_at_call 22; (with_reducible refine (QFnNumbers.impl_ReadShort.calls k a 0 (⟨#[97, 98, 99]⟩ : ByteArray) (a.size : Int) true _ g6).mono ?_); rintro e w9 ⟨rfl, ⟨nd9, rfl⟩⟩)
              | (go_at_call 23; (with_reducible refine (QFnNumbers.impl_Hex.calls k (⟨#[97, 98, 99]⟩ : ByteArray) h true _ g7).mono ?_); rintro e w10 ⟨rfl, hb⟩; have HB := Aside0.mk (below_step (by repeat (first | (with_reducible first | exact HB.out | apply below_alloc | apply pw_below_drewN | apply below_drew1) | exact HB.out)) hb); clear hb)
              | (go_at_call 24; (with_reducible refine (QFnNumbers.impl_Unhex.calls k h (⟨#[97, 98, 99]⟩ : ByteArray) true _ g8).mono ?_); rintro e w11 ⟨rfl, hb⟩; have HB := Aside0.mk (below_step (by repeat (first | (with_reducible first | exact HB.out | apply below_alloc | apply pw_below_drewN | apply below_drew1) | exact HB.out)) hb); clear hb))
        go_ret
        exact ⟨by first | rfl | (simp; done), (by repeat (first | (with_reducible first | exact HB.out | apply below_alloc | apply pw_below_drewN | apply below_drew1) | exact HB.out))⟩
abbrev laid : List (String × DataW Unit) := [("math/bits.deBruijn32tab", Rows.laid_math_bits_deBruijn32tab), ("math/bits.deBruijn64tab", Rows.laid_math_bits_deBruijn64tab), ("internal/strconv.uint64pow10", Rows.laid_internal_strconv_uint64pow10), ("strconv.ErrRange", Rows.laid_strconv_ErrRange), ("strconv.ErrSyntax", Rows.laid_strconv_ErrSyntax)]
theorem tab_of {W : World} (h : laidMet Tryd.prog laid W) : Tab W :=
  Lib.tabIs_of_head (g := 3) (t := 91) (e := 75) (n := 20) (by kernel_rfl) (by kernel_rfl) Tryd.underlying91 Tryd.underlying75 (by kernel_rfl) (by kernel_rfl) (show laidMet Tryd.prog [("internal/strconv.uint64pow10", Lib.tabData .u64 Lib.pow10Tab), ("strconv.ErrRange", Rows.laid_strconv_ErrRange), ("strconv.ErrSyntax", Rows.laid_strconv_ErrSyntax)] W from laidMet.tail (laidMet.tail h))
theorem star : "*" ++ "errors.errorString" = "*errors.errorString" := by decide
theorem rowE (u : TypeId) (h : Tryd.prog.typeName? 3 u = some "*errors.errorString") : u = 97 :=
  typeName_ptr_named (nm := "errors.errorString") (by rw [star]; kernel_rfl) (by kernel_rfl) (by decide) u (by rw [star]; exact h)
theorem errs_of {W : World} (h : laidMet Tryd.prog laid W) : Errs W := by
  have h3 := laidMet.tail (laidMet.tail (laidMet.tail h))
  obtain ⟨a0, s0, hv0, -, -, -⟩ := laid_sentinel h3 (g := 1) (by kernel_rfl) (by kernel_rfl) Tryd.underlying45 rowE Tryd.underlying97 Tryd.underlying99 rfl rfl Tryd.underlying9 (by kernel_rfl) (by kernel_rfl)
  obtain ⟨a1, s1, hv1, -, -, -⟩ := laid_sentinel (laidMet.tail h3) (g := 0) (by kernel_rfl) (by kernel_rfl) Tryd.underlying45 rowE Tryd.underlying97 Tryd.underlying99 rfl rfl Tryd.underlying9 (by kernel_rfl) (by kernel_rfl)
  exact ⟨_, _, _, _, hv1, hv0⟩
theorem own : ownKnob Tryd.prog.godebug = none := by kernel_rfl
def IsRow (k : IntKind) (w : World) (a : Option Addr) (len cap : Nat) (zs : List Int) : Prop :=
  (a = none ∧ len = 0 ∧ cap = 0 ∧ zs = []) ∨
  ∃ x, a = some x ∧ len ≤ cap ∧ cap ≤ maxLen ∧ zs.length = cap ∧ (∀ i, i < zs.length → w.cell? (x.add i) = some (.int k (zs.getD i 0))) ∧ ∀ n ∈ zs, (Lit.int k n).wf = true
theorem laidOut : laidOutB Tryd.prog = true := by kernel_rfl
set_option maxRecDepth 100000 in
theorem lifted (os : Os) (started : os.Started) (H : Type) (enc : TypeId × Value → H) :
    ReturnsInHanded {} Tryd.checked os 6 .any (fun w args => (Rows.fnNumbersSpec.pre enc Tryd.prog Tryd.f6 Rows.fnNumbersRow.domain false w args ∧ laidMetH Tryd.prog laid w) ∧ sizedMet enc Tryd.prog Tryd.f6 (OpenSpec.ofChange Rows.fnNumbersSpec) false w args)
      (Rows.fnNumbersSpec.post enc Tryd.prog Tryd.f6 false true false false) := by
  refine returnsInHanded_of_change_and (C := Tryd.checked) (X := fun w _ => laidMetH Tryd.prog laid w) (fun _ _ _ hh h => h.of_heap hh) own started (by kernel_rfl) Tryd.func6
    (ChangeSpec.witness_shaped (enc := enc) (C := Tryd.checked) (os := os) (X := fun w _ => laidMetH Tryd.prog laid w) false (World.laidAll Tryd.prog os laid) #[.slice none 0 0] 8 (World.laidAll_os _ _ _)
      (World.shaped_of_ZipB (by kernel_rfl) (by kernel_rfl)) (by kernel_rfl) (by kernel_rfl) (by kernel_rfl)
      (by rw [MakeChecks.laidMetH_plain _ _ _ (by kernel_rfl)]; exact laidMet_laidAll _ (by kernel_rfl) (by kernel_rfl))) ?_
  intro W base args ds gs before hval0 hW _ _ hL _
  have hval : ∀ (j : Nat) t v, Tryd.f6.params[j]? = some t → args[j]? = some v → Value.okWide Tryd.prog W .any base t v := hval0
  have hW' := hW
  obtain ⟨p, q, hA0, hV, rfl, _, _⟩ := hW
  have hA : DataW.TrodAll enc Tryd.prog W 0 (fun _ => true) true Tryd.f6.params.toList args.toList ds p := hA0
  rw [Tryd.params6] at hA hval
  obtain ⟨v0, vs0, d0, ds0, p0, q0, hargs, rfl, rfl, h0, r0⟩ := trodAll_cons hA
  obtain ⟨rfl, rfl, rfl⟩ := trodAll_nil r0
  obtain rfl : args = #[v0] := by cases args; simp_all
  obtain ⟨rfl, rfl⟩ := trodVars_none hV
  obtain ⟨a0, len0, cap0, rfl⟩ := okWide_slice Tryd.underlying32 (hval 0 32 v0 rfl rfl)
  have k0 := h0
  have lt0 : ∀ x ∈ p0, x.block < W.heap.size := by obtain ⟨m, hm⟩ := k0; exact DataW.trod_lt m _ _ _ hm
  obtain ⟨z0, w0⟩ : ∃ zs, IsRow .u8 W a0 len0 cap0 zs := by
    obtain ⟨fuel, hf⟩ := h0
    rcases open_ints Tryd.underlying32 Tryd.underlying5 (by kernel_rfl) hf with ⟨hcs, _⟩ | ⟨x, l, c, zs, hcs, _, hl, hm, hz, _, hcell, hwz⟩
    · simp [Value.cells] at hcs
      obtain ⟨rfl, rfl, rfl⟩ := hcs
      exact ⟨[], .inl ⟨rfl, rfl, rfl, rfl⟩⟩
    · simp [Value.cells] at hcs
      obtain ⟨rfl, rfl, rfl⟩ := hcs
      exact ⟨zs, .inr ⟨_, rfl, hl, hm, by simpa using hz, hcell, hwz⟩⟩
  rw [MakeChecks.laidMetH_plain _ _ _ (by kernel_rfl)] at hL
  obtain ⟨l0, rfl, hr0, hm0, hw0, hc0⟩ := ReadsInt.ofRowC w0
  refine (law.calls _ _ l0 W (Kd.C_of_reads (d := (0 : Int)) (h1 := fun _ => rfl) hr0) hc0 (tab_of hL) (errs_of hL)).mono fun e W' ⟨he, bel⟩ => ?_
  subst he
  exact ⟨_, rfl, _, _, _, [], _, [], hW', trodAll_mk1 (shut_bool Tryd.underlying4 _), (trodAll_cons_mk (Below.trod laidOut (by kernel_rfl) (of_decide_eq_true (by kernel_rfl)) k0 bel lt0) trodAll_mk0), rfl, bel.frame _, fun h => by cases h⟩
theorem over : Rows.FnNumbersSaid :=
  OpenClaim.holds_of_wide 6 Tryd.f6 rfl rfl rfl rfl rfl rfl rfl ⟨rfl, rfl, rfl, rfl, rfl⟩ rfl rfl rfl rfl rfl (by kernel_rfl) Tryd.func6 (by kernel_rfl)
    (of_decide_eq_true (by kernel_rfl)) (by unfold Func.isWrapper; first | (rw [if_pos (by decide +kernel)]; kernel_rfl) | (rw [if_neg (by decide +kernel)]; exact ⟨rfl, rfl⟩))
    (fun os started H enc _ => lifted os started H enc)
end Go.Proofs.YtcmgaldejpkeaaaDoor.fnNumbers
namespace Go.Proofs.YtcmgaldejpkeaaaDoor
open Go
theorem fnNumbers_holds : Rows.FnNumbersCardSaid :=
  Claim7.holds_tied_plain_at .later [] [.data, .data, .data, .sentinel, .sentinel] true (true, "0ebb6ba126620beea6a4da20606125f51bfe14b2c1a98e3c3cce7bbd5fc3b7a2") true fnNumbers.over (fun _ h => by cases h) (by kernel_rfl) (fun _ h => by cases h) fnNumbers_row_tie rfl ⟨rfl, rfl⟩ (by kernel_rfl) rfl
    (fun f fn hf hfn => by
      obtain rfl : f = 6 := Option.some.inj ((show Tryd.prog.funcNamed "loop.example/g00105/laws.FnNumbers" = some 6 by kernel_rfl).symm.trans hf) |>.symm
      obtain rfl : fn = Tryd.f6 := (Option.some.inj (Tryd.func6.symm.trans hfn)).symm
      exact ⟨by kernel_rfl, fun j t ht => by
        rw [Tryd.params6] at ht
        have hm : t ∈ [32] := by simpa using Array.mem_of_getElem? ht
        have hall : ([32].all fun u => !Tryd.prog.wantsStandIn u) = true := by kernel_rfl
        exact (show Tryd.prog.wantsStandIn t = false by simpa using List.all_eq_true.1 hall t hm)⟩)
    (by kernel_rfl)
#print axioms fnNumbers_holds
end Go.Proofs.YtcmgaldejpkeaaaDoor
