/- The walk of the law FnTurned: where its callees answer so (the pure side), the call returns true; what was there stands. -/
import Derived.Test.YtfmemcffbfahhaaQFnTurnedx2
import Derived.RegionTactic
import Derived.BigRegion
import Derived.ChangeAlike
import Derived.Lib.ConvBytes
import Derived.Laws.BytesArg
import Derived.OwnWalk
namespace Go.Proofs.Ytfmemcffbfahhaa.QFnTurned
open Go.RowKit Go.Proofs.YtfmemcffbfahhaaW.PrintWords Go.Proofs.YtfmemcffbfahhaaW.PrintLast Go.Proofs.YtfmemcffbfahhaaW.PrintMore
set_option linter.unusedVariables false
set_option linter.unusedSimpArgs false

theorem tmod_pos_ {a b : Int} (h : 0 ≤ a) : Int.tmod a b = a % b := Int.tmod_eq_emod_of_nonneg h
theorem cell_at_ {w : World} {g j : Nat} {u : Value} (h : w.cell? ⟨g, j, none⟩ = some u) (v : Value) : (w.setCell ⟨g, j, none⟩ v).cell? ⟨g, j, none⟩ = some v := World.cell?_setCell_same _ _ _ h
theorem cell_off_ {w : World} {g j i : Nat} (h : j ≠ i) (v : Value) : (w.setCell ⟨g, i, none⟩ v).cell? ⟨g, j, none⟩ = w.cell? ⟨g, j, none⟩ :=
  World.cell?_setCell_other _ _ _ _ (fun e => h (by have := congrArg Addr.off e; exact this.symm))
/-- The new row, told by its cells. -/
theorem conv_to (w : World) (s : ByteArray) (hu9 : Try.prog.underlying 9 = some .string) (hu22 : Try.prog.underlying 22 = some (.slice 5)) (hu5 : Try.prog.underlying 5 = some (.int .u8)) :
    ∃ (w1 : World) (cap : Nat), (convert 9 22 (.string s)).run Try.prog w = .ok (.slice (some ⟨w.heap.size, 0, none⟩) s.size cap) w1 ∧ s.size ≤ cap ∧ Below w.heap.size w w1 ∧
      (∀ j, j < s.size → w1.cell? ⟨w.heap.size, j, none⟩ = some (.int .u8 (s.data.toList.getD j 0).toNat)) ∧ (∀ j, j < s.size → w1.frozen? ⟨w.heap.size, j, none⟩ = false) ∧ w1.heap.size = w.heap.size + 1 := by
  refine ⟨Lib.bytesWorld w 5 s, grownCap w s.size 0 5, Lib.run_convert_string_bytes w 9 22 5 s hu9 hu22 hu5, ?_, ?_, fun j hj => Lib.bytesWorld_cell w 5 s j hj, ?_, Lib.bytesWorld_size w 5 s⟩
  · exact grownCap_ge w s.size 0 5
  · exact ⟨rfl, rfl, rfl, by rw [Lib.bytesWorld_size]; omega, fun k hk => Lib.bytesWorld_at_old w 5 s k hk⟩
  · intro j hj
    have hc : j < (Lib.bytesCells w 5 s).size := by
      have : s.data.size = s.size := rfl
      unfold Lib.bytesCells
      simp
      omega
    simp only [World.frozen?, Lib.bytesWorld_at_new]
    simp
    omega
set_option maxHeartbeats 4000000 in
set_option maxRecDepth 100000 in
theorem laws_FnTurned.calls (k : Nat) (A0 : Option Addr) (c0 : Nat) (b : List Int) (s t : ByteArray) (P : List Int) (p0 p1 c v q q2 : Int) (i : Nat) (w : World)
    (hr0 : Kd.C (Kd.int .u8) w A0 b.length b) (hc0 : b.length ≤ c0)
    (hbig : laws_big.f b = some false) (hS : spec_DrawSumOf.f k b = some s) (hP : spec_DrawPlaces.f k b = some P)
    (hT : impl_Sealed.f k s = some (t, true)) (hU : impl_Unsealed.f k t = some (s, true)) (ht : t.size = s.size + 4) (hs : s.size ≤ 100)
    (hPl : P.length = 12) (e0 : rd P 0 = p0) (e1 : rd P 1 = p1) (h0 : 0 ≤ p0 ∧ p0 < 10000) (h1 : 0 ≤ p1 ∧ p1 < 10000)
    (hi : p0 % (t.size : Int) = (i : Int)) (hit : i < t.size) (hc : ((t.data.toList.getD i 0).toNat : Int) = c) (hcb : 0 ≤ c ∧ c < 256) (hv : Go.bits .xor .u8 c (1 + p1 % 255) = v) (hvb : 0 ≤ v ∧ v < 256)
    (xs : List Int) (hxs : xs.length = t.size) (hx : ∀ j, j < t.size → xs.getD j 0 = if j = i then v else ((t.data.toList.getD j 0).toNat : Int))
    (hX : impl_Unsealed.f k (strOfNums xs) = some (⟨#[]⟩, false)) (hQ : impl_SumOf.f k s = some q) (hM : impl_SumMore.f k q ⟨#[120]⟩ = some q2) (hN : impl_SumOf.f k (s ++ ⟨#[120]⟩) = some q2) :
    Calls Try.prog 10 #[.slice A0 b.length c0] w fun e w' => e = .returned (.bool true) ∧ Below w.heap.size w w' := by
  have HB := Aside0.mk (Below.refl w.heap.size w)
  have HR0 := Aside0.mk hr0
  have HI := Aside0.mk hi
  have HPL := Aside0.mk hPl
  have HX := Aside0.mk hx
  have HC := Aside0.mk hc
  have HV := Aside0.mk hv
  have E0 := Aside0.mk e0
  have E1 := Aside0.mk e1
  have HT_ := Aside0.mk ht
  have HXS := Aside0.mk hxs
  clear hr0 hi hPl hx hc hv e0 e1 hxs ht
  go_enter Try.func10, Try.ntmps10
  go_upto_region 7 with (first
    | (go_at_call 12; (with_reducible refine (laws_big.calls _ _ b false _ HR0.out hc0 hbig).mono ?_); rintro e w1 ⟨rfl, ⟨nd, rfl⟩⟩)
    | (go_at_call 46; (with_reducible refine (spec_DrawSumOf.calls k _ _ b s _ ?side1 hc0 hS).mono ?_); (case side1 => repeat (first | exact HR0.out | (with_reducible refine Kd.C_drewN ?_ _))); rintro e w2 ⟨rfl, hb⟩; have HB := Aside0.mk (below_step (by repeat (first | (with_reducible first | exact HB.out | apply below_alloc | apply pw_below_drewN | apply below_drew1) | exact HB.out)) hb); clear hb)
    | (go_at_call 14; (with_reducible refine (spec_DrawPlaces.calls k _ _ b P _ ?side1 hc0 hP).mono ?_); (case side1 => exact Kd.C_below HR0.out (by repeat (first | (with_reducible first | exact HB.out | apply below_alloc | apply pw_below_drewN | apply below_drew1) | exact HB.out))); rintro e w3 ⟨v0, rfl, hR, hb⟩; have HB := Aside0.mk (below_step (by repeat (first | (with_reducible first | exact HB.out | apply below_alloc | apply pw_below_drewN | apply below_drew1) | exact HB.out)) hb); clear hb)
    | (go_at_call 47; (with_reducible refine (impl_Sealed.calls k s t true _ hT).mono ?_); rintro e w4 ⟨rfl, hb⟩; have HRb := Aside0.mk hb; have HB := Aside0.mk (below_step (by repeat (first | (with_reducible first | exact HB.out | apply below_alloc | apply pw_below_drewN | apply below_drew1) | exact HB.out)) hb); clear hb)
    | (go_at_call 48; (with_reducible refine (impl_Unsealed.calls k t s true _ hU).mono ?_); rintro e w5 ⟨rfl, hb⟩; have HRc := Aside0.mk hb; have HB := Aside0.mk (below_step (by repeat (first | (with_reducible first | exact HB.out | apply below_alloc | apply pw_below_drewN | apply below_drew1) | exact HB.out)) hb); clear hb))
  have hR5 := Kd.R_below (Kd.R_below hR HRb.out) HRc.out
  clear hR
  obtain ⟨gp, cp, ev0, _, hgl, _⟩ := Kd.R_form hR5 (by rw [HPL.out]; omega)
  subst ev0
  have hp0 : w5.cell? ⟨gp, 0, none⟩ = some (.int .i64 p0) := by
    have := (Kd.R_cell (0 : Int) hR5 0 (by omega) (by rw [HPL.out]; omega)).1
    rw [← E0.out]; exact this
  have hp1 : w5.cell? ⟨gp, 1, none⟩ = some (.int .i64 p1) := by
    have := (Kd.R_cell (0 : Int) hR5 1 (by omega) (by rw [HPL.out]; omega)).1
    rw [← E1.out]; exact this
  have HR5 := Aside0.mk hR5
  clear hR5
  have hl1 : ((t.size : Int) != (s.size : Int) + 4) = false := by rw [HT_.out]; simp
  have hl2 : ((t.size : Int) == (s.size : Int) + 4) = true := by rw [HT_.out]; simp
  have hlP := HPL.out
  go_upto_region 9 with (fail)
  obtain ⟨w6, cap, hconv, hcap, hb6, hcell, hfr, hsz6⟩ := conv_to w5 t Try.underlying9 Try.underlying22 Try.underlying5
  have HCELL := Aside0.mk hcell
  have hcap6 := Aside0.mk hcap
  have HSZ := Aside0.mk hsz6
  have hq0 : w6.cell? ⟨gp, 0, none⟩ = some (.int .i64 p0) := (hb6.cell hgl).trans hp0
  have hq1 : w6.cell? ⟨gp, 1, none⟩ = some (.int .i64 p1) := (hb6.cell hgl).trans hp1
  have HB6 := Aside0.mk (below_step HB.out hb6)
  have hci : w6.cell? ⟨w5.heap.size, i, none⟩ = some (.int .u8 c) := by rw [hcell i hit, HC.out]
  have hfi : w6.frozen? ⟨w5.heap.size, i, none⟩ = false := hfr i hit
  clear hb6 hcell hfr hp0 hp1 hcap hsz6
  obtain ⟨g6, hg6⟩ : ∃ g6, g6 = w5.heap.size := ⟨_, rfl⟩
  rw [← hg6] at hconv hci hfi HCELL
  have HG6 := Aside0.mk hg6
  clear hg6
  have hne : gp ≠ g6 := Nat.ne_of_lt (by have := HG6.out; omega)
  have hne' : g6 ≠ gp := fun h => hne h.symm
  have htp : 0 < t.size := by omega
  have htn : ((t.size : Int) == 0) = false := beq_eq_false_iff_ne.mpr (by omega)
  have hd1 : p0 % (t.size : Int) = (i : Int) := HI.out
  have hd2 : Int.tmod p0 (t.size : Int) = (i : Int) := by rw [tmod_pos_ h0.1]; exact hd1
  go_upto_region 11 with (fail)
  clear htn hd1 hd2 htp
  have hi0 : 0 ≤ (i : Int) := Int.natCast_nonneg i
  have hi1 : (i : Int) < (t.size : Int) := by omega
  have hp255 : Int.tmod p1 255 = p1 % 255 := tmod_pos_ h1.1
  go_cut [] (fun wc => Aside0 (∀ j, j < t.size → wc.cell? ⟨g6, j, none⟩ = some (.int .u8 (xs.getD j 0))) ∧ Aside0 (Below w.heap.size w wc))
  case first =>
    have hvv := HV.out
    go_region
    all_goals (try go_wp2)
    all_goals go_meet
    case rel =>
      refine ⟨⟨fun j hj => ?_⟩, ⟨?_⟩⟩
      · have hh := HCELL.out j hj
        rw [HX.out j hj]
        by_cases e : j = i
        · subst e
          rw [if_pos rfl]
          exact cell_at_ hh _
        · rw [if_neg e]
          exact (cell_off_ (fun h => e h) _).trans hh
      · exact (HB6.out.setCell (p := ⟨g6, i, none⟩) (by have := HG6.out; have := HB.out.size; show w.heap.size ≤ g6; omega) _).drew
  case rest =>
    obtain ⟨HCX, HBX⟩ := hcut
    clear HB HB6 hci hfi hq0 hq1 HCELL hconv
    have HB := HBX
    have hback := run_convert_bytes_arg wc 22 5 Try.underlying22 Try.underlying5 g6 0 t.size cap xs HXS.out (fun j hj => by rw [Nat.zero_add]; exact HCX.out j hj) 9 Try.underlying9
    have hsz := Aside0.mk hs
    have hx1 : (s ++ (⟨#[120]⟩ : ByteArray)).size = s.size + 1 := by rw [ByteArray.size_append]; rfl
    have hx2 : (9223372036854775807 < s.size + 1) = False := eq_false (by omega)
    have hx3 : (9223372036854775807 < (s ++ (⟨#[120]⟩ : ByteArray)).size) = False := eq_false (by omega)
    have hx4 : (⟨#[120]⟩ : ByteArray).size = 1 := rfl
    go_wp2_with (first
      | (go_at_call 48; (with_reducible refine (impl_Unsealed.calls k (strOfNums xs) ⟨#[]⟩ false _ hX).mono ?_); rintro e w7 ⟨rfl, hb⟩; have HB := Aside0.mk (below_step (by repeat (first | (with_reducible first | exact HB.out | apply below_alloc | apply pw_below_drewN | apply below_drew1) | exact HB.out)) hb); clear hb)
      | (go_at_call 50; (with_reducible refine (impl_SumOf.calls k s q _ hQ).mono ?_); rintro e w8 ⟨rfl, ⟨nd, rfl⟩⟩)
      | (go_at_call 49; (with_reducible refine (impl_SumMore.calls k q ⟨#[120]⟩ q2 _ hM).mono ?_); rintro e w9 ⟨rfl, ⟨nd, rfl⟩⟩)
      | (go_at_call 50; (with_reducible refine (impl_SumOf.calls k (s ++ ⟨#[120]⟩) q2 _ hN).mono ?_); rintro e w10 ⟨rfl, ⟨nd, rfl⟩⟩))
    go_ret
    exact ⟨rfl, by repeat (first | (with_reducible first | exact HB.out | apply below_alloc | apply pw_below_drewN | apply below_drew1) | exact HB.out)⟩
/-- What the pure side shows. -/
def laws_FnTurned.Good (b : List Int) : Prop := ∃ (k : Nat) (s t : ByteArray) (P : List Int) (p0 p1 c v q q2 : Int) (i : Nat) (xs : List Int),
  (laws_big.f b = some false) ∧
  (spec_DrawSumOf.f k b = some s) ∧
  (spec_DrawPlaces.f k b = some P) ∧
  (impl_Sealed.f k s = some (t, true)) ∧
  (impl_Unsealed.f k t = some (s, true)) ∧
  (t.size = s.size + 4) ∧
  (s.size ≤ 100) ∧
  (P.length = 12) ∧
  (rd P 0 = p0) ∧
  (rd P 1 = p1) ∧
  (0 ≤ p0 ∧ p0 < 10000) ∧
  (0 ≤ p1 ∧ p1 < 10000) ∧
  (p0 % (t.size : Int) = (i : Int)) ∧
  (i < t.size) ∧
  (((t.data.toList.getD i 0).toNat : Int) = c) ∧
  (0 ≤ c ∧ c < 256) ∧
  (Go.bits .xor .u8 c (1 + p1 % 255) = v) ∧
  (0 ≤ v ∧ v < 256) ∧
  (xs.length = t.size) ∧
  (∀ j, j < t.size → xs.getD j 0 = if j = i then v else ((t.data.toList.getD j 0).toNat : Int)) ∧
  (impl_Unsealed.f k (strOfNums xs) = some (⟨#[]⟩, false)) ∧
  (impl_SumOf.f k s = some q) ∧
  (impl_SumMore.f k q ⟨#[120]⟩ = some q2) ∧
  (impl_SumOf.f k (s ++ ⟨#[120]⟩) = some q2)
theorem laws_FnTurned.good (A0 : Option Addr) (c0 : Nat) (b : List Int) (w : World) (hr0 : Kd.C (Kd.int .u8) w A0 b.length b) (hc0 : b.length ≤ c0) (h : laws_FnTurned.Good b) : Calls Try.prog 10 #[.slice A0 b.length c0] w fun e w' => e = .returned (.bool true) ∧ Below w.heap.size w w' := by
  obtain ⟨k, s, t, P, p0, p1, c, v, q, q2, i, xs, hbig, hS, hP, hT, hU, ht, hs, hPl, e0, e1, h0, h1, hi, hit, hc, hcb, hv, hvb, hxs, hx, hX, hQ, hM, hN⟩ := h
  exact laws_FnTurned.calls k A0 c0 b s t P p0 p1 c v q q2 i w hr0 hc0 hbig hS hP hT hU ht hs hPl e0 e1 h0 h1 hi hit hc hcb hv hvb xs hxs hx hX hQ hM hN
theorem laws_FnTurned.bigc (A0 : Option Addr) (c0 : Nat) (b : List Int) (w : World) (hr0 : Kd.C (Kd.int .u8) w A0 b.length b) (hc0 : b.length ≤ c0) (hbig : laws_big.f b = some true) : Calls Try.prog 10 #[.slice A0 b.length c0] w fun e w' => e = .returned (.bool true) ∧ Below w.heap.size w w' := by
  have HB := Aside0.mk (Below.refl w.heap.size w)
  go_enter Try.func10, Try.ntmps10
  go_wp2_with (first | (go_at_call 12; (with_reducible refine (laws_big.calls _ _ b true _ hr0 hc0 hbig).mono ?_); rintro e w1 ⟨rfl, ⟨nd, rfl⟩⟩))
  go_ret
  exact ⟨rfl, by repeat (first | (with_reducible first | exact HB.out | apply below_alloc | apply pw_below_drewN | apply below_drew1) | exact HB.out)⟩
/-- THE ONE PURE STATEMENT. -/
def laws_FnTurned.Pure : Prop := ∀ (l0 : List Int), l0.length ≤ maxLen → l0.length * 1 ≤ 140737488351232 → (∀ x ∈ l0, (Lit.int .u8 x).wf = true) → laws_big.f l0 = some true ∨ laws_FnTurned.Good l0
theorem laws_FnTurned.walk (P : laws_FnTurned.Pure) (a0 : Option Addr) (len0 cap0 : Nat) (z0 : List Int) (w : World) (w0 : (a0 = none ∧ len0 = 0 ∧ cap0 = 0 ∧ z0 = []) ∨ ∃ x, a0 = some x ∧ len0 ≤ cap0 ∧ cap0 ≤ maxLen ∧ z0.length = cap0 ∧ (∀ i, i < z0.length → w.cell? (x.add i) = some (.int .u8 (z0.getD i 0))) ∧ ∀ n ∈ z0, (Lit.int .u8 n).wf = true) (y0 : len0 * 1 ≤ 140737488351232) :
    Calls Try.prog 10 #[.slice a0 len0 cap0] w fun e w' => e = .returned (.bool true) ∧ Below w.heap.size w w' := by
  obtain ⟨l0, rfl, hr0, hm0, hw0, hc0⟩ := ReadsInt.ofRowC w0
  rcases P l0 hm0 y0 hw0 with h | h
  · exact laws_FnTurned.bigc _ _ l0 w (Kd.C_of_reads (d := (0 : Int)) (h1 := fun _ => rfl) hr0) hc0 h
  · exact laws_FnTurned.good _ _ l0 w (Kd.C_of_reads (d := (0 : Int)) (h1 := fun _ => rfl) hr0) hc0 h

end Go.Proofs.Ytfmemcffbfahhaa.QFnTurned
