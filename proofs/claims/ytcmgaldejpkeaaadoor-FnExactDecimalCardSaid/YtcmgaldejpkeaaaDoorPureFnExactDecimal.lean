/- The reference's Decimal comes to the decimal figures of its number, for every number. -/
import Derived.Test.YtcmgaldejpkeaaaDoorQFnExactDecimalx1
import Derived.Laws.BitsAllLaws
import Derived.Lib.ItoaNum
namespace Go.Proofs.YtcmgaldejpkeaaaDoor.Pure
open Go.RowKit Go.Proofs.YtcmgaldejpkeaaaDoor.QFnExactDecimal Go.Proofs.YtcmgaldejpkeaaaDoorW.PrintWords Go.Proofs.YtcmgaldejpkeaaaDoorW.PrintLast
set_option linter.unusedVariables false
set_option linter.unusedSimpArgs false
set_option maxHeartbeats 4000000

theorem wid {n : Int} (h0 : -9223372036854775808 ≤ n) (h1 : n < 9223372036854775808) : wrap64 n = n := by unfold wrap64; omega
theorem _root_.Go.Proofs.YtcmgaldejpkeaaaDoorW.PrintWords.Ev.ofEq {α : Type} {g : Nat → Option α} {r q : α} (h : Ev g r) (e : r = q) : Ev g q := e ▸ h
theorem _root_.Go.Proofs.YtcmgaldejpkeaaaDoorW.PrintWords.Ev.same {α : Type} {o : Option α} {r : α} (h : o = some r) : Ev (fun _ => o) r := ⟨0, fun _ _ => h⟩
theorem _root_.Go.Proofs.YtcmgaldejpkeaaaDoorW.PrintWords.Ev.to {α : Type} {g f : Nat → Option α} {r : α} (k : Ev f r) (h : ∀ k, g (k + 1) = f k) : Ev g r := Ev.step h k
theorem _root_.Go.Proofs.YtcmgaldejpkeaaaDoorW.PrintWords.Ev.cg {α : Type} {g f : Nat → Option α} {r : α} (k : Ev f r) (h : ∀ k, g k = f k) : Ev g r := Ev.congr h k
theorem _root_.Go.Proofs.YtcmgaldejpkeaaaDoorW.PrintWords.Ev.ifp {α : Type} {c : Prop} [Decidable c] {g f : Nat → Option α} {r : α} (h : c) (e : Ev g r) : Ev (fun k => if c then g k else f k) r := by simp only [if_pos h]; exact e
theorem _root_.Go.Proofs.YtcmgaldejpkeaaaDoorW.PrintWords.Ev.ifn {α : Type} {c : Prop} [Decidable c] {g f : Nat → Option α} {r : α} (h : ¬ c) (e : Ev f r) : Ev (fun k => if c then g k else f k) r := by simp only [if_neg h]; exact e
/-- The bytes of a string, as numbers. -/
def bl (s : ByteArray) : List Int := s.data.toList.map fun b => (b.toNat : Int)
theorem bl_len (s : ByteArray) : (bl s).length = s.size := by unfold bl; rw [List.length_map]; rfl
def Byt (xs : List Int) : Prop := ∀ x ∈ xs, 0 ≤ x ∧ x < 256
theorem Byt.nil : Byt [] := fun _ h => by simp at h
theorem Byt.cons {x : Int} {xs : List Int} (h : 0 ≤ x ∧ x < 256) (h' : Byt xs) : Byt (x :: xs) := fun y hy => by
  rcases List.mem_cons.1 hy with rfl | hy
  · exact h
  · exact h' y hy
theorem Byt.app {xs ys : List Int} (h : Byt xs) (h' : Byt ys) : Byt (xs ++ ys) := fun y hy => by
  rcases List.mem_append.1 hy with hy | hy
  · exact h y hy
  · exact h' y hy
theorem Byt.left {xs ys : List Int} (h : Byt (xs ++ ys)) : Byt xs := fun y hy => h y (List.mem_append_left _ hy)
theorem Byt.right {xs ys : List Int} (h : Byt (xs ++ ys)) : Byt ys := fun y hy => h y (List.mem_append_right _ hy)
theorem Byt.tail {x : Int} {xs : List Int} (h : Byt (x :: xs)) : Byt xs := fun y hy => h y (List.mem_cons_of_mem _ hy)
theorem Byt.head {x : Int} {xs : List Int} (h : Byt (x :: xs)) : 0 ≤ x ∧ x < 256 := h x (List.mem_cons_self ..)
theorem Byt.drop {xs : List Int} (h : Byt xs) (n : Nat) : Byt (xs.drop n) := fun y hy => h y (List.mem_of_mem_drop hy)
theorem Byt.take {xs : List Int} (h : Byt xs) (n : Nat) : Byt (xs.take n) := fun y hy => h y (List.mem_of_mem_take hy)
theorem bl_byt (s : ByteArray) : Byt (bl s) := fun x hx => by
  obtain ⟨b, _, rfl⟩ := List.mem_map.1 hx
  have := b.toNat_lt
  omega
theorem u8_back (b : UInt8) : UInt8.ofNat ((b.toNat : Int)).toNat = b := by simp
theorem bl_str {xs : List Int} (h : Byt xs) : bl (strOfNums xs) = xs := by
  unfold bl
  rw [strOfNums_data, List.map_map]
  conv => rhs; rw [← List.map_id xs]
  apply List.map_congr_left
  intro x hx
  have := h x hx
  simp only [Function.comp, id]
  obtain ⟨n, rfl⟩ := Int.eq_ofNat_of_zero_le this.1
  simp
  omega
theorem str_bl (s : ByteArray) : strOfNums (bl s) = s := by
  unfold strOfNums bl
  rw [List.map_map]
  have : ((fun n : Int => UInt8.ofNat n.toNat) ∘ fun b : UInt8 => (b.toNat : Int)) = id := by
    funext b
    simp
  rw [this, List.map_id]
theorem bl_inj {a b : ByteArray} (h : bl a = bl b) : a = b := by rw [← str_bl a, ← str_bl b, h]
theorem bt_bl (s : ByteArray) (i : Int) : bt s i = (bl s).getD i.toNat 0 := by
  unfold bt
  split
  · rename_i h
    have hl : i.toNat < s.data.toList.length := h
    simp only [bl, List.getD_eq_getElem?_getD, List.getElem?_map, List.getElem?_eq_getElem hl, Option.map_some, Option.getD_some]
    rfl
  · rename_i h
    rw [List.getD_eq_getElem?_getD, List.getElem?_eq_none (by rw [bl_len]; omega)]
    rfl
theorem bl_app (a b : ByteArray) : bl (a ++ b) = bl a ++ bl b := by
  unfold bl
  rw [ByteArray.data_append, Array.toList_append, List.map_append]
theorem bl_ext (a : ByteArray) (i j : Nat) : bl (a.extract i j) = ((bl a).take j).drop i := by
  unfold bl
  rw [ByteArray.data_extract, Array.toList_extract, List.extract_eq_take_drop, List.map_take, List.map_drop, List.drop_take]
theorem bl_emp : bl (⟨#[]⟩ : ByteArray) = [] := rfl
theorem bl_cons {s : ByteArray} {i : Nat} (h : i < s.size) : (bl s).drop i = bt s (i : Int) :: (bl s).drop (i + 1) := by
  have hl : i < (bl s).length := by rw [bl_len]; exact h
  rw [List.drop_eq_getElem_cons hl, bt_bl, List.getD_eq_getElem?_getD, Int.toNat_natCast, List.getElem?_eq_getElem hl]
  rfl
theorem bl_end {s : ByteArray} {i : Nat} (h : s.size ≤ i) : (bl s).drop i = [] := List.drop_of_length_le (by rw [bl_len]; exact h)
theorem tl_inj {a b : ByteArray} : a.toList = b.toList ↔ a = b := by
  constructor
  · intro h
    rw [ByteArray.toList_eq, ByteArray.toList_eq] at h
    apply ByteArray.ext
    exact Array.toList_inj.1 h
  · rintro rfl; rfl
theorem tl_bl {a b : ByteArray} : a.toList = b.toList ↔ bl a = bl b := tl_inj.trans ⟨fun h => h ▸ rfl, bl_inj⟩
theorem tdiv_pos {a b : Int} (h : 0 ≤ a) : Int.tdiv a b = a / b := Int.tdiv_eq_ediv_of_nonneg h
theorem tmod_pos {a b : Int} (h : 0 ≤ a) : Int.tmod a b = a % b := Int.tmod_eq_emod_of_nonneg h
theorem bne_rfl_bool (b : Bool) : (b != b) = false := by cases b <;> rfl
theorem wf_u32 {n : Int} (h : (Lit.int .u32 n).wf = true) : 0 ≤ n ∧ n < 4294967296 := by
  have h1 : IntKind.u32.min = 0 := by decide +kernel
  have h2 : IntKind.u32.max = 4294967295 := by decide +kernel
  simp only [Lit.wf, h1, h2, Bool.and_eq_true, decide_eq_true_eq] at h
  omega
theorem wf_i64 {n : Int} (h : (Lit.int .i64 n).wf = true) : -9223372036854775808 ≤ n ∧ n < 9223372036854775808 := by
  have h1 : IntKind.i64.min = -9223372036854775808 := by decide +kernel
  have h2 : IntKind.i64.max = 9223372036854775807 := by decide +kernel
  simp only [Lit.wf, h1, h2, Bool.and_eq_true, decide_eq_true_eq] at h
  omega
theorem Byt.one {x : Int} (h : 0 ≤ x ∧ x < 256) : Byt [x] := Byt.nil.cons h
theorem bl_size (s : ByteArray) : s.size = (bl s).length := (bl_len s).symm
theorem str_len (xs : List Int) : (strOfNums xs).size = xs.length := strOfNums_size xs

/-! A number in figures -/
def decL (m : Nat) : List Int := (Go.Lib.decDigits m).map fun b => (b.toNat : Int)
def decT (n : Int) : ByteArray := ⟨(Go.Lib.itoa n).toArray⟩
theorem fig8 {u : Nat} (h : u < 10) : ((UInt8.ofNat (48 + u)).toNat : Int) = 48 + (u : Int) := by
  have : (UInt8.ofNat (48 + u)).toNat = (48 + u) % 256 := by simp
  omega
theorem decL_small {m : Nat} (h : m < 10) : decL m = [48 + (m : Int)] := by
  unfold decL
  rw [Go.Lib.decDigits, dif_pos h, List.map_cons, List.map_nil, fig8 h]
theorem decL_big {m : Nat} (h : ¬ m < 10) : decL m = decL (m / 10) ++ [48 + ((m % 10 : Nat) : Int)] := by
  unfold decL
  rw [Go.Lib.decDigits, dif_neg h, List.map_append, List.map_cons, List.map_nil, fig8 (by omega)]
theorem decT_bl (n : Int) : bl (decT n) = if n < 0 then 45 :: decL n.natAbs else decL n.toNat := by
  unfold decT bl Go.Lib.itoa decL
  split <;> simp
theorem fig_of {c : Int} (h0 : 0 ≤ c) (h1 : c < 10) : spec_l01Figure.f c = some (48 + c) := by
  unfold spec_l01Figure.f
  have w : wrap64 (48 + c) = 48 + c := wid (by omega) (by omega)
  rw [if_pos h1, w]
  congr 1
  omega
theorem sDec_go : ∀ (d m : Nat) (n : Int) (below : Bool) (acc : ByteArray), n.natAbs = m → m < 10 ^ d → m ≤ 9223372036854775808 → n < 9223372036854775808 → acc.size + d ≤ 1000 → ∃ s, Ev (fun k => spec_Decimal.l0 k n below acc) s ∧ bl s = (if below = true then [45] else []) ++ ((if m = 0 then [] else decL m) ++ bl acc)
  | d, 0, n, below, acc, hm, hd, hb, hb2, ha => by
    have hn : n = 0 := by omega
    cases below with
    | true =>
      refine ⟨(⟨#[45]⟩ : ByteArray) ++ acc, (Ev.now _).to fun k => ?_, by rw [bl_app]; rfl⟩
      simp only [spec_Decimal.l0, if_true]
      rw [if_pos hn, if_pos (by omega)]
    | false =>
      refine ⟨acc, (Ev.now _).to fun k => ?_, rfl⟩
      simp only [spec_Decimal.l0]
      rw [if_pos hn, if_neg (by decide)]
  | 0, m + 1, n, below, acc, hm, hd, hb, hb2, ha => by simp at hd
  | d + 1, m + 1, n, below, acc, hm, hd, hb, hb2, ha => by
    have hn : ¬ n = 0 := by omega
    rw [Nat.pow_succ] at hd
    have hc : (strOfNums [48 + (((m + 1) % 10 : Nat) : Int)] ++ acc).size = 1 + acc.size := by rw [ByteArray.size_append, str_len]; rfl
    have hs1 : (strOfNums [48 + (((m + 1) % 10 : Nat) : Int)]).size = 1 := by rw [str_len]; rfl
    have ht : (Int.tdiv n 10).natAbs = (m + 1) / 10 := by rw [Int.natAbs_tdiv, hm]; rfl
    have hsg : Int.tdiv n 10 < 9223372036854775808 ∧ -9223372036854775808 ≤ Int.tdiv n 10 := by omega
    obtain ⟨s, ev, hs⟩ := sDec_go d ((m + 1) / 10) (Int.tdiv n 10) below (strOfNums [48 + (((m + 1) % 10 : Nat) : Int)] ++ acc) ht (by omega) (by omega) (by omega) (by omega)
    have wq : Aside0 (wrap64 (Int.tdiv n 10) = Int.tdiv n 10) := ⟨wid hsg.2 hsg.1⟩
    refine ⟨s, ev.to fun k => ?_, ?_⟩
    · simp only [spec_Decimal.l0]
      rw [if_neg hn, wq.out]
      have hmod : (Int.tmod n 10).natAbs = (m + 1) % 10 := by rw [Int.natAbs_tmod, hm]; rfl
      by_cases hneg : Int.tmod n 10 < 0
      · have w : wrap64 (-(Int.tmod n 10)) = (((m + 1) % 10 : Nat) : Int) := by rw [wid (by omega) (by omega)]; omega
        rw [if_pos hneg, w, fig_of (by omega) (by omega)]
        simp only [Option.bind_some]
        rw [if_pos (by omega)]
      · have e : Int.tmod n 10 = (((m + 1) % 10 : Nat) : Int) := by omega
        rw [if_neg hneg, e, fig_of (by omega) (by omega)]
        simp only [Option.bind_some]
        rw [if_pos (by omega)]
    · rw [hs, bl_app, bl_str (Byt.one ⟨by omega, by omega⟩), if_neg (show ¬ m + 1 = 0 by omega)]
      by_cases h10 : m + 1 < 10
      · rw [if_pos (show (m + 1) / 10 = 0 by omega), decL_small h10, show ((m + 1) % 10 : Nat) = m + 1 by omega]
        rfl
      · rw [if_neg (show ¬ (m + 1) / 10 = 0 by omega), decL_big h10]
        simp
theorem sDecimal (n : Int) (h0 : -9223372036854775808 ≤ n) (h1 : n < 9223372036854775808) : Ev (fun k => spec_Decimal.f k n) (decT n) := by
  unfold spec_Decimal.f
  by_cases hn : n = 0
  · refine Ev.ofEq (Ev.ifp hn (Ev.now (⟨#[48]⟩ : ByteArray))) ?_
    apply bl_inj
    rw [decT_bl, if_neg (by omega), hn]
    exact (decL_small (m := 0) (by omega)).symm
  · obtain ⟨s, ev, hs⟩ := sDec_go 20 n.natAbs n (decide (n < 0)) ⟨#[]⟩ rfl (by omega) (by omega) h1 (by decide)
    refine Ev.ifn hn (Ev.ofEq ev ?_)
    apply bl_inj
    rw [hs, decT_bl, bl_emp, List.append_nil, if_neg (show ¬ n.natAbs = 0 by omega)]
    by_cases hb : n < 0
    · simp [hb]
    · simp only [hb, decide_false, Bool.false_eq_true, if_false, List.nil_append]
      rw [show n.natAbs = n.toNat by omega]

theorem sDecimal_ex (n : Int) (h0 : -9223372036854775808 ≤ n) (h1 : n < 9223372036854775808) : ∃ k, spec_Decimal.f k n = some (decT n) := by
  obtain ⟨k, h⟩ := sDecimal n h0 h1
  exact ⟨k, h k (Nat.le_refl _)⟩

end Go.Proofs.YtcmgaldejpkeaaaDoor.Pure
