/- The reference's ReadDecimal comes to the number whose figures the text is, for every text; and what the program's own way comes to. -/
import Derived.Test.YtcmgaldejpkeaaaDoorQFnExactReadDecimalx3
import Derived.Laws.BitsAllLaws
import Derived.Lib.ItoaNum
import Derived.Lib.AtoiAll
namespace Go.Proofs.YtcmgaldejpkeaaaDoor.Pure
open Go.RowKit Go.Proofs.YtcmgaldejpkeaaaDoor.QFnExactReadDecimal Go.Proofs.YtcmgaldejpkeaaaDoorW.PrintWords Go.Proofs.YtcmgaldejpkeaaaDoorW.PrintLast
set_option linter.unusedVariables false
set_option linter.unusedSimpArgs false
set_option maxHeartbeats 4000000

theorem wid {n : Int} (h0 : -9223372036854775808 ≤ n) (h1 : n < 9223372036854775808) : wrap64 n = n := by unfold wrap64; omega
theorem _root_.Go.Proofs.YtcmgaldejpkeaaaDoorW.PrintWords.Ev.ofEq {α : Type} {g : Nat → Option α} {r q : α} (h : Ev g r) (e : r = q) : Ev g q := e ▸ h
theorem _root_.Go.Proofs.YtcmgaldejpkeaaaDoorW.PrintWords.Ev.same {α : Type} {o : Option α} {r : α} (h : o = some r) : Ev (fun _ => o) r := ⟨0, fun _ _ => h⟩
theorem _root_.Go.Proofs.YtcmgaldejpkeaaaDoorW.PrintWords.Ev.to {α : Type} {g f : Nat → Option α} {r : α} (k : Ev f r) (h : ∀ k, g (k + 1) = f k) : Ev g r := Ev.step h k
theorem _root_.Go.Proofs.YtcmgaldejpkeaaaDoorW.PrintWords.Ev.cg {α : Type} {g f : Nat → Option α} {r : α} (k : Ev f r) (h : ∀ k, g k = f k) : Ev g r := Ev.congr h k
theorem _root_.Go.Proofs.YtcmgaldejpkeaaaDoorW.PrintWords.Ev.ifp {α : Type} {c : Prop} [Decidable c] {g f : Nat → Option α} {r : α} (h : c) (e : Ev g r) : Ev (fun k => if c then g k else f k) r := by simp only [if_pos h]; exact e
theorem _root_.Go.Proofs.YtcmgaldejpkeaaaDoorW.PrintWords.Ev.ifn {α : Type} {c : Prop} [Decidable c] {g f : Nat → Option α} {r : α} (h : ¬ c) (e : Ev f r) : Ev (fun k => if c then g k else f k) r := by simp only [if_neg h]; exact e
/-- The bytes of a string, as numbers. -/
def bl (s : ByteArray) : List Int := s.data.toList.map fun b => (b.toNat : Int)
theorem bl_len (s : ByteArray) : (bl s).length = s.size := by unfold bl; rw [List.length_map]; rfl
def Byt (xs : List Int) : Prop := ∀ x ∈ xs, 0 ≤ x ∧ x < 256
theorem Byt.nil : Byt [] := fun _ h => by simp at h
theorem Byt.cons {x : Int} {xs : List Int} (h : 0 ≤ x ∧ x < 256) (h' : Byt xs) : Byt (x :: xs) := fun y hy => by
  rcases List.mem_cons.1 hy with rfl | hy
  · exact h
  · exact h' y hy
theorem Byt.app {xs ys : List Int} (h : Byt xs) (h' : Byt ys) : Byt (xs ++ ys) := fun y hy => by
  rcases List.mem_append.1 hy with hy | hy
  · exact h y hy
  · exact h' y hy
theorem Byt.left {xs ys : List Int} (h : Byt (xs ++ ys)) : Byt xs := fun y hy => h y (List.mem_append_left _ hy)
theorem Byt.right {xs ys : List Int} (h : Byt (xs ++ ys)) : Byt ys := fun y hy => h y (List.mem_append_right _ hy)
theorem Byt.tail {x : Int} {xs : List Int} (h : Byt (x :: xs)) : Byt xs := fun y hy => h y (List.mem_cons_of_mem _ hy)
theorem Byt.head {x : Int} {xs : List Int} (h : Byt (x :: xs)) : 0 ≤ x ∧ x < 256 := h x (List.mem_cons_self ..)
theorem Byt.drop {xs : List Int} (h : Byt xs) (n : Nat) : Byt (xs.drop n) := fun y hy => h y (List.mem_of_mem_drop hy)
theorem Byt.take {xs : List Int} (h : Byt xs) (n : Nat) : Byt (xs.take n) := fun y hy => h y (List.mem_of_mem_take hy)
theorem bl_byt (s : ByteArray) : Byt (bl s) := fun x hx => by
  obtain ⟨b, _, rfl⟩ := List.mem_map.1 hx
  have := b.toNat_lt
  omega
theorem u8_back (b : UInt8) : UInt8.ofNat ((b.toNat : Int)).toNat = b := by simp
theorem bl_str {xs : List Int} (h : Byt xs) : bl (strOfNums xs) = xs := by
  unfold bl
  rw [strOfNums_data, List.map_map]
  conv => rhs; rw [← List.map_id xs]
  apply List.map_congr_left
  intro x hx
  have := h x hx
  simp only [Function.comp, id]
  obtain ⟨n, rfl⟩ := Int.eq_ofNat_of_zero_le this.1
  simp
  omega
theorem str_bl (s : ByteArray) : strOfNums (bl s) = s := by
  unfold strOfNums bl
  rw [List.map_map]
  have : ((fun n : Int => UInt8.ofNat n.toNat) ∘ fun b : UInt8 => (b.toNat : Int)) = id := by
    funext b
    simp
  rw [this, List.map_id]
theorem bl_inj {a b : ByteArray} (h : bl a = bl b) : a = b := by rw [← str_bl a, ← str_bl b, h]
theorem bt_bl (s : ByteArray) (i : Int) : bt s i = (bl s).getD i.toNat 0 := by
  unfold bt
  split
  · rename_i h
    have hl : i.toNat < s.data.toList.length := h
    simp only [bl, List.getD_eq_getElem?_getD, List.getElem?_map, List.getElem?_eq_getElem hl, Option.map_some, Option.getD_some]
    rfl
  · rename_i h
    rw [List.getD_eq_getElem?_getD, List.getElem?_eq_none (by rw [bl_len]; omega)]
    rfl
theorem bl_app (a b : ByteArray) : bl (a ++ b) = bl a ++ bl b := by
  unfold bl
  rw [ByteArray.data_append, Array.toList_append, List.map_append]
theorem bl_ext (a : ByteArray) (i j : Nat) : bl (a.extract i j) = ((bl a).take j).drop i := by
  unfold bl
  rw [ByteArray.data_extract, Array.toList_extract, List.extract_eq_take_drop, List.map_take, List.map_drop, List.drop_take]
theorem bl_emp : bl (⟨#[]⟩ : ByteArray) = [] := rfl
theorem bl_cons {s : ByteArray} {i : Nat} (h : i < s.size) : (bl s).drop i = bt s (i : Int) :: (bl s).drop (i + 1) := by
  have hl : i < (bl s).length := by rw [bl_len]; exact h
  rw [List.drop_eq_getElem_cons hl, bt_bl, List.getD_eq_getElem?_getD, Int.toNat_natCast, List.getElem?_eq_getElem hl]
  rfl
theorem bl_end {s : ByteArray} {i : Nat} (h : s.size ≤ i) : (bl s).drop i = [] := List.drop_of_length_le (by rw [bl_len]; exact h)
theorem tl_inj {a b : ByteArray} : a.toList = b.toList ↔ a = b := by
  constructor
  · intro h
    rw [ByteArray.toList_eq, ByteArray.toList_eq] at h
    apply ByteArray.ext
    exact Array.toList_inj.1 h
  · rintro rfl; rfl
theorem tl_bl {a b : ByteArray} : a.toList = b.toList ↔ bl a = bl b := tl_inj.trans ⟨fun h => h ▸ rfl, bl_inj⟩
theorem tdiv_pos {a b : Int} (h : 0 ≤ a) : Int.tdiv a b = a / b := Int.tdiv_eq_ediv_of_nonneg h
theorem tmod_pos {a b : Int} (h : 0 ≤ a) : Int.tmod a b = a % b := Int.tmod_eq_emod_of_nonneg h
theorem bne_rfl_bool (b : Bool) : (b != b) = false := by cases b <;> rfl
theorem wf_u32 {n : Int} (h : (Lit.int .u32 n).wf = true) : 0 ≤ n ∧ n < 4294967296 := by
  have h1 : IntKind.u32.min = 0 := by decide +kernel
  have h2 : IntKind.u32.max = 4294967295 := by decide +kernel
  simp only [Lit.wf, h1, h2, Bool.and_eq_true, decide_eq_true_eq] at h
  omega
theorem wf_i64 {n : Int} (h : (Lit.int .i64 n).wf = true) : -9223372036854775808 ≤ n ∧ n < 9223372036854775808 := by
  have h1 : IntKind.i64.min = -9223372036854775808 := by decide +kernel
  have h2 : IntKind.i64.max = 9223372036854775807 := by decide +kernel
  simp only [Lit.wf, h1, h2, Bool.and_eq_true, decide_eq_true_eq] at h
  omega
theorem Byt.one {x : Int} (h : 0 ≤ x ∧ x < 256) : Byt [x] := Byt.nil.cons h
theorem bl_size (s : ByteArray) : s.size = (bl s).length := (bl_len s).symm
theorem str_len (xs : List Int) : (strOfNums xs).size = xs.length := strOfNums_size xs

/-! A number in figures -/
def decL (m : Nat) : List Int := (Go.Lib.decDigits m).map fun b => (b.toNat : Int)
def decT (n : Int) : ByteArray := ⟨(Go.Lib.itoa n).toArray⟩
theorem fig8 {u : Nat} (h : u < 10) : ((UInt8.ofNat (48 + u)).toNat : Int) = 48 + (u : Int) := by
  have : (UInt8.ofNat (48 + u)).toNat = (48 + u) % 256 := by simp
  omega
theorem decL_small {m : Nat} (h : m < 10) : decL m = [48 + (m : Int)] := by
  unfold decL
  rw [Go.Lib.decDigits, dif_pos h, List.map_cons, List.map_nil, fig8 h]
theorem decL_big {m : Nat} (h : ¬ m < 10) : decL m = decL (m / 10) ++ [48 + ((m % 10 : Nat) : Int)] := by
  unfold decL
  rw [Go.Lib.decDigits, dif_neg h, List.map_append, List.map_cons, List.map_nil, fig8 (by omega)]
theorem decT_bl (n : Int) : bl (decT n) = if n < 0 then 45 :: decL n.natAbs else decL n.toNat := by
  unfold decT bl Go.Lib.itoa decL
  split <;> simp
theorem fig_of {c : Int} (h0 : 0 ≤ c) (h1 : c < 10) : spec_l01Figure.f c = some (48 + c) := by
  unfold spec_l01Figure.f
  have w : wrap64 (48 + c) = 48 + c := wid (by omega) (by omega)
  rw [if_pos h1, w]
  congr 1
  omega
theorem sDec_go : ∀ (d m : Nat) (n : Int) (below : Bool) (acc : ByteArray), n.natAbs = m → m < 10 ^ d → m ≤ 9223372036854775808 → n < 9223372036854775808 → acc.size + d ≤ 1000 → ∃ s, Ev (fun k => spec_Decimal.l0 k n below acc) s ∧ bl s = (if below = true then [45] else []) ++ ((if m = 0 then [] else decL m) ++ bl acc)
  | d, 0, n, below, acc, hm, hd, hb, hb2, ha => by
    have hn : n = 0 := by omega
    cases below with
    | true =>
      refine ⟨(⟨#[45]⟩ : ByteArray) ++ acc, (Ev.now _).to fun k => ?_, by rw [bl_app]; rfl⟩
      simp only [spec_Decimal.l0, if_true]
      rw [if_pos hn, if_pos (by omega)]
    | false =>
      refine ⟨acc, (Ev.now _).to fun k => ?_, rfl⟩
      simp only [spec_Decimal.l0]
      rw [if_pos hn, if_neg (by decide)]
  | 0, m + 1, n, below, acc, hm, hd, hb, hb2, ha => by simp at hd
  | d + 1, m + 1, n, below, acc, hm, hd, hb, hb2, ha => by
    have hn : ¬ n = 0 := by omega
    rw [Nat.pow_succ] at hd
    have hc : (strOfNums [48 + (((m + 1) % 10 : Nat) : Int)] ++ acc).size = 1 + acc.size := by rw [ByteArray.size_append, str_len]; rfl
    have hs1 : (strOfNums [48 + (((m + 1) % 10 : Nat) : Int)]).size = 1 := by rw [str_len]; rfl
    have ht : (Int.tdiv n 10).natAbs = (m + 1) / 10 := by rw [Int.natAbs_tdiv, hm]; rfl
    have hsg : Int.tdiv n 10 < 9223372036854775808 ∧ -9223372036854775808 ≤ Int.tdiv n 10 := by omega
    obtain ⟨s, ev, hs⟩ := sDec_go d ((m + 1) / 10) (Int.tdiv n 10) below (strOfNums [48 + (((m + 1) % 10 : Nat) : Int)] ++ acc) ht (by omega) (by omega) (by omega) (by omega)
    have wq : Aside0 (wrap64 (Int.tdiv n 10) = Int.tdiv n 10) := ⟨wid hsg.2 hsg.1⟩
    refine ⟨s, ev.to fun k => ?_, ?_⟩
    · simp only [spec_Decimal.l0]
      rw [if_neg hn, wq.out]
      have hmod : (Int.tmod n 10).natAbs = (m + 1) % 10 := by rw [Int.natAbs_tmod, hm]; rfl
      by_cases hneg : Int.tmod n 10 < 0
      · have w : wrap64 (-(Int.tmod n 10)) = (((m + 1) % 10 : Nat) : Int) := by rw [wid (by omega) (by omega)]; omega
        rw [if_pos hneg, w, fig_of (by omega) (by omega)]
        simp only [Option.bind_some]
        rw [if_pos (by omega)]
      · have e : Int.tmod n 10 = (((m + 1) % 10 : Nat) : Int) := by omega
        rw [if_neg hneg, e, fig_of (by omega) (by omega)]
        simp only [Option.bind_some]
        rw [if_pos (by omega)]
    · rw [hs, bl_app, bl_str (Byt.one ⟨by omega, by omega⟩), if_neg (show ¬ m + 1 = 0 by omega)]
      by_cases h10 : m + 1 < 10
      · rw [if_pos (show (m + 1) / 10 = 0 by omega), decL_small h10, show ((m + 1) % 10 : Nat) = m + 1 by omega]
        rfl
      · rw [if_neg (show ¬ (m + 1) / 10 = 0 by omega), decL_big h10]
        simp
theorem sDecimal (n : Int) (h0 : -9223372036854775808 ≤ n) (h1 : n < 9223372036854775808) : Ev (fun k => spec_Decimal.f k n) (decT n) := by
  unfold spec_Decimal.f
  by_cases hn : n = 0
  · refine Ev.ofEq (Ev.ifp hn (Ev.now (⟨#[48]⟩ : ByteArray))) ?_
    apply bl_inj
    rw [decT_bl, if_neg (by omega), hn]
    exact (decL_small (m := 0) (by omega)).symm
  · obtain ⟨s, ev, hs⟩ := sDec_go 20 n.natAbs n (decide (n < 0)) ⟨#[]⟩ rfl (by omega) (by omega) h1 (by decide)
    refine Ev.ifn hn (Ev.ofEq ev ?_)
    apply bl_inj
    rw [hs, decT_bl, bl_emp, List.append_nil, if_neg (show ¬ n.natAbs = 0 by omega)]
    by_cases hb : n < 0
    · simp [hb]
    · simp only [hb, decide_false, Bool.false_eq_true, if_false, List.nil_append]
      rw [show n.natAbs = n.toNat by omega]

/-! A number read from its figures -/
theorem parse_app : ∀ (l r : List UInt8) (acc u : Nat), Go.Lib.parseUint10 acc l = .ok u → Go.Lib.parseUint10 acc (l ++ r) = Go.Lib.parseUint10 u r
  | [], r, acc, u, h => by
    simp only [Go.Lib.parseUint10] at h
    injection h with h
    rw [h, List.nil_append]
  | c :: l, r, acc, u, h => by
    rw [List.cons_append]
    simp only [Go.Lib.parseUint10] at h ⊢
    split at h
    · rename_i hc
      rw [if_pos hc]
      split at h
      · cases h
      · rename_i h1
        rw [if_neg h1]
        split at h
        · cases h
        · rename_i h2
          rw [if_neg h2]
          exact parse_app l r _ u h
    · cases h
theorem parse_dec : ∀ (m : Nat), m < 9223372036854775808 → Go.Lib.parseUint10 0 (Go.Lib.decDigits m) = .ok m := by
  intro m
  induction m using Nat.strongRecOn with
  | _ m ih =>
    intro hm
    by_cases h : m < 10
    · have hf := fig8 h
      rw [Go.Lib.decDigits, dif_pos h]
      simp only [Go.Lib.parseUint10]
      rw [if_pos (by omega), if_neg (by omega), if_neg (by omega)]
      congr 1
      omega
    · have hf := fig8 (u := m % 10) (by omega)
      rw [Go.Lib.decDigits, dif_neg h, parse_app _ _ 0 (m / 10) (ih (m / 10) (by omega) (by omega))]
      simp only [Go.Lib.parseUint10]
      rw [if_pos (by omega), if_neg (by omega), if_neg (by omega)]
      congr 1
      omega
theorem decDigits_ne (m : Nat) : Go.Lib.decDigits m ≠ [] := by
  by_cases h : m < 10
  · rw [Go.Lib.decDigits, dif_pos h]; simp
  · rw [Go.Lib.decDigits, dif_neg h]; simp
theorem decDigits_head : ∀ (m : Nat) (c : UInt8) (r : List UInt8), Go.Lib.decDigits m = c :: r → 48 ≤ c.toNat ∧ c.toNat ≤ 57 := by
  intro m c r h
  have hall : ∀ m : Nat, ∀ x ∈ Go.Lib.decDigits m, 48 ≤ x.toNat ∧ x.toNat ≤ 57 := by
    intro m
    induction m using Nat.strongRecOn with
    | _ m ih =>
      intro x hx
      by_cases h : m < 10
      · have hf := fig8 h
        rw [Go.Lib.decDigits, dif_pos h] at hx
        rw [List.mem_singleton.1 hx]
        omega
      · have hf := fig8 (u := m % 10) (by omega)
        rw [Go.Lib.decDigits, dif_neg h] at hx
        rcases List.mem_append.1 hx with hx | hx
        · exact ih (m / 10) (by omega) x hx
        · rw [List.mem_singleton.1 hx]; omega
  exact hall m c (by rw [h]; exact List.mem_cons_self ..)
theorem atoi_dec (m : Nat) (hm : m < 9223372036854775808) : Go.Lib.atoiAll (Go.Lib.decDigits m) = .ok (m : Int) := by
  have hne := decDigits_ne m
  have hp := parse_dec m hm
  cases hd : Go.Lib.decDigits m with
  | nil => exact absurd hd hne
  | cons c r =>
    have hc := decDigits_head m c r hd
    rw [hd] at hp
    unfold Go.Lib.atoiAll
    simp only
    rw [if_neg (show ¬ (c.toNat = 43 ∨ c.toNat = 45) by omega)]
    unfold Go.Lib.parseMag
    rw [if_neg (by simp), hp]
    simp only
    rw [if_neg (by omega), if_neg (by omega), if_neg (show ¬ c.toNat = 45 by omega)]
theorem decT_nat {n : Int} (h : 0 ≤ n) : decT n = ⟨(Go.Lib.decDigits n.toNat).toArray⟩ := by unfold decT Go.Lib.itoa; rw [if_neg (by omega)]
theorem decT_list {n : Int} (h : 0 ≤ n) : (decT n).data.toList = Go.Lib.decDigits n.toNat := by rw [decT_nat h]
theorem decT_bl0 {n : Int} (h : 0 ≤ n) : bl (decT n) = decL n.toNat := by rw [decT_bl, if_neg (by omega)]
theorem decL_len (m : Nat) : ∀ d : Nat, m < 10 ^ (d + 1) → (decL m).length ≤ d + 1 := by
  induction m using Nat.strongRecOn with
  | _ m ih =>
    intro d hd
    by_cases h : m < 10
    · rw [decL_small h]; simp
    · rcases d with _ | d
      · simp at hd; omega
      · rw [decL_big h, List.length_append]
        have := ih (m / 10) (by omega) d (by rw [Nat.pow_succ] at hd; omega)
        simp only [List.length_singleton]
        omega
/-- What figures spell. -/
def valD (acc : Int) : List Int → Int
  | [] => acc
  | c :: l => valD (10 * acc + c - 48) l
theorem valD_app : ∀ (l r : List Int) (acc : Int), valD acc (l ++ r) = valD (valD acc l) r
  | [], _, _ => rfl
  | c :: l, r, acc => valD_app l r _
theorem valD_dec (m : Nat) : valD 0 (decL m) = (m : Int) := by
  induction m using Nat.strongRecOn with
  | _ m ih =>
    by_cases h : m < 10
    · rw [decL_small h]
      simp only [valD]
      omega
    · rw [decL_big h, valD_app, ih (m / 10) (by omega)]
      simp only [valD]
      omega
theorem decL_fig (m : Nat) : ∀ x ∈ decL m, 48 ≤ x ∧ x ≤ 57 := by
  induction m using Nat.strongRecOn with
  | _ m ih =>
    intro x hx
    by_cases h : m < 10
    · rw [decL_small h] at hx
      rw [List.mem_singleton.1 hx]
      omega
    · rw [decL_big h] at hx
      rcases List.mem_append.1 hx with hx | hx
      · exact ih (m / 10) (by omega) x hx
      · rw [List.mem_singleton.1 hx]; omega
theorem decT_size {n : Int} (h : 0 ≤ n) (h1 : n ≤ 1000000000) : (decT n).size ≤ 10 := by
  rw [bl_size, decT_bl0 h]
  exact decL_len n.toNat 9 (by omega)
theorem decT_size64 (n : Int) (h : -9223372036854775808 ≤ n) (h1 : n < 9223372036854775808) : (decT n).size ≤ 21 := by
  rw [bl_size, decT_bl]
  split
  · have := decL_len n.natAbs 19 (by omega)
    rw [List.length_cons]; omega
  · have := decL_len n.toNat 19 (by omega)
    omega
open Classical in
noncomputable def pReadDec (s : ByteArray) : Int × Bool := if h : ∃ n : Int, (0 ≤ n ∧ n ≤ 1000000000) ∧ decT n = s then (Classical.choose h, true) else (0, false)
theorem decT_inj {a b : Int} (ha : 0 ≤ a) (hb : 0 ≤ b) (h : decT a = decT b) : a = b := by
  have e := congrArg bl h
  rw [decT_bl0 ha, decT_bl0 hb] at e
  have := congrArg (valD 0) e
  rw [valD_dec, valD_dec] at this
  omega
theorem pReadDec_t {n : Int} {s : ByteArray} (h : 0 ≤ n ∧ n ≤ 1000000000) (hs : decT n = s) : pReadDec s = (n, true) := by
  have hx : ∃ n : Int, (0 ≤ n ∧ n ≤ 1000000000) ∧ decT n = s := ⟨n, h, hs⟩
  unfold pReadDec
  rw [dif_pos hx]
  have hc := Classical.choose_spec hx
  congr 1
  exact decT_inj hc.1.1 h.1 (hc.2.trans hs.symm)
theorem pReadDec_f {s : ByteArray} (h : ¬ ∃ n : Int, (0 ≤ n ∧ n ≤ 1000000000) ∧ decT n = s) : pReadDec s = (0, false) := by unfold pReadDec; rw [dif_neg h]

theorem pow10_le {i : Nat} (h : i ≤ 10) : 1 ≤ (10 : Int) ^ i ∧ (10 : Int) ^ i ≤ 10000000000 := by
  rcases (by omega : i = 0 ∨ i = 1 ∨ i = 2 ∨ i = 3 ∨ i = 4 ∨ i = 5 ∨ i = 6 ∨ i = 7 ∨ i = 8 ∨ i = 9 ∨ i = 10) with rfl | rfl | rfl | rfl | rfl | rfl | rfl | rfl | rfl | rfl | rfl <;> decide
theorem sRD_end (s : ByteArray) (n : Int) (h0 : 0 ≤ n) (h1 : n < 10000000000) (hv : valD 0 (bl s) = n) (i : Nat) (hi : s.size ≤ i) : Ev (fun k => spec_ReadDecimal.l0 k s n (i : Int)) (pReadDec s) := by
  have hu : ∀ m : Int, (0 ≤ m ∧ m ≤ 1000000000) → decT m = s → m = n := fun m hm hs => by
    rw [← hs, decT_bl0 hm.1, valD_dec] at hv
    omega
  by_cases hb : n > 1000000000
  · rw [pReadDec_f (fun ⟨m, hm, hs⟩ => by have := hu m hm hs; omega)]
    refine (Ev.now _).to fun k => ?_
    simp only [spec_ReadDecimal.l0]
    rw [if_neg (by omega), if_pos hb]
  · refine Ev.to (f := fun k => (spec_Decimal.f k n).bind fun t109 => if t109.toList = s.toList then some (n, true) else some (0, false)) ((sDecimal n (by omega) (by omega)).bind ?_) fun k => by
      simp only [spec_ReadDecimal.l0]
      rw [if_neg (by omega), if_neg hb]
    by_cases he : decT n = s
    · rw [pReadDec_t ⟨h0, by omega⟩ he]
      exact Ev.ifp (tl_inj.2 he) (Ev.now _)
    · rw [pReadDec_f (fun ⟨m, hm, hs⟩ => he (by rw [← hu m hm hs]; exact hs))]
      exact Ev.ifn (fun g => he (tl_inj.1 g)) (Ev.now _)
theorem sRD_go (s : ByteArray) (hs : s.size ≤ 10) : ∀ (d i : Nat) (n : Int), i + d = s.size → 0 ≤ n → n < 10 ^ i → valD 0 ((bl s).take i) = n → Ev (fun k => spec_ReadDecimal.l0 k s n (i : Int)) (pReadDec s)
  | 0, i, n, hi, h0, h1, hv => by
    have p := pow10_le (i := i) (by omega)
    rw [List.take_of_length_le (by rw [bl_len]; omega)] at hv
    exact sRD_end s n h0 (by omega) hv i (by omega)
  | d + 1, i, n, hi, h0, h1, hv => by
    have p := pow10_le (i := i) (by omega)
    have hlt : i < s.size := by omega
    have hl : i < (bl s).length := by rw [bl_len]; exact hlt
    have hb := bl_byt s _ (List.getElem_mem hl)
    have hbt : bt s (i : Int) = (bl s)[i] := by rw [bt_bl, Int.toNat_natCast, List.getD_eq_getElem?_getD, List.getElem?_eq_getElem hl]; rfl
    have w : Aside0 (wrap64 ((i : Int) + 1) = ((i + 1 : Nat) : Int)) := ⟨by rw [wid (by omega) (by omega)]; rfl⟩
    have w1 : Aside0 (wrap64 (10 * n) = 10 * n) := ⟨wid (by omega) (by omega)⟩
    have w2 : Aside0 (wrap64 (bl s)[i] = (bl s)[i]) := ⟨wid (by omega) (by omega)⟩
    have w3 : Aside0 (wrap64 (10 * n + (bl s)[i]) = 10 * n + (bl s)[i]) := ⟨wid (by omega) (by omega)⟩
    have w4 : Aside0 (wrap64 (10 * n + (bl s)[i] - 48) = 10 * n + (bl s)[i] - 48) := ⟨wid (by omega) (by omega)⟩
    have no : ¬ (48 ≤ (bl s)[i] ∧ (bl s)[i] ≤ 57) → pReadDec s = (0, false) := fun hn => pReadDec_f (fun ⟨m, hm, he⟩ => hn (by
      have hx : (bl s)[i] ∈ bl s := List.getElem_mem hl
      have e : bl s = decL m.toNat := by rw [← he, decT_bl0 hm.1]
      exact decL_fig m.toNat _ (e ▸ hx)))
    by_cases c1 : (bl s)[i] < 48
    · rw [no (by omega)]
      refine (Ev.now _).to fun k => ?_
      simp only [spec_ReadDecimal.l0]
      rw [if_pos (by omega), if_pos (by omega), hbt, if_pos c1]
    · by_cases c2 : (bl s)[i] > 57
      · rw [no (by omega)]
        refine (Ev.now _).to fun k => ?_
        simp only [spec_ReadDecimal.l0]
        rw [if_pos (by omega), if_pos (by omega), hbt, if_neg c1, if_pos c2]
      · have ih := sRD_go s hs d (i + 1) (10 * n + (bl s)[i] - 48) (by omega) (by omega) (by rw [Int.pow_succ]; omega) (by
          rw [List.take_add_one, List.getElem?_eq_getElem hl, valD_app, hv]
          rfl)
        refine ih.to fun k => ?_
        simp only [spec_ReadDecimal.l0]
        rw [if_pos (by omega), if_pos (by omega), hbt, if_neg c1, if_neg c2, w1.out, w2.out, w3.out, w4.out, w.out]
theorem sReadDecimal (s : ByteArray) : Ev (fun k => spec_ReadDecimal.f k s) (pReadDec s) := by
  unfold spec_ReadDecimal.f
  by_cases h : (s.size : Int) > 10
  · rw [pReadDec_f (fun ⟨m, hm, he⟩ => by have := decT_size hm.1 hm.2; rw [he] at this; omega)]
    exact Ev.ifp h (Ev.now _)
  · exact Ev.ifn h (sRD_go s (by omega) s.size 0 0 (by omega) (by omega) (by decide) rfl)
theorem sReadDecimal_ex (s : ByteArray) : ∃ k, spec_ReadDecimal.f k s = some ((pReadDec s).1, (pReadDec s).2) := by
  obtain ⟨k, h⟩ := sReadDecimal s
  exact ⟨k, h k (Nat.le_refl _)⟩
theorem atoi_of {s : ByteArray} {n : Int} (h : 0 ≤ n ∧ n ≤ 1000000000) (hs : decT n = s) : Go.Lib.atoiAll s.data.toList = .ok n := by
  rw [← hs, decT_list h.1, atoi_dec n.toNat (by omega), Int.toNat_of_nonneg h.1]
theorem rd_no {s : ByteArray} (h : ∀ v, Go.Lib.atoiAll s.data.toList ≠ .ok v) : pReadDec s = (0, false) := pReadDec_f (fun ⟨m, hm, he⟩ => h m (atoi_of hm he))
theorem rd_v {s : ByteArray} {v : Int} (h : Go.Lib.atoiAll s.data.toList = .ok v) (m : Int) (hm : 0 ≤ m ∧ m ≤ 1000000000) (he : decT m = s) : m = v := by
  have := atoi_of hm he
  rw [h] at this
  injection this with this
  exact this.symm
theorem rd_out {s : ByteArray} {v : Int} (h : Go.Lib.atoiAll s.data.toList = .ok v) (hv : ¬ (0 ≤ v ∧ v ≤ 1000000000)) : pReadDec s = (0, false) := pReadDec_f (fun ⟨m, hm, he⟩ => hv (rd_v h m hm he ▸ hm))
theorem rd_ne {s : ByteArray} {v : Int} (h : Go.Lib.atoiAll s.data.toList = .ok v) (hd : ¬ decT v = s) : pReadDec s = (0, false) := pReadDec_f (fun ⟨m, hm, he⟩ => hd (rd_v h m hm he ▸ he))
theorem in_ex (v : Int) : impl_in.f v 0 1000000000 = some (decide (0 ≤ v ∧ v ≤ 1000000000)) := by
  unfold impl_in.f
  by_cases h : v ≥ 0
  · rw [if_pos h]; simp [show 0 ≤ v from h]
  · rw [if_neg h]; simp [show ¬ 0 ≤ v from h]

end Go.Proofs.YtcmgaldejpkeaaaDoor.Pure
