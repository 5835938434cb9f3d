/- A drawn number in 0 .. MaxNumber comes back from VarText, a drawn text from ShortText and Hex: whatever the bytes that are drawn from; and what the program's ReadDecimal comes to. -/
import Derived.Test.YtcmgaldejpkeaaaDoorQFnNumbersx3
import Derived.Test.YtcmgaldejpkeaaaDoorQFnNumbersx4
import Derived.Test.YtcmgaldejpkeaaaDoorQFnNumbersx5
import Derived.Laws.BitsAllLaws
import Derived.Lib.ItoaNum
import Derived.Lib.AtoiAll
namespace Go.Proofs.YtcmgaldejpkeaaaDoor.Pure
open Go.RowKit Go.Proofs.YtcmgaldejpkeaaaDoor.QFnNumbers Go.Proofs.YtcmgaldejpkeaaaDoorW.PrintWords Go.Proofs.YtcmgaldejpkeaaaDoorW.PrintLast
set_option linter.unusedVariables false
set_option linter.unusedSimpArgs false
set_option maxHeartbeats 4000000

theorem wid {n : Int} (h0 : -9223372036854775808 ≤ n) (h1 : n < 9223372036854775808) : wrap64 n = n := by unfold wrap64; omega
theorem _root_.Go.Proofs.YtcmgaldejpkeaaaDoorW.PrintWords.Ev.ofEq {α : Type} {g : Nat → Option α} {r q : α} (h : Ev g r) (e : r = q) : Ev g q := e ▸ h
theorem _root_.Go.Proofs.YtcmgaldejpkeaaaDoorW.PrintWords.Ev.same {α : Type} {o : Option α} {r : α} (h : o = some r) : Ev (fun _ => o) r := ⟨0, fun _ _ => h⟩
theorem _root_.Go.Proofs.YtcmgaldejpkeaaaDoorW.PrintWords.Ev.to {α : Type} {g f : Nat → Option α} {r : α} (k : Ev f r) (h : ∀ k, g (k + 1) = f k) : Ev g r := Ev.step h k
theorem _root_.Go.Proofs.YtcmgaldejpkeaaaDoorW.PrintWords.Ev.cg {α : Type} {g f : Nat → Option α} {r : α} (k : Ev f r) (h : ∀ k, g k = f k) : Ev g r := Ev.congr h k
theorem _root_.Go.Proofs.YtcmgaldejpkeaaaDoorW.PrintWords.Ev.ifp {α : Type} {c : Prop} [Decidable c] {g f : Nat → Option α} {r : α} (h : c) (e : Ev g r) : Ev (fun k => if c then g k else f k) r := by simp only [if_pos h]; exact e
theorem _root_.Go.Proofs.YtcmgaldejpkeaaaDoorW.PrintWords.Ev.ifn {α : Type} {c : Prop} [Decidable c] {g f : Nat → Option α} {r : α} (h : ¬ c) (e : Ev f r) : Ev (fun k => if c then g k else f k) r := by simp only [if_neg h]; exact e
/-- The bytes of a string, as numbers. -/
def bl (s : ByteArray) : List Int := s.data.toList.map fun b => (b.toNat : Int)
theorem bl_len (s : ByteArray) : (bl s).length = s.size := by unfold bl; rw [List.length_map]; rfl
def Byt (xs : List Int) : Prop := ∀ x ∈ xs, 0 ≤ x ∧ x < 256
theorem Byt.nil : Byt [] := fun _ h => by simp at h
theorem Byt.cons {x : Int} {xs : List Int} (h : 0 ≤ x ∧ x < 256) (h' : Byt xs) : Byt (x :: xs) := fun y hy => by
  rcases List.mem_cons.1 hy with rfl | hy
  · exact h
  · exact h' y hy
theorem Byt.app {xs ys : List Int} (h : Byt xs) (h' : Byt ys) : Byt (xs ++ ys) := fun y hy => by
  rcases List.mem_append.1 hy with hy | hy
  · exact h y hy
  · exact h' y hy
theorem Byt.left {xs ys : List Int} (h : Byt (xs ++ ys)) : Byt xs := fun y hy => h y (List.mem_append_left _ hy)
theorem Byt.right {xs ys : List Int} (h : Byt (xs ++ ys)) : Byt ys := fun y hy => h y (List.mem_append_right _ hy)
theorem Byt.tail {x : Int} {xs : List Int} (h : Byt (x :: xs)) : Byt xs := fun y hy => h y (List.mem_cons_of_mem _ hy)
theorem Byt.head {x : Int} {xs : List Int} (h : Byt (x :: xs)) : 0 ≤ x ∧ x < 256 := h x (List.mem_cons_self ..)
theorem Byt.drop {xs : List Int} (h : Byt xs) (n : Nat) : Byt (xs.drop n) := fun y hy => h y (List.mem_of_mem_drop hy)
theorem Byt.take {xs : List Int} (h : Byt xs) (n : Nat) : Byt (xs.take n) := fun y hy => h y (List.mem_of_mem_take hy)
theorem bl_byt (s : ByteArray) : Byt (bl s) := fun x hx => by
  obtain ⟨b, _, rfl⟩ := List.mem_map.1 hx
  have := b.toNat_lt
  omega
theorem u8_back (b : UInt8) : UInt8.ofNat ((b.toNat : Int)).toNat = b := by simp
theorem bl_str {xs : List Int} (h : Byt xs) : bl (strOfNums xs) = xs := by
  unfold bl
  rw [strOfNums_data, List.map_map]
  conv => rhs; rw [← List.map_id xs]
  apply List.map_congr_left
  intro x hx
  have := h x hx
  simp only [Function.comp, id]
  obtain ⟨n, rfl⟩ := Int.eq_ofNat_of_zero_le this.1
  simp
  omega
theorem str_bl (s : ByteArray) : strOfNums (bl s) = s := by
  unfold strOfNums bl
  rw [List.map_map]
  have : ((fun n : Int => UInt8.ofNat n.toNat) ∘ fun b : UInt8 => (b.toNat : Int)) = id := by
    funext b
    simp
  rw [this, List.map_id]
theorem bl_inj {a b : ByteArray} (h : bl a = bl b) : a = b := by rw [← str_bl a, ← str_bl b, h]
theorem bt_bl (s : ByteArray) (i : Int) : bt s i = (bl s).getD i.toNat 0 := by
  unfold bt
  split
  · rename_i h
    have hl : i.toNat < s.data.toList.length := h
    simp only [bl, List.getD_eq_getElem?_getD, List.getElem?_map, List.getElem?_eq_getElem hl, Option.map_some, Option.getD_some]
    rfl
  · rename_i h
    rw [List.getD_eq_getElem?_getD, List.getElem?_eq_none (by rw [bl_len]; omega)]
    rfl
theorem bl_app (a b : ByteArray) : bl (a ++ b) = bl a ++ bl b := by
  unfold bl
  rw [ByteArray.data_append, Array.toList_append, List.map_append]
theorem bl_ext (a : ByteArray) (i j : Nat) : bl (a.extract i j) = ((bl a).take j).drop i := by
  unfold bl
  rw [ByteArray.data_extract, Array.toList_extract, List.extract_eq_take_drop, List.map_take, List.map_drop, List.drop_take]
theorem bl_emp : bl (⟨#[]⟩ : ByteArray) = [] := rfl
theorem bl_cons {s : ByteArray} {i : Nat} (h : i < s.size) : (bl s).drop i = bt s (i : Int) :: (bl s).drop (i + 1) := by
  have hl : i < (bl s).length := by rw [bl_len]; exact h
  rw [List.drop_eq_getElem_cons hl, bt_bl, List.getD_eq_getElem?_getD, Int.toNat_natCast, List.getElem?_eq_getElem hl]
  rfl
theorem bl_end {s : ByteArray} {i : Nat} (h : s.size ≤ i) : (bl s).drop i = [] := List.drop_of_length_le (by rw [bl_len]; exact h)
theorem tl_inj {a b : ByteArray} : a.toList = b.toList ↔ a = b := by
  constructor
  · intro h
    rw [ByteArray.toList_eq, ByteArray.toList_eq] at h
    apply ByteArray.ext
    exact Array.toList_inj.1 h
  · rintro rfl; rfl
theorem tl_bl {a b : ByteArray} : a.toList = b.toList ↔ bl a = bl b := tl_inj.trans ⟨fun h => h ▸ rfl, bl_inj⟩
theorem tdiv_pos {a b : Int} (h : 0 ≤ a) : Int.tdiv a b = a / b := Int.tdiv_eq_ediv_of_nonneg h
theorem tmod_pos {a b : Int} (h : 0 ≤ a) : Int.tmod a b = a % b := Int.tmod_eq_emod_of_nonneg h
theorem bne_rfl_bool (b : Bool) : (b != b) = false := by cases b <;> rfl
theorem wf_u32 {n : Int} (h : (Lit.int .u32 n).wf = true) : 0 ≤ n ∧ n < 4294967296 := by
  have h1 : IntKind.u32.min = 0 := by decide +kernel
  have h2 : IntKind.u32.max = 4294967295 := by decide +kernel
  simp only [Lit.wf, h1, h2, Bool.and_eq_true, decide_eq_true_eq] at h
  omega
theorem wf_i64 {n : Int} (h : (Lit.int .i64 n).wf = true) : -9223372036854775808 ≤ n ∧ n < 9223372036854775808 := by
  have h1 : IntKind.i64.min = -9223372036854775808 := by decide +kernel
  have h2 : IntKind.i64.max = 9223372036854775807 := by decide +kernel
  simp only [Lit.wf, h1, h2, Bool.and_eq_true, decide_eq_true_eq] at h
  omega
theorem Byt.one {x : Int} (h : 0 ≤ x ∧ x < 256) : Byt [x] := Byt.nil.cons h
theorem bl_size (s : ByteArray) : s.size = (bl s).length := (bl_len s).symm
theorem str_len (xs : List Int) : (strOfNums xs).size = xs.length := strOfNums_size xs

/-! Draws: whatever the bytes, a number in its bounds -/
theorem and255 (y : Int) : 0 ≤ Go.bits .and .i64 y 255 ∧ Go.bits .and .i64 y 255 < 256 := by
  have h : (BitVec.ofInt 64 y &&& BitVec.ofInt 64 255).toNat ≤ 255 := by
    rw [BitVec.toNat_and]; exact Nat.le_trans Nat.and_le_right (by decide)
  have e : Go.bits .and .i64 y 255 = IntKind.i64.wrap ((BitVec.ofInt 64 y &&& BitVec.ofInt 64 255).toNat : Nat) := rfl
  rw [e, IntKind.wrap_i64]
  omega
theorem dByte (b : List Int) (i h : Int) (hb : b.length ≤ 140737488351232) (hi : 0 ≤ i) : ∃ x i' h', spec_l01Byte.f b i h = some (x, i', h') ∧ 0 ≤ x ∧ x < 256 ∧ 0 ≤ i' := by
  unfold spec_l01Byte.f
  by_cases h1 : i < (b.length : Int)
  · have w : wrap64 (i + 1) = i + 1 := wid (by omega) (by omega)
    rw [w]; clear w
    rw [if_pos h1, if_pos hi]
    exact ⟨_, _, _, rfl, (and255 _).1, (and255 _).2, by omega⟩
  · rw [if_neg h1]
    exact ⟨_, _, _, rfl, (and255 _).1, (and255 _).2, hi⟩
theorem dBelow (b : List Int) (i h n : Int) (hb : b.length ≤ 140737488351232) (hi : 0 ≤ i) (hn : 0 < n) : ∃ x i' h', spec_l01Below.f b i h n = some (x, i', h') ∧ 0 ≤ x ∧ x < n ∧ 0 ≤ i' := by
  unfold spec_l01Below.f
  rw [if_neg (by omega)]
  obtain ⟨x1, i1, h1, e1, p1, q1, r1⟩ := dByte b i h hb hi
  by_cases hs : n ≤ 256
  · rw [if_pos hs, e1]
    simp only [Option.bind_some]
    rw [if_neg (by omega), tmod_pos p1]
    exact ⟨_, _, _, rfl, Int.emod_nonneg _ (by omega), Int.emod_lt_of_pos _ hn, r1⟩
  · obtain ⟨x2, i2, h2, e2, p2, q2, r2⟩ := dByte b i1 h1 hb r1
    obtain ⟨x3, i3, h3, e3, p3, q3, r3⟩ := dByte b i2 h2 hb r2
    obtain ⟨x4, i4, h4, e4, p4, q4, r4⟩ := dByte b i3 h3 hb r3
    have w1 : wrap64 (x1 * 16777216) = x1 * 16777216 := wid (by omega) (by omega)
    have w2 : wrap64 (x2 * 65536) = x2 * 65536 := wid (by omega) (by omega)
    have w3 : wrap64 (x3 * 256) = x3 * 256 := wid (by omega) (by omega)
    have w4 : wrap64 (x1 * 16777216 + x2 * 65536) = x1 * 16777216 + x2 * 65536 := wid (by omega) (by omega)
    have w5 : wrap64 (x1 * 16777216 + x2 * 65536 + x3 * 256) = x1 * 16777216 + x2 * 65536 + x3 * 256 := wid (by omega) (by omega)
    have w6 : wrap64 (x1 * 16777216 + x2 * 65536 + x3 * 256 + x4) = x1 * 16777216 + x2 * 65536 + x3 * 256 + x4 := wid (by omega) (by omega)
    rw [if_neg hs, e1]
    simp only [Option.bind_some]
    rw [e2]
    simp only [Option.bind_some]
    rw [e3]
    simp only [Option.bind_some]
    rw [e4]
    simp only [Option.bind_some, w1, w2, w3, w4, w5, w6]
    clear w1 w2 w3 w4 w5 w6
    rw [if_neg (by omega), tmod_pos (by omega)]
    exact ⟨_, _, _, rfl, Int.emod_nonneg _ (by omega), Int.emod_lt_of_pos _ hn, r4⟩
theorem dNew_go (b : List Int) (hb : b.length ≤ 140737488351232) : ∀ (d i : Nat) (x : Int), i + d = b.length → ∃ h, Ev (fun k => spec_l01New.l0 k b x (i : Int)) (b, 0, h)
  | 0, i, x, hi => ⟨x, (Ev.now _).to fun k => by simp only [spec_l01New.l0]; rw [if_neg (by omega)]⟩
  | d + 1, i, x, hi => by
    by_cases h4 : (i : Int) < 4000
    · have w : wrap64 ((i : Int) + 1) = ((i + 1 : Nat) : Int) := by rw [wid (by omega) (by omega)]; rfl
      obtain ⟨h, e⟩ := dNew_go b hb d (i + 1) (Go.bits .and .i64 (wrap64 ((wrap64 ((wrap64 (x * 131)) + (wrap64 (rd b (i : Int))))) + 7)) 1073741823) (by omega)
      refine ⟨h, e.to fun k => ?_⟩
      simp only [spec_l01New.l0, w]
      clear w
      rw [if_pos (by omega), if_pos h4, if_pos (by omega)]
    · exact ⟨x, (Ev.now _).to fun k => by simp only [spec_l01New.l0]; rw [if_pos (by omega), if_neg h4]⟩
theorem dNew (b : List Int) (hb : b.length ≤ 140737488351232) : ∃ h, Ev (fun k => spec_l01New.f k b) (b, 0, h) := by
  unfold spec_l01New.f
  exact dNew_go b hb b.length 0 _ (by omega)

theorem dPickInt (b : List Int) (i h : Int) (l : List Int) (hb : b.length ≤ 140737488351232) (hi : 0 ≤ i) (hl : 0 < l.length) : ∃ x i' h', spec_l01PickInt.f b i h l = some (x, i', h') ∧ 0 ≤ i' := by
  obtain ⟨y, i1, h1, e, p, q, r⟩ := dBelow b i h (l.length : Int) hb hi (by omega)
  refine ⟨rd l y, i1, h1, ?_, r⟩
  unfold spec_l01PickInt.f
  rw [e]
  simp only [Option.bind_some]
  rw [if_pos p, if_pos q]

theorem dText_go (b : List Int) (hb : b.length ≤ 140737488351232) (n : Int) (hn : n ≤ 5000) : ∀ (d : Nat) (acc : List Int) (j i h : Int), 0 ≤ j → (acc.length : Int) = j → j + d = n → 0 ≤ i → Byt acc →
    ∃ s i' h', Ev (fun k => spec_l01Text.l0 k n acc j b i h) (s, i', h') ∧ (s.size : Int) = n ∧ 0 ≤ i'
  | 0, acc, j, i, h, hj, hl, hd, hi, hB => ⟨strOfNums acc, i, h, (Ev.now _).to fun k => by simp only [spec_l01Text.l0]; rw [if_neg (by omega)], by rw [str_len]; omega, hi⟩
  | d + 1, acc, j, i, h, hj, hl, hd, hi, hB => by
    obtain ⟨x, i1, h1, e, p, q, r⟩ := dByte b i h hb hi
    have w : wrap64 (j + 1) = j + 1 := wid (by omega) (by omega)
    obtain ⟨s, i', h', ev, hs, hi'⟩ := dText_go b hb n hn d (acc ++ [x % 256]) (j + 1) i1 h1 (by omega) (by rw [List.length_append]; simp; omega) (by omega) r (hB.app (Byt.one ⟨by omega, by omega⟩))
    refine ⟨s, i', h', ev.to fun k => ?_, hs, hi'⟩
    simp only [spec_l01Text.l0, w, e, Option.bind_some]
    clear w
    rw [if_pos (by omega), if_pos (by omega)]
theorem dText (b : List Int) (hb : b.length ≤ 140737488351232) (n i h : Int) (h0 : 0 ≤ n) (hn : n ≤ 5000) (hi : 0 ≤ i) : ∃ s i' h', Ev (fun k => spec_l01Text.f k b i h n) (s, i', h') ∧ (s.size : Int) = n ∧ 0 ≤ i' := by
  obtain ⟨s, i', h', ev, hs, hi'⟩ := dText_go b hb n hn n.toNat [] 0 i h (by omega) rfl (by omega) hi Byt.nil
  refine ⟨s, i', h', ?_, hs, hi'⟩
  unfold spec_l01Text.f
  exact Ev.ifn (by omega) (ev.to fun k => by simp only [spec_l01Text.j0])

theorem set_take {α : Type} (xs : List α) {i : Nat} (v : α) (h : i < xs.length) : (xs.set i v).take (i + 1) = xs.take i ++ [v] := by
  rw [List.take_succ_eq_append_getElem (by rw [List.length_set]; exact h), List.getElem_set_self, List.take_set_of_le (Nat.le_refl _)]
theorem take_set_drop {α : Type} (xs : List α) {i : Nat} (v : α) (h : i < xs.length) : (xs.set i v).drop (i + 1) = xs.drop (i + 1) := by
  rw [List.drop_set_of_lt (by omega)]
theorem getD_at {α : Type} {xs : List α} {i : Nat} (z : α) (h : i < xs.length) : xs.getD ((i : Int)).toNat z = xs[i] := by
  rw [Int.toNat_natCast, List.getD_eq_getElem?_getD, List.getElem?_eq_getElem h]; rfl
theorem rdOf_at {α : Type} {xs : List α} {i : Nat} (z : α) (h : i < xs.length) : rdOf z xs (i : Int) = xs[i] := getD_at z h
theorem rd_at {xs : List Int} {i : Nat} (h : i < xs.length) : rd xs (i : Int) = xs[i] := getD_at 0 h
theorem toNat_len (n : Nat) : ((n : Int) : Int).toNat = n := Int.toNat_natCast n

theorem dLong_go (x : Int) (n : Int) (hn : n ≤ 100000) : ∀ (d : Nat) (acc : List Int) (j : Int), 0 ≤ j → (acc.length : Int) = n → j + d = n →
    ∃ s, Ev (fun k => spec_l01Long.l0 k n x acc j) s ∧ (s.size : Int) = n
  | 0, acc, j, hj, hl, hd => ⟨strOfNums acc, (Ev.now _).to fun k => by simp only [spec_l01Long.l0]; rw [if_neg (by omega)], by rw [str_len]; omega⟩
  | d + 1, acc, j, hj, hl, hd => by
    have w : wrap64 (j + 1) = j + 1 := wid (by omega) (by omega)
    obtain ⟨s, ev, hs⟩ := dLong_go x n hn d (acc.set j.toNat x) (j + 1) (by omega) (by rw [List.length_set]; exact hl) (by omega)
    refine ⟨s, ev.to fun k => ?_, hs⟩
    simp only [spec_l01Long.l0, w]
    clear w
    rw [if_pos (by omega), if_pos hj, if_pos (by omega)]
theorem dLong (n x : Int) (h0 : 0 ≤ n) (hn : n ≤ 100000) : ∃ s, Ev (fun k => spec_l01Long.f k n x) s ∧ (s.size : Int) = n := by
  unfold spec_l01Long.f
  obtain ⟨s, ev, hs⟩ := dLong_go x n hn n.toNat (List.replicate n.toNat 0) 0 (by omega) (by rw [List.length_replicate]; omega) (by omega)
  exact ⟨s, Ev.ifp h0 (Ev.ifp (by omega) ev), hs⟩

theorem dNumber (b : List Int) (i h : Int) (hb : b.length ≤ 140737488351232) (hi : 0 ≤ i) : ∃ x i' h', spec_l01Number.f b i h = some (x, i', h') ∧ 0 ≤ i' := by
  obtain ⟨y, i1, h1, e, p, q, r⟩ := dBelow b i h 4 hb hi (by omega)
  unfold spec_l01Number.f
  rw [e]
  simp only [Option.bind_some]
  by_cases c0 : y = 0
  · obtain ⟨x, i2, h2, e2, r2⟩ := dPickInt b i1 h1 [(-1), 0, 127, 128, 16383, 16384, 1000000000, 1000000001, 9223372036854775807, (-9223372036854775808)] hb r (by simp)
    rw [if_pos c0, e2]
    exact ⟨_, _, _, rfl, r2⟩
  · rw [if_neg c0]
    by_cases c1 : y = 1
    · obtain ⟨x, i2, h2, e2, _, _, r2⟩ := dBelow b i1 h1 1000000000 hb r (by omega)
      rw [if_pos c1, e2]
      exact ⟨_, _, _, rfl, r2⟩
    · obtain ⟨x, i2, h2, e2, _, _, r2⟩ := dBelow b i1 h1 400 hb r (by omega)
      rw [if_neg c1, e2]
      exact ⟨_, _, _, rfl, r2⟩
def dVT (k : Nat) (bt : List Int × Int × Int) : Option Int := (spec_l01Number.f bt.1 bt.2.1 bt.2.2).bind fun bt177 => some bt177.1
theorem dVarText (b : List Int) (hb : b.length ≤ 140737488351232) : ∃ n, Ev (fun k => spec_DrawVarText.f k b) n := by
  obtain ⟨h, ev⟩ := dNew b hb
  obtain ⟨x, i1, h1, e, _⟩ := dNumber b 0 h hb (by omega)
  refine ⟨x, ?_⟩
  unfold spec_DrawVarText.f
  refine ev.bind (f := dVT) ?_
  have step : ∀ k, dVT k (b, 0, h) = some x := fun k => by unfold dVT; rw [e]; rfl
  exact Ev.cg (Ev.now _) step
def dHX (k : Nat) (bt : List Int × Int × Int) : Option ByteArray := (spec_l01Once.f bt.1 bt.2.1 bt.2.2 60).bind fun bt208 => (if bt208.1 = true then ((spec_l01Below.f bt.1 bt208.2.1 bt208.2.2 2).bind fun bt211 => ((spec_l01Long.f k (wrap64 (8000 + bt211.1)) 200).bind fun t214 => (some t214))) else ((spec_l01Below.f bt.1 bt208.2.1 bt208.2.2 30).bind fun bt215 => ((spec_l01Text.f k bt.1 bt215.2.1 bt215.2.2 bt215.1).bind fun bt218 => (some bt218.1))))
theorem dHex (b : List Int) (hb : b.length ≤ 140737488351232) : ∃ t, Ev (fun k => spec_DrawHex.f k b) t ∧ t.size ≤ 9000 := by
  obtain ⟨h, ev⟩ := dNew b hb
  obtain ⟨x, i1, h1, e, p, q, r⟩ := dBelow b 0 h 60 hb (by omega) (by omega)
  have eo : spec_l01Once.f b 0 h 60 = some (x == 0, i1, h1) := by unfold spec_l01Once.f; rw [e]; rfl
  by_cases c : (x == 0) = true
  · obtain ⟨y, i2, h2, e2, p2, q2, r2⟩ := dBelow b i1 h1 2 hb r (by omega)
    have w : wrap64 (8000 + y) = 8000 + y := wid (by omega) (by omega)
    obtain ⟨s, evs, hs⟩ := dLong (8000 + y) 200 (by omega) (by omega)
    refine ⟨s, ?_, by omega⟩
    unfold spec_DrawHex.f
    refine ev.bind (f := dHX) ?_
    have step : ∀ k, dHX k (b, 0, h) = (spec_l01Long.f k (8000 + y) 200).bind fun t214 => some t214 := fun k => by
      unfold dHX
      rw [eo]
      simp only [Option.bind_some]
      rw [if_pos c, e2]
      simp only [Option.bind_some]
      rw [w]
    exact Ev.cg (evs.bind (Ev.now _)) step
  · obtain ⟨y, i2, h2, e2, p2, q2, r2⟩ := dBelow b i1 h1 30 hb r (by omega)
    obtain ⟨s, i3, h3, evs, hs, _⟩ := dText b hb y i2 h2 p2 (by omega) r2
    refine ⟨s, ?_, by omega⟩
    unfold spec_DrawHex.f
    refine ev.bind (f := dHX) ?_
    have step : ∀ k, dHX k (b, 0, h) = (spec_l01Text.f k b i2 h2 y).bind fun bt218 => some bt218.1 := fun k => by
      unfold dHX
      rw [eo]
      simp only [Option.bind_some]
      rw [if_neg c, e2]
      simp only [Option.bind_some]
    exact Ev.cg (evs.bind (Ev.now _)) step

/-! A number in figures -/
def decL (m : Nat) : List Int := (Go.Lib.decDigits m).map fun b => (b.toNat : Int)
def decT (n : Int) : ByteArray := ⟨(Go.Lib.itoa n).toArray⟩
theorem fig8 {u : Nat} (h : u < 10) : ((UInt8.ofNat (48 + u)).toNat : Int) = 48 + (u : Int) := by
  have : (UInt8.ofNat (48 + u)).toNat = (48 + u) % 256 := by simp
  omega
theorem decL_small {m : Nat} (h : m < 10) : decL m = [48 + (m : Int)] := by
  unfold decL
  rw [Go.Lib.decDigits, dif_pos h, List.map_cons, List.map_nil, fig8 h]
theorem decL_big {m : Nat} (h : ¬ m < 10) : decL m = decL (m / 10) ++ [48 + ((m % 10 : Nat) : Int)] := by
  unfold decL
  rw [Go.Lib.decDigits, dif_neg h, List.map_append, List.map_cons, List.map_nil, fig8 (by omega)]
theorem decT_bl (n : Int) : bl (decT n) = if n < 0 then 45 :: decL n.natAbs else decL n.toNat := by
  unfold decT bl Go.Lib.itoa decL
  split <;> simp

/-! A number read from its figures -/
theorem parse_app : ∀ (l r : List UInt8) (acc u : Nat), Go.Lib.parseUint10 acc l = .ok u → Go.Lib.parseUint10 acc (l ++ r) = Go.Lib.parseUint10 u r
  | [], r, acc, u, h => by
    simp only [Go.Lib.parseUint10] at h
    injection h with h
    rw [h, List.nil_append]
  | c :: l, r, acc, u, h => by
    rw [List.cons_append]
    simp only [Go.Lib.parseUint10] at h ⊢
    split at h
    · rename_i hc
      rw [if_pos hc]
      split at h
      · cases h
      · rename_i h1
        rw [if_neg h1]
        split at h
        · cases h
        · rename_i h2
          rw [if_neg h2]
          exact parse_app l r _ u h
    · cases h
theorem parse_dec : ∀ (m : Nat), m < 9223372036854775808 → Go.Lib.parseUint10 0 (Go.Lib.decDigits m) = .ok m := by
  intro m
  induction m using Nat.strongRecOn with
  | _ m ih =>
    intro hm
    by_cases h : m < 10
    · have hf := fig8 h
      rw [Go.Lib.decDigits, dif_pos h]
      simp only [Go.Lib.parseUint10]
      rw [if_pos (by omega), if_neg (by omega), if_neg (by omega)]
      congr 1
      omega
    · have hf := fig8 (u := m % 10) (by omega)
      rw [Go.Lib.decDigits, dif_neg h, parse_app _ _ 0 (m / 10) (ih (m / 10) (by omega) (by omega))]
      simp only [Go.Lib.parseUint10]
      rw [if_pos (by omega), if_neg (by omega), if_neg (by omega)]
      congr 1
      omega
theorem decDigits_ne (m : Nat) : Go.Lib.decDigits m ≠ [] := by
  by_cases h : m < 10
  · rw [Go.Lib.decDigits, dif_pos h]; simp
  · rw [Go.Lib.decDigits, dif_neg h]; simp
theorem decDigits_head : ∀ (m : Nat) (c : UInt8) (r : List UInt8), Go.Lib.decDigits m = c :: r → 48 ≤ c.toNat ∧ c.toNat ≤ 57 := by
  intro m c r h
  have hall : ∀ m : Nat, ∀ x ∈ Go.Lib.decDigits m, 48 ≤ x.toNat ∧ x.toNat ≤ 57 := by
    intro m
    induction m using Nat.strongRecOn with
    | _ m ih =>
      intro x hx
      by_cases h : m < 10
      · have hf := fig8 h
        rw [Go.Lib.decDigits, dif_pos h] at hx
        rw [List.mem_singleton.1 hx]
        omega
      · have hf := fig8 (u := m % 10) (by omega)
        rw [Go.Lib.decDigits, dif_neg h] at hx
        rcases List.mem_append.1 hx with hx | hx
        · exact ih (m / 10) (by omega) x hx
        · rw [List.mem_singleton.1 hx]; omega
  exact hall m c (by rw [h]; exact List.mem_cons_self ..)
theorem atoi_dec (m : Nat) (hm : m < 9223372036854775808) : Go.Lib.atoiAll (Go.Lib.decDigits m) = .ok (m : Int) := by
  have hne := decDigits_ne m
  have hp := parse_dec m hm
  cases hd : Go.Lib.decDigits m with
  | nil => exact absurd hd hne
  | cons c r =>
    have hc := decDigits_head m c r hd
    rw [hd] at hp
    unfold Go.Lib.atoiAll
    simp only
    rw [if_neg (show ¬ (c.toNat = 43 ∨ c.toNat = 45) by omega)]
    unfold Go.Lib.parseMag
    rw [if_neg (by simp), hp]
    simp only
    rw [if_neg (by omega), if_neg (by omega), if_neg (show ¬ c.toNat = 45 by omega)]
theorem decT_nat {n : Int} (h : 0 ≤ n) : decT n = ⟨(Go.Lib.decDigits n.toNat).toArray⟩ := by unfold decT Go.Lib.itoa; rw [if_neg (by omega)]
theorem decT_list {n : Int} (h : 0 ≤ n) : (decT n).data.toList = Go.Lib.decDigits n.toNat := by rw [decT_nat h]
theorem decT_bl0 {n : Int} (h : 0 ≤ n) : bl (decT n) = decL n.toNat := by rw [decT_bl, if_neg (by omega)]
theorem decL_len (m : Nat) : ∀ d : Nat, m < 10 ^ (d + 1) → (decL m).length ≤ d + 1 := by
  induction m using Nat.strongRecOn with
  | _ m ih =>
    intro d hd
    by_cases h : m < 10
    · rw [decL_small h]; simp
    · rcases d with _ | d
      · simp at hd; omega
      · rw [decL_big h, List.length_append]
        have := ih (m / 10) (by omega) d (by rw [Nat.pow_succ] at hd; omega)
        simp only [List.length_singleton]
        omega
/-- What figures spell. -/
def valD (acc : Int) : List Int → Int
  | [] => acc
  | c :: l => valD (10 * acc + c - 48) l
theorem valD_app : ∀ (l r : List Int) (acc : Int), valD acc (l ++ r) = valD (valD acc l) r
  | [], _, _ => rfl
  | c :: l, r, acc => valD_app l r _
theorem valD_dec (m : Nat) : valD 0 (decL m) = (m : Int) := by
  induction m using Nat.strongRecOn with
  | _ m ih =>
    by_cases h : m < 10
    · rw [decL_small h]
      simp only [valD]
      omega
    · rw [decL_big h, valD_app, ih (m / 10) (by omega)]
      simp only [valD]
      omega
theorem decL_fig (m : Nat) : ∀ x ∈ decL m, 48 ≤ x ∧ x ≤ 57 := by
  induction m using Nat.strongRecOn with
  | _ m ih =>
    intro x hx
    by_cases h : m < 10
    · rw [decL_small h] at hx
      rw [List.mem_singleton.1 hx]
      omega
    · rw [decL_big h] at hx
      rcases List.mem_append.1 hx with hx | hx
      · exact ih (m / 10) (by omega) x hx
      · rw [List.mem_singleton.1 hx]; omega
theorem decT_size {n : Int} (h : 0 ≤ n) (h1 : n ≤ 1000000000) : (decT n).size ≤ 10 := by
  rw [bl_size, decT_bl0 h]
  exact decL_len n.toNat 9 (by omega)
theorem decT_size64 (n : Int) (h : -9223372036854775808 ≤ n) (h1 : n < 9223372036854775808) : (decT n).size ≤ 21 := by
  rw [bl_size, decT_bl]
  split
  · have := decL_len n.natAbs 19 (by omega)
    rw [List.length_cons]; omega
  · have := decL_len n.toNat 19 (by omega)
    omega
open Classical in
noncomputable def pReadDec (s : ByteArray) : Int × Bool := if h : ∃ n : Int, (0 ≤ n ∧ n ≤ 1000000000) ∧ decT n = s then (Classical.choose h, true) else (0, false)
theorem decT_inj {a b : Int} (ha : 0 ≤ a) (hb : 0 ≤ b) (h : decT a = decT b) : a = b := by
  have e := congrArg bl h
  rw [decT_bl0 ha, decT_bl0 hb] at e
  have := congrArg (valD 0) e
  rw [valD_dec, valD_dec] at this
  omega
theorem pReadDec_t {n : Int} {s : ByteArray} (h : 0 ≤ n ∧ n ≤ 1000000000) (hs : decT n = s) : pReadDec s = (n, true) := by
  have hx : ∃ n : Int, (0 ≤ n ∧ n ≤ 1000000000) ∧ decT n = s := ⟨n, h, hs⟩
  unfold pReadDec
  rw [dif_pos hx]
  have hc := Classical.choose_spec hx
  congr 1
  exact decT_inj hc.1.1 h.1 (hc.2.trans hs.symm)
theorem pReadDec_f {s : ByteArray} (h : ¬ ∃ n : Int, (0 ≤ n ∧ n ≤ 1000000000) ∧ decT n = s) : pReadDec s = (0, false) := by unfold pReadDec; rw [dif_neg h]

theorem atoi_of {s : ByteArray} {n : Int} (h : 0 ≤ n ∧ n ≤ 1000000000) (hs : decT n = s) : Go.Lib.atoiAll s.data.toList = .ok n := by
  rw [← hs, decT_list h.1, atoi_dec n.toNat (by omega), Int.toNat_of_nonneg h.1]
theorem rd_no {s : ByteArray} (h : ∀ v, Go.Lib.atoiAll s.data.toList ≠ .ok v) : pReadDec s = (0, false) := pReadDec_f (fun ⟨m, hm, he⟩ => h m (atoi_of hm he))
theorem rd_v {s : ByteArray} {v : Int} (h : Go.Lib.atoiAll s.data.toList = .ok v) (m : Int) (hm : 0 ≤ m ∧ m ≤ 1000000000) (he : decT m = s) : m = v := by
  have := atoi_of hm he
  rw [h] at this
  injection this with this
  exact this.symm
theorem rd_out {s : ByteArray} {v : Int} (h : Go.Lib.atoiAll s.data.toList = .ok v) (hv : ¬ (0 ≤ v ∧ v ≤ 1000000000)) : pReadDec s = (0, false) := pReadDec_f (fun ⟨m, hm, he⟩ => hv (rd_v h m hm he ▸ hm))
theorem rd_ne {s : ByteArray} {v : Int} (h : Go.Lib.atoiAll s.data.toList = .ok v) (hd : ¬ decT v = s) : pReadDec s = (0, false) := pReadDec_f (fun ⟨m, hm, he⟩ => hd (rd_v h m hm he ▸ he))
theorem in_ex (v : Int) : impl_in.f v 0 1000000000 = some (decide (0 ≤ v ∧ v ≤ 1000000000)) := by
  unfold impl_in.f
  by_cases h : v ≥ 0
  · rw [if_pos h]; simp [show 0 ≤ v from h]
  · rw [if_neg h]; simp [show ¬ 0 ≤ v from h]

/-! Numbers in bytes -/
def varB (n : Nat) : List Int := if h : n > 127 then (((n % 128 + 128 : Nat) : Int)) :: varB (n / 128) else [(n : Int)]
termination_by n
decreasing_by omega
theorem varB_big {n : Nat} (h : n > 127) : varB n = (((n % 128 + 128 : Nat) : Int)) :: varB (n / 128) := by rw [varB, dif_pos h]
theorem varB_small {n : Nat} (h : ¬ n > 127) : varB n = [(n : Int)] := by rw [varB, dif_neg h]
theorem varB_byt (n : Nat) : Byt (varB n) := by
  induction n using Nat.strongRecOn with
  | _ n ih =>
    by_cases h : n > 127
    · rw [varB_big h]; exact (ih _ (by omega)).cons ⟨by omega, by omega⟩
    · rw [varB_small h]; exact Byt.one ⟨by omega, by omega⟩
theorem varB_pos (n : Nat) : 1 ≤ (varB n).length := by
  by_cases h : n > 127
  · rw [varB_big h]; simp
  · rw [varB_small h]; simp
theorem varB_len (n : Nat) : (varB n).length ≤ n + 1 := by
  induction n using Nat.strongRecOn with
  | _ n ih =>
    by_cases h : n > 127
    · rw [varB_big h]; have := ih (n / 128) (by omega); simp only [List.length_cons]; omega
    · rw [varB_small h]; simp
theorem varB_len1 {n : Nat} (h : n < 128) : (varB n).length = 1 := by rw [varB_small (by omega)]; rfl
theorem varB_len2 {n : Nat} (h : n < 16384) : (varB n).length ≤ 2 := by
  by_cases h1 : n > 127
  · rw [varB_big h1, List.length_cons, varB_len1 (by omega)]; omega
  · rw [varB_small h1]; simp
theorem varB_len5 {n : Nat} (h : n ≤ 1000000000) : (varB n).length ≤ 5 := by
  by_cases h1 : n > 127
  · rw [varB_big h1, List.length_cons]
    by_cases h2 : n / 128 > 127
    · rw [varB_big h2, List.length_cons]
      by_cases h3 : n / 128 / 128 > 127
      · rw [varB_big h3, List.length_cons]
        have := varB_len2 (n := n / 128 / 128 / 128) (by omega)
        omega
      · rw [varB_small h3]; simp
    · rw [varB_small h2]; simp
  · rw [varB_small h1]; simp
/-- The number that bytes tell, the first the lowest. -/
def dec : List Int → Int
  | [] => 0
  | c :: l => c % 128 + 128 * dec l
theorem dec_nonneg : ∀ l : List Int, 0 ≤ dec l
  | [] => by simp [dec]
  | c :: l => by have := dec_nonneg l; simp only [dec]; omega
theorem dec_snoc : ∀ (l : List Int) (c : Int), dec (l ++ [c]) = dec l + c % 128 * 128 ^ l.length
  | [], c => by simp [dec]
  | a :: l, c => by
    have := dec_snoc l c
    simp only [List.cons_append, dec, this, List.length_cons, Int.pow_succ]
    rw [Int.mul_add]
    have : 128 * (c % 128 * 128 ^ l.length) = c % 128 * (128 ^ l.length * 128) := by rw [Int.mul_comm 128, Int.mul_assoc]
    omega
/-- Bytes above 127, and one more. -/
def Hi (l : List Int) : Prop := ∀ x ∈ l, 128 ≤ x ∧ x < 256
theorem dec_pos : ∀ (l : List Int) (c : Int), 0 < c → c < 128 → 1 ≤ dec (l ++ [c])
  | [], c, h, h' => by simp only [List.nil_append, dec]; omega
  | a :: l, c, h, h' => by have := dec_pos l c h h'; simp only [List.cons_append, dec]; omega
theorem varB_dec : ∀ (l : List Int) (c : Int), Hi l → 0 ≤ c → c < 128 → (l = [] ∨ c ≠ 0) → varB (dec (l ++ [c])).toNat = l ++ [c]
  | [], c, _, h, h', _ => by
    simp only [List.nil_append, dec]
    rw [varB_small (by omega)]
    congr 1
    omega
  | a :: l, c, hl, h, h', hc => by
    have ha := hl a (List.mem_cons_self ..)
    have hp := dec_pos l c (by rcases hc with h | h <;> simp_all <;> omega) h'
    have ih := varB_dec l c (fun x hx => hl x (List.mem_cons_of_mem _ hx)) h h' (by rcases hc with h | h <;> simp_all)
    simp only [List.cons_append, dec]
    rw [varB_big (by omega)]
    have e : (a % 128 + 128 * dec (l ++ [c])).toNat / 128 = (dec (l ++ [c])).toNat := by omega
    rw [e, ih]
    congr 1
    omega
theorem varB_last (n : Nat) : ∃ l c, varB n = l ++ [c] ∧ Hi l ∧ 0 ≤ c ∧ c < 128 ∧ (l = [] ∨ c ≠ 0) ∧ dec (l ++ [c]) = n := by
  induction n using Nat.strongRecOn with
  | _ n ih =>
    by_cases h : n > 127
    · obtain ⟨l, c, e, hl, h0, h1, hc, hd⟩ := ih (n / 128) (by omega)
      refine ⟨((n % 128 + 128 : Nat) : Int) :: l, c, by rw [varB_big h, e]; rfl, fun x hx => ?_, h0, h1, Or.inr ?_, ?_⟩
      · rcases List.mem_cons.1 hx with rfl | hx
        · omega
        · exact hl x hx
      · rintro rfl
        have : l = [] := by simpa using hc
        subst this
        simp [dec] at hd
        omega
      · simp only [List.cons_append, dec, hd]; omega
    · exact ⟨[], n, by rw [varB_small h]; rfl, fun _ hx => by simp at hx, by omega, by omega, .inl rfl, by simp only [List.nil_append, dec]; omega⟩
/-- What is read off bytes: the number, and how many bytes it took. -/
def rvGo : Nat → Int → Int → Nat → List Int → Option (Int × Nat)
  | 0, _, _, _, _ => none
  | _ + 1, _, _, _, [] => none
  | f + 1, n, sc, c, b :: l => if b < 128 then (if (b = 0 ∧ 0 < c) ∨ n + b % 128 * sc > 1000000000 then none else some (n + b % 128 * sc, c + 1)) else rvGo f (n + b % 128 * sc) (sc * 128) (c + 1) l
def rv (l : List Int) : Option (Int × Nat) := rvGo 5 0 1 0 l
theorem rvGo_some : ∀ (f : Nat) (P l : List Int), P.length + f = 5 → Byt l → Hi P → ∀ n c, rvGo f (dec P) (128 ^ P.length) P.length l = some (n, c) →
    ∃ rest, P ++ l = varB n.toNat ++ rest ∧ c = (varB n.toNat).length ∧ 0 ≤ n ∧ n ≤ 1000000000
  | 0, P, l, _, _, _, n, c, h => by simp [rvGo] at h
  | f + 1, P, [], _, _, _, n, c, h => by simp [rvGo] at h
  | f + 1, P, b :: l, hf, hb, hP, n, c, h => by
    have hbb := hb.head
    simp only [rvGo] at h
    by_cases h1 : b < 128
    · rw [if_pos h1] at h
      split at h
      · cases h
      · rename_i h2
        simp only [Option.some.injEq, Prod.mk.injEq] at h
        obtain ⟨rfl, rfl⟩ := h
        have hd := dec_snoc P b
        have hv := varB_dec P b hP hbb.1 h1 (by
          rcases P with _ | ⟨a, P⟩
          · exact .inl rfl
          · refine .inr fun e => h2 (.inl ⟨e, by simp⟩))
        rw [hd] at hv
        have hnn := dec_nonneg (P ++ [b])
        rw [hd] at hnn
        refine ⟨l, by rw [hv]; simp, by rw [hv]; simp, hnn, by omega⟩
    · rw [if_neg h1] at h
      have := rvGo_some f (P ++ [b]) l (by simp; omega) hb.tail (fun x hx => by
        rcases List.mem_append.1 hx with hx | hx
        · exact hP x hx
        · simp at hx; subst hx; omega) n c (by rw [dec_snoc, List.length_append, Int.pow_add]; simpa using h)
      obtain ⟨rest, e, r⟩ := this
      exact ⟨rest, by rw [← e]; simp, r⟩
theorem rvGo_hi : ∀ (Q : List Int) (f : Nat) (P l : List Int), Hi Q → rvGo (f + Q.length) (dec P) (128 ^ P.length) P.length (Q ++ l) = rvGo f (dec (P ++ Q)) (128 ^ (P ++ Q).length) (P ++ Q).length l
  | [], f, P, l, _ => by simp
  | b :: Q, f, P, l, h => by
    have hb := h b (List.mem_cons_self ..)
    have := rvGo_hi Q f (P ++ [b]) l (fun x hx => h x (List.mem_cons_of_mem _ hx))
    rw [show f + (b :: Q).length = (f + Q.length) + 1 by simp; omega, List.cons_append]
    simp only [rvGo]
    rw [if_neg (by omega)]
    rw [dec_snoc, List.length_append, Int.pow_add] at this
    simp only [List.append_assoc, List.singleton_append, List.length_cons, List.length_nil] at this
    rw [← this]
    simp
theorem rv_var (n : Nat) (h : n ≤ 1000000000) (rest : List Int) : rv (varB n ++ rest) = some ((n : Int), (varB n).length) := by
  obtain ⟨l, c, e, hl, h0, h1, hc, hd⟩ := varB_last n
  have h5 := varB_len5 h
  rw [e] at h5
  have hlen : l.length ≤ 4 := by simpa using h5
  unfold rv
  have := rvGo_hi l (5 - l.length) [] ([c] ++ rest) hl
  simp only [dec, List.nil_append, List.length_nil] at this
  rw [show 5 - l.length + l.length = 5 by omega] at this
  rw [e, List.append_assoc]
  refine Eq.trans this ?_
  obtain ⟨f, hf⟩ : ∃ f, 5 - l.length = f + 1 := ⟨4 - l.length, by omega⟩
  rw [hf, List.singleton_append]
  simp only [rvGo]
  rw [if_pos h1, if_neg, ← dec_snoc, hd]
  · simp
  · rintro (⟨h2, h3⟩ | h2)
    · rcases hc with rfl | hc
      · simp at h3
      · exact hc h2
    · rw [← dec_snoc, hd] at h2
      omega
theorem rv_some {l : List Int} (hl : Byt l) {n : Int} {c : Nat} (h : rv l = some (n, c)) : ∃ rest, l = varB n.toNat ++ rest ∧ c = (varB n.toNat).length ∧ 0 ≤ n ∧ n ≤ 1000000000 := by
  have := rvGo_some 5 [] l rfl hl (fun _ hx => by simp at hx) n c h
  simpa using this
theorem varB_dec_iff (P : List Int) (b : Int) (hP : Hi P) (h0 : 0 ≤ b) (h1 : b < 128) : varB (dec (P ++ [b])).toNat = P ++ [b] ↔ ¬ (b = 0 ∧ 0 < P.length) := by
  constructor
  · rintro h ⟨rfl, hp⟩
    obtain ⟨l, c, e, _, _, _, hc, _⟩ := varB_last (dec (P ++ [0])).toNat
    rw [h] at e
    obtain ⟨e1, e2⟩ := List.append_inj' e rfl
    subst e1
    simp only [List.cons.injEq, and_true] at e2
    rcases hc with hc | hc
    · rw [hc] at hp; simp at hp
    · exact hc e2.symm
  · intro h
    refine varB_dec P b hP h0 h1 ?_
    rcases P with _ | ⟨a, P⟩
    · exact .inl rfl
    · exact .inr fun e => h ⟨e, by simp⟩
theorem dec_lt : ∀ l : List Int, dec l < 128 ^ l.length
  | [] => by simp [dec]
  | c :: l => by
    have := dec_lt l
    simp only [dec, List.length_cons, Int.pow_succ]
    omega
theorem pow128 {c : Nat} (h : c ≤ 4) : 1 ≤ (128 : Int) ^ c ∧ (128 : Int) ^ c ≤ 268435456 := by
  rcases (by omega : c = 0 ∨ c = 1 ∨ c = 2 ∨ c = 3 ∨ c = 4) with rfl | rfl | rfl | rfl | rfl <;> decide
def rvRes (at_ : Int) : Option (Int × Nat) → Int × Int × Bool
  | some (n, c) => (n, at_ + c, true)
  | none => (0, 0, false)
def pReadVar (s : ByteArray) (a : Int) : Int × Int × Bool := if 0 ≤ a ∧ a ≤ s.size then rvRes a (rv ((bl s).drop a.toNat)) else (0, 0, false)

theorem i_in (a b c : Int) : impl_in.f a b c = some (decide (b ≤ a ∧ a ≤ c)) := by
  unfold impl_in.f
  by_cases h : a ≥ b
  · rw [if_pos h]; simp [show b ≤ a from h]
  · rw [if_neg h]; simp [show ¬ b ≤ a from h]
theorem i_in_t {a b c : Int} (h : b ≤ a ∧ a ≤ c) : impl_in.f a b c = some true := by rw [i_in, decide_eq_true h]
theorem i_in_f {a b c : Int} (h : ¬ (b ≤ a ∧ a ≤ c)) : impl_in.f a b c = some false := by rw [i_in, decide_eq_false h]

theorem iVarText_go (n : Nat) : ∀ acc : List Int, acc.length + n ≤ 100000000000 → Ev (fun k => impl_VarText.l0 k (n : Int) acc) (strOfNums (acc ++ varB n), true) := by
  induction n using Nat.strongRecOn with
  | _ n ih =>
    intro acc hacc
    by_cases h : n > 127
    · have := ih (n / 128) (by omega) (acc ++ [((n % 128 + 128 : Nat) : Int)]) (by simp; omega)
      rw [varB_big h]
      rw [List.append_assoc, List.singleton_append] at this
      refine this.to fun k => ?_
      simp only [impl_VarText.l0]
      rw [if_pos (by omega), if_pos (by omega), tdiv_pos (by omega), tmod_pos (by omega), wid (by omega) (by omega), wid (by omega) (by omega)]
      congr 3
      omega
    · rw [varB_small h]
      refine (Ev.now _).to fun k => ?_
      simp only [impl_VarText.l0]
      rw [if_neg (by omega), if_pos (by omega), show (n : Int) % 256 = n by omega]
def pVarText (n : Int) : ByteArray × Bool := if 0 ≤ n ∧ n ≤ 1000000000 then (strOfNums (varB n.toNat), true) else (⟨#[]⟩, false)
theorem iVarText (n : Int) : Ev (fun k => impl_VarText.f k n) (pVarText n) := by
  unfold impl_VarText.f pVarText
  by_cases h : 0 ≤ n ∧ n ≤ 1000000000
  · rw [i_in_t h, if_pos h]
    simp only [Option.bind_some, if_true]
    have := iVarText_go n.toNat [] (by simp; omega)
    rw [Int.toNat_of_nonneg h.1] at this
    exact this
  · rw [i_in_f h, if_neg h]
    simp only [Option.bind_some, Bool.false_eq_true, if_false]
    exact Ev.now _

theorem iRV_go (s : ByteArray) (hs : s.size ≤ 140737488351232) (a : Nat) : ∀ (f c : Nat) (n : Int), c + f = 5 → a + c ≤ s.size → 0 ≤ n → n < 128 ^ c →
    Ev (fun k => impl_ReadVar.l0 k s a n (128 ^ c) ((a + c : Nat) : Int)) (rvRes a (rvGo f n (128 ^ c) c ((bl s).drop (a + c))))
  | 0, c, n, hf, hc, h0, h1 => by
    have h5 : Aside0 (¬ ((a + c : Nat) : Int) < wrap64 ((a : Int) + 5)) := ⟨by rw [wid (by omega) (by omega)]; omega⟩
    simp only [rvGo, rvRes]
    have : Ev (fun k => impl_ReadVar.j1 k s a n (128 ^ c) ((a + c : Nat) : Int) false) (0, 0, false) := (Ev.now _).to fun k => by simp only [impl_ReadVar.j1]; rw [if_neg (by decide)]
    refine this.to fun k => ?_
    simp only [impl_ReadVar.l0]
    rw [decide_eq_false h5.out, ite_self]
  | f + 1, c, n, hf, hc, h0, h1 => by
    have h5 : Aside0 (((a + c : Nat) : Int) < wrap64 ((a : Int) + 5)) := ⟨by rw [wid (by omega) (by omega)]; omega⟩
    by_cases hi : a + c < s.size
    · have hb := bt_range s ((a + c : Nat) : Int)
      have hp := pow128 (c := c) (by omega)
      rw [bl_cons hi]
      generalize hB : bt s ((a + c : Nat) : Int) = b at *
      have hx0 : 0 ≤ b % 128 * 128 ^ c := Int.mul_nonneg (by omega) (by omega)
      have hx1 : b % 128 * 128 ^ c ≤ 127 * 128 ^ c := Int.mul_le_mul_of_nonneg_right (by omega) (by omega)
      have e1 : Aside0 (wrap64 (n + wrap64 (Int.tmod (wrap64 b) 128 * 128 ^ c)) = n + b % 128 * 128 ^ c) := ⟨by
        rw [wid (n := b) (by omega) (by omega), tmod_pos hb.1, wid (n := b % 128 * 128 ^ c) (by omega) (by omega), wid (by omega) (by omega)]⟩
      have e2 : Aside0 (wrap64 (((a + c : Nat) : Int) + 1) = ((a + (c + 1) : Nat) : Int)) := ⟨by rw [wid (by omega) (by omega)]; omega⟩
      by_cases h8 : b < 128
      · simp only [rvGo]
        rw [if_pos h8]
        have : Ev (fun k => impl_ReadVar.j1 k s a n (128 ^ c) ((a + c : Nat) : Int) true) (rvRes a (if (b = 0 ∧ 0 < c) ∨ n + b % 128 * 128 ^ c > 1000000000 then none else some (n + b % 128 * 128 ^ c, c + 1))) := by
          refine (Ev.now _).to fun k => ?_
          simp only [impl_ReadVar.j1, if_true]
          rw [if_pos (by omega), if_pos (by omega), hB, e1.out, e2.out, wid (n := b) (by omega) (by omega), if_pos h8]
          by_cases hz : b = 0
          · rw [if_pos hz]
            by_cases hc0 : 0 < c
            · rw [if_pos (by omega), if_pos (.inl ⟨hz, hc0⟩)]; rfl
            · rw [if_neg (by omega)]
              by_cases hm : n + b % 128 * 128 ^ c > 1000000000
              · rw [if_pos hm, if_pos (.inr hm)]; rfl
              · rw [if_neg hm, if_neg (by omega)]; simp only [rvRes]; congr 3
          · rw [if_neg hz]
            by_cases hm : n + b % 128 * 128 ^ c > 1000000000
            · rw [if_pos hm, if_pos (.inr hm)]; rfl
            · rw [if_neg hm, if_neg (by omega)]; simp only [rvRes]; congr 3
        refine this.to fun k => ?_
        simp only [impl_ReadVar.l0]
        rw [if_pos (by omega), decide_eq_true h5.out]
      · simp only [rvGo]
        rw [if_neg h8]
        have ih := iRV_go s hs a f (c + 1) (n + b % 128 * 128 ^ c) (by omega) (by omega) (by omega) (by rw [Int.pow_succ]; omega)
        rw [Int.pow_succ] at ih
        have : Ev (fun k => impl_ReadVar.j1 k s a n (128 ^ c) ((a + c : Nat) : Int) true) (rvRes a (rvGo f (n + b % 128 * 128 ^ c) (128 ^ c * 128) (c + 1) ((bl s).drop (a + (c + 1))))) := by
          refine ih.to fun k => ?_
          simp only [impl_ReadVar.j1, if_true]
          rw [if_pos (by omega), if_pos (by omega), hB, e1.out, e2.out, wid (n := b) (by omega) (by omega), if_neg h8, wid (n := 128 ^ c * 128) (by omega) (by omega)]
        refine this.to fun k => ?_
        simp only [impl_ReadVar.l0]
        rw [if_pos (by omega), decide_eq_true h5.out]
    · rw [bl_end (by omega)]
      simp only [rvGo, rvRes]
      have : Ev (fun k => impl_ReadVar.j1 k s a n (128 ^ c) ((a + c : Nat) : Int) false) (0, 0, false) := (Ev.now _).to fun k => by simp only [impl_ReadVar.j1]; rw [if_neg (by decide)]
      refine this.to fun k => ?_
      simp only [impl_ReadVar.l0]
      rw [if_neg (by omega)]
theorem iReadVar (s : ByteArray) (hs : s.size ≤ 140737488351232) (a : Int) : Ev (fun k => impl_ReadVar.f k s a) (pReadVar s a) := by
  unfold impl_ReadVar.f pReadVar
  by_cases h : 0 ≤ a ∧ a ≤ s.size
  · rw [i_in_t h, if_pos h]
    simp only [Option.bind_some, if_true]
    have := iRV_go s hs a.toNat 5 0 0 rfl (by omega) (by omega) (by decide)
    simp only [Nat.add_zero, Int.pow_zero, Int.toNat_of_nonneg h.1] at this
    exact this
  · rw [i_in_f h, if_neg h]
    simp only [Option.bind_some, Bool.false_eq_true, if_false]
    exact Ev.now _

def pShort (s : ByteArray) : ByteArray × Bool := if s.size > 8000 then (⟨#[]⟩, false) else (strOfNums (varB s.size) ++ s, true)

theorem iShortText (s : ByteArray) (hs : s.size ≤ 140737488351232) : Ev (fun k => impl_ShortText.f k s) (pShort s) := by
  unfold impl_ShortText.f pShort
  by_cases h : s.size > 8000
  · rw [if_pos h]
    simp only [if_pos (show (s.size : Int) > 8000 by omega)]
    exact Ev.now _
  · rw [if_neg h]
    simp only [if_neg (show ¬ (s.size : Int) > 8000 by omega)]
    have hl := varB_len s.size
    refine (iVarText s.size).bind ?_
    have e : pVarText (s.size : Int) = (strOfNums (varB s.size), true) := by unfold pVarText; rw [if_pos (by omega), Int.toNat_natCast]
    rw [e]
    exact Ev.same (if_pos (by rw [str_len]; omega))

theorem pReadVar_some {s : ByteArray} {a n next : Int} (h : pReadVar s a = (n, next, true)) : ∃ c : Nat, 0 ≤ a ∧ next = a + c ∧ (bl s).drop a.toNat = varB n.toNat ++ (bl s).drop next.toNat ∧ c = (varB n.toNat).length ∧ a + c ≤ s.size ∧ 0 ≤ n ∧ n ≤ 1000000000 := by
  unfold pReadVar at h
  by_cases h0 : 0 ≤ a ∧ a ≤ s.size
  · rw [if_pos h0] at h
    cases hr : rv ((bl s).drop a.toNat) with
    | none => rw [hr] at h; simp [rvRes] at h
    | some p =>
      obtain ⟨m, c⟩ := p
      rw [hr] at h
      simp only [rvRes, Prod.mk.injEq, and_true] at h
      obtain ⟨rfl, rfl⟩ := h
      obtain ⟨rest, e, hc, h1, h2⟩ := rv_some ((bl_byt s).drop _) hr
      have hl := congrArg List.length e
      rw [List.length_drop, List.length_append, bl_len] at hl
      refine ⟨c, h0.1, rfl, ?_, hc, by omega, h1, h2⟩
      have hd : rest = (bl s).drop (a + c).toNat := by
        have := congrArg (List.drop c) e
        rw [List.drop_drop, hc, List.drop_left] at this
        rw [← this]
        congr 1
        omega
      rw [e, hd]
  · rw [if_neg h0] at h; simp at h
theorem pReadVar_cases (s : ByteArray) (a : Int) : pReadVar s a = (0, 0, false) ∨ ∃ n next, pReadVar s a = (n, next, true) := by
  unfold pReadVar
  split
  · cases rv ((bl s).drop a.toNat) with
    | none => exact .inl rfl
    | some p => exact .inr ⟨_, _, rfl⟩
  · exact .inl rfl
def pReadShort (s : ByteArray) (a : Int) : ByteArray × Int × Bool :=
  if (pReadVar s a).2.2 = true ∧ (pReadVar s a).1 ≤ 8000 ∧ (pReadVar s a).1 ≤ s.size - (pReadVar s a).2.1 then (s.extract (pReadVar s a).2.1.toNat ((pReadVar s a).2.1 + (pReadVar s a).1).toNat, (pReadVar s a).2.1 + (pReadVar s a).1, true) else (⟨#[]⟩, 0, false)

theorem iReadShort (s : ByteArray) (hs : s.size ≤ 140737488351232) (a : Int) : Ev (fun k => impl_ReadShort.f k s a) (pReadShort s a) := by
  unfold impl_ReadShort.f
  refine (iReadVar s hs a).bind ?_
  unfold pReadShort
  rcases pReadVar_cases s a with e | ⟨n, next, e⟩
  · rw [e]
    simp only [Bool.false_eq_true, false_and, if_false]
    exact Ev.now _
  · obtain ⟨c, h0, hn, _, _, hc, h1, h2⟩ := pReadVar_some e
    rw [e]
    simp only [true_and, if_true]
    have w1 : wrap64 ((s.size : Int) - next) = (s.size : Int) - next := wid (by omega) (by omega)
    have w2 : wrap64 (next + n) = next + n := wid (by omega) (by omega)
    rw [w1, w2]; clear w1 w2
    by_cases h8 : n ≤ 8000
    · by_cases h9 : n ≤ (s.size : Int) - next
      · rw [if_neg (by omega), if_neg (by omega), if_pos (by omega), if_pos (by omega), if_pos (by omega), if_pos ⟨h8, h9⟩]
        exact Ev.now _
      · rw [if_neg (by omega), if_pos (by omega), if_neg (fun h => h9 h.2)]
        exact Ev.now _
    · rw [if_pos (by omega), if_neg (fun h => h8 h.1)]
      exact Ev.now _

def fig (x : Int) : Int := if x < 10 then 48 + x else 87 + x
def hexL : List Int → List Int
  | [] => []
  | b :: l => fig (b / 16) :: fig (b % 16) :: hexL l
theorem fig_byt {x : Int} (h : 0 ≤ x ∧ x < 16) : 0 ≤ fig x ∧ fig x < 256 := by unfold fig; split <;> omega
theorem hexL_byt : ∀ l : List Int, Byt l → Byt (hexL l)
  | [], _ => Byt.nil
  | b :: l, h => by
    have := h.head
    exact ((hexL_byt l h.tail).cons (fig_byt ⟨by omega, by omega⟩)).cons (fig_byt ⟨by omega, by omega⟩)
theorem hexL_len : ∀ l : List Int, (hexL l).length = 2 * l.length
  | [] => rfl
  | b :: l => by simp only [hexL, List.length_cons, hexL_len l]; omega
def pHex (s : ByteArray) : ByteArray × Bool := if s.size > 8000 then (⟨#[]⟩, false) else (strOfNums (hexL (bl s)), true)

def FIG : ByteArray := ⟨#[48, 49, 50, 51, 52, 53, 54, 55, 56, 57, 97, 98, 99, 100, 101, 102]⟩
theorem FIG_all : ∀ n : Fin 16, bt FIG ((n.val : Nat) : Int) = fig ((n.val : Nat) : Int) := by decide +kernel
theorem FIG_at {x : Int} (h : 0 ≤ x ∧ x < 16) : bt FIG x = fig x := by
  have := FIG_all ⟨x.toNat, by omega⟩
  simpa only [Int.toNat_of_nonneg h.1] using this
theorem iHex_go (s : ByteArray) (hs : s.size ≤ 8000) : ∀ (d i : Nat) (acc : List Int), i + d = s.size → acc.length + 2 * d ≤ 20000 → Ev (fun k => impl_Hex.l0 k s acc (s.size : Int) (i : Int)) (strOfNums (acc ++ hexL ((bl s).drop i)), true)
  | 0, i, acc, hi, _ => by
    rw [bl_end (by omega)]
    refine (Ev.now _).to fun k => ?_
    simp only [impl_Hex.l0]
    rw [if_neg (by omega), hexL, List.append_nil]
  | d + 1, i, acc, hi, ha => by
    have hb := bt_range s (i : Int)
    rw [bl_cons (by omega)]
    have ih := iHex_go s hs d (i + 1) (acc ++ [fig (bt s i / 16), fig (bt s i % 16)]) (by omega) (by simp; omega)
    rw [hexL]
    rw [List.append_assoc] at ih
    have f1 := FIG_at (x := bt s i / 16) ⟨by omega, by omega⟩
    have f2 := FIG_at (x := bt s i % 16) ⟨by omega, by omega⟩
    unfold FIG at f1 f2
    refine ih.to fun k => ?_
    simp only [impl_Hex.l0]
    rw [if_pos (by omega), if_pos (by omega), if_pos (by omega), if_pos (by omega), if_pos (by omega), Go.u8_and15 _ hb.1 (by omega), if_pos (by omega), if_pos (by omega), f1, f2, wid (by omega) (by omega)]
    simp only [Option.bind_some]
    rw [if_pos (by simp; omega)]
    rfl
theorem iHex (s : ByteArray) (hs : s.size ≤ 140737488351232) : Ev (fun k => impl_Hex.f k s) (pHex s) := by
  unfold impl_Hex.f pHex
  by_cases h : s.size > 8000
  · rw [if_pos h]
    simp only [if_pos (show (s.size : Int) > 8000 by omega)]
    exact Ev.now _
  · rw [if_neg h]
    simp only [if_neg (show ¬ (s.size : Int) > 8000 by omega)]
    exact iHex_go s (by omega) s.size 0 [] (by omega) (by simp; omega)

/-- The value of a figure, or -1. -/
def figV (x : Int) : Int := if 48 ≤ x ∧ x ≤ 57 then x - 48 else if 97 ≤ x ∧ x ≤ 102 then x - 87 else -1
theorem figV_range (x : Int) : -1 ≤ figV x ∧ figV x ≤ 15 := by unfold figV; split <;> (try split) <;> omega
/-- The bytes that figures tell. -/
def unhexL : List Int → Option (List Int)
  | [] => some []
  | [_] => none
  | a :: b :: l => if figV a < 0 ∨ figV b < 0 then none else (unhexL l).map fun r => (16 * figV a + figV b) :: r
def unRes (acc : List Int) : Option (List Int) → ByteArray × Bool
  | some r => (strOfNums (acc ++ r), true)
  | none => (⟨#[]⟩, false)
def pUnhex (s : ByteArray) : ByteArray × Bool := if s.size % 2 = 0 ∧ s.size ≤ 16000 then unRes [] (unhexL (bl s)) else (⟨#[]⟩, false)
theorem unRes_cons (acc : List Int) (x : Int) (o : Option (List Int)) : unRes acc (o.map fun r => x :: r) = unRes (acc ++ [x]) o := by
  cases o with
  | none => rfl
  | some r => simp [unRes]

theorem ixb_all : ∀ n : Fin 256, Lib.indexByte [48, 49, 50, 51, 52, 53, 54, 55, 56, 57, 97, 98, 99, 100, 101, 102] (n.val.toUInt8) = figV (n.val : Int) := by decide +kernel
theorem ixb (x : Int) (h0 : 0 ≤ x) (h1 : x ≤ 255) : strings_IndexByte.f (⟨#[48, 49, 50, 51, 52, 53, 54, 55, 56, 57, 97, 98, 99, 100, 101, 102]⟩ : ByteArray) x = some (figV x) := by
  unfold strings_IndexByte.f stringslite_IndexByte.f
  have := ixb_all ⟨x.toNat, by omega⟩
  simp only [Int.toNat_of_nonneg h0] at this
  simp only [Option.bind_some]
  rw [← this]
theorem iUn_go (s : ByteArray) (hs : s.size ≤ 16000) (hev : s.size % 2 = 0) : ∀ (d i : Nat) (acc : List Int), i + 2 * d = s.size → acc.length + d ≤ 20000 → Ev (fun k => impl_Unhex.l0 k s acc (i : Int)) (unRes acc (unhexL ((bl s).drop i)))
  | 0, i, acc, hi, _ => by
    rw [bl_end (by omega)]
    refine (Ev.now _).to fun k => ?_
    simp only [impl_Unhex.l0]
    rw [if_neg (by omega)]
    simp [unhexL, unRes]
  | d + 1, i, acc, hi, ha => by
    have b0 := bt_range s (i : Int)
    have b1 := bt_range s ((i + 1 : Nat) : Int)
    have f0 := figV_range (bt s (i : Int))
    have f1 := figV_range (bt s ((i + 1 : Nat) : Int))
    rw [bl_cons (by omega), bl_cons (i := i + 1) (by omega), unhexL]
    have w1 : Aside0 (wrap64 ((i : Int) + 1) = ((i + 1 : Nat) : Int)) := ⟨by rw [wid (by omega) (by omega)]; rfl⟩
    have w2 : Aside0 (wrap64 ((i : Int) + 2) = ((i + 2 : Nat) : Int)) := ⟨by rw [wid (by omega) (by omega)]; rfl⟩
    refine Ev.to (f := fun k => if figV (bt s (i : Int)) < 0 then some ((⟨#[]⟩ : ByteArray), false) else if figV (bt s ((i + 1 : Nat) : Int)) < 0 then some ((⟨#[]⟩ : ByteArray), false) else if acc.length < 140737488355328 then impl_Unhex.l0 k s (acc ++ [wrap64 (wrap64 (16 * figV (bt s (i : Int))) + figV (bt s ((i + 1 : Nat) : Int))) % 256]) ((i + 2 : Nat) : Int) else none) ?_ fun k => by
      simp only [impl_Unhex.l0]
      rw [if_pos (by omega), if_pos (by omega), w1.out, w2.out, ixb _ b0.1 b0.2]
      simp only [Option.bind_some]
      rw [if_pos (by omega), if_pos (by omega), ixb _ b1.1 b1.2]
      rfl
    by_cases g0 : figV (bt s (i : Int)) < 0
    · rw [if_pos (.inl g0)]
      exact Ev.ifp g0 (Ev.now _)
    · refine Ev.ifn g0 ?_
      by_cases g1 : figV (bt s ((i + 1 : Nat) : Int)) < 0
      · rw [if_pos (.inr g1)]
        exact Ev.ifp g1 (Ev.now _)
      · rw [if_neg (by omega)]
        refine Ev.ifn g1 (Ev.ifp (by omega) ?_)
        have e : wrap64 (wrap64 (16 * figV (bt s (i : Int))) + figV (bt s ((i + 1 : Nat) : Int))) % 256 = 16 * figV (bt s (i : Int)) + figV (bt s ((i + 1 : Nat) : Int)) := by
          rw [wid (n := 16 * figV (bt s (i : Int))) (by omega) (by omega), wid (by omega) (by omega)]; omega
        rw [e, unRes_cons]
        exact iUn_go s hs hev d (i + 2) _ (by omega) (by simp; omega)
theorem iUnhex (s : ByteArray) (hs : s.size ≤ 140737488351232) : Ev (fun k => impl_Unhex.f k s) (pUnhex s) := by
  unfold impl_Unhex.f pUnhex
  by_cases h2 : s.size % 2 = 0
  · refine Ev.ifp (by omega) ?_
    by_cases h : s.size > 16000
    · rw [if_neg (fun g => by omega), decide_eq_true (by omega)]
      exact (Ev.now _).to fun k => by simp only [impl_Unhex.j0, if_true]
    · rw [if_pos ⟨h2, by omega⟩, decide_eq_false (by omega)]
      refine Ev.to (iUn_go s (by omega) h2 (s.size / 2) 0 [] (by omega) (by simp; omega)) fun k => ?_
      simp only [impl_Unhex.j0, Bool.false_eq_true, if_false]
      rfl
  · rw [if_neg (fun g => h2 g.1)]
    exact Ev.ifn (by omega) ((Ev.now _).to fun k => by simp only [impl_Unhex.j0, if_true])

theorem nrv_at {b : ByteArray} {p n : Nat} {rest : List Int} (h : (bl b).drop p = varB n ++ rest) (hn : n ≤ 1000000000) : pReadVar b (p : Int) = ((n : Int), ((p + (varB n).length : Nat) : Int), true) ∧ p + (varB n).length ≤ b.size ∧ (bl b).drop (p + (varB n).length) = rest := by
  have hl := congrArg List.length h
  rw [List.length_drop, List.length_append, bl_len] at hl
  have hv := varB_pos n
  have hd : (bl b).drop (p + (varB n).length) = rest := by
    have := congrArg (List.drop (varB n).length) h
    rw [List.drop_drop, List.drop_left] at this
    exact this
  refine ⟨?_, by omega, hd⟩
  unfold pReadVar
  rw [if_pos (by omega), Int.toNat_natCast, h, rv_var n hn rest]
  rfl
theorem short_back {s : ByteArray} (hs : s.size ≤ 8000) : pReadShort (pShort s).1 0 = (s, ((pShort s).1.size : Int), true) := by
  have e : (pShort s).1 = strOfNums (varB s.size) ++ s := by unfold pShort; rw [if_neg (by omega)]
  rw [e]
  have hb : (bl (strOfNums (varB s.size) ++ s)).drop 0 = varB s.size ++ bl s := by rw [List.drop_zero, bl_app, bl_str (varB_byt _)]
  obtain ⟨h1, h2, h3⟩ := nrv_at hb (by omega)
  have hz : (strOfNums (varB s.size) ++ s).size = (varB s.size).length + s.size := by rw [ByteArray.size_append, str_len]
  rw [Nat.zero_add] at h1 h2 h3
  have h1' : pReadVar (strOfNums (varB s.size) ++ s) 0 = ((s.size : Int), ((varB s.size).length : Int), true) := h1
  unfold pReadShort
  rw [h1']
  simp only
  rw [if_pos ⟨trivial, by omega, by omega⟩]
  have e1 : ((varB s.size).length : Int) + (s.size : Int) = (((varB s.size).length + s.size : Nat) : Int) := by omega
  rw [e1, Int.toNat_natCast, Int.toNat_natCast]
  have e2 : (strOfNums (varB s.size) ++ s).extract (varB s.size).length ((varB s.size).length + s.size) = s := by
    apply bl_inj
    rw [bl_ext, List.drop_take, h3, show (varB s.size).length + s.size - (varB s.size).length = s.size by omega, ← bl_len s, List.take_length]
  rw [e2, hz]
theorem figV_fig {x : Int} (h : 0 ≤ x ∧ x < 16) : figV (fig x) = x := by
  unfold fig figV
  by_cases c : x < 10
  · rw [if_pos c, if_pos (by omega)]; omega
  · rw [if_neg c, if_neg (by omega), if_pos (by omega)]; omega
theorem unhex_hex : ∀ l : List Int, Byt l → unhexL (hexL l) = some l
  | [], _ => rfl
  | b :: l, h => by
    have hb := h.head
    rw [hexL, unhexL, figV_fig ⟨by omega, by omega⟩, figV_fig ⟨by omega, by omega⟩, if_neg (by omega), unhex_hex l h.tail]
    simp only [Option.map_some, Option.some.injEq, List.cons.injEq, and_true]
    omega
theorem hex_back {s : ByteArray} (hs : s.size ≤ 8000) : pUnhex (strOfNums (hexL (bl s))) = (s, true) := by
  have hl : (strOfNums (hexL (bl s))).size = 2 * s.size := by rw [str_len, hexL_len, bl_len]
  unfold pUnhex
  rw [if_pos ⟨by omega, by omega⟩, bl_str (hexL_byt _ (bl_byt s)), unhex_hex _ (bl_byt s)]
  simp only [unRes, List.nil_append]
  rw [str_bl]
theorem var_back {n : Int} (h : 0 ≤ n ∧ n ≤ 1000000000) : pReadVar (((⟨#[120]⟩ : ByteArray) ++ strOfNums (varB n.toNat)) ++ (⟨#[121]⟩ : ByteArray)) 1 = (n, ((strOfNums (varB n.toNat)).size : Int) + 1, true) := by
  have hb : (bl (((⟨#[120]⟩ : ByteArray) ++ strOfNums (varB n.toNat)) ++ (⟨#[121]⟩ : ByteArray))).drop 1 = varB n.toNat ++ [121] := by
    rw [bl_app, bl_app, bl_str (varB_byt _)]
    rfl
  obtain ⟨h1, _, _⟩ := nrv_at hb (by omega)
  have h1' : pReadVar (((⟨#[120]⟩ : ByteArray) ++ strOfNums (varB n.toNat)) ++ (⟨#[121]⟩ : ByteArray)) 1 = ((n.toNat : Int), ((1 + (varB n.toNat).length : Nat) : Int), true) := h1
  rw [h1', str_len, Int.toNat_of_nonneg h.1]
  congr 2
  omega
def NumGood (b : List Int) : Prop := ∃ (k : Nat) (n0 n : Int) (t0 t vs a h : ByteArray),
  spec_DrawVarText.f k b = some n0 ∧ ((0 ≤ n0 ∧ n0 ≤ 1000000000) ∧ n = n0 ∨ ¬ (0 ≤ n0 ∧ n0 ≤ 1000000000) ∧ n = 12345) ∧ (0 ≤ n ∧ n ≤ 1000000000) ∧
  impl_VarText.f k n = some (vs, true) ∧ impl_ReadVar.f k (((⟨#[120]⟩ : ByteArray) ++ vs) ++ (⟨#[121]⟩ : ByteArray)) 1 = some (n, (vs.size : Int) + 1, true) ∧
  spec_DrawHex.f k b = some t0 ∧ (t0.size ≤ 300 ∧ t = t0 ∨ ¬ t0.size ≤ 300 ∧ t = ⟨#[97, 98, 99]⟩) ∧
  impl_ShortText.f k t = some (a, true) ∧ impl_ReadShort.f k a 0 = some (t, (a.size : Int), true) ∧ impl_Hex.f k t = some (h, true) ∧ impl_Unhex.f k h = some (t, true) ∧ vs.size ≤ 5 ∧ t.size ≤ 300 ∧ a.size ≤ 400
theorem num_good (b : List Int) (hb : b.length ≤ 1048576) : NumGood b := by
  obtain ⟨n0, evN⟩ := dVarText b (by omega)
  obtain ⟨t0, evT, ht0⟩ := dHex b (by omega)
  obtain ⟨n, hn, hnr⟩ : ∃ n, ((0 ≤ n0 ∧ n0 ≤ 1000000000) ∧ n = n0 ∨ ¬ (0 ≤ n0 ∧ n0 ≤ 1000000000) ∧ n = 12345) ∧ (0 ≤ n ∧ n ≤ 1000000000) := by
    by_cases h : 0 ≤ n0 ∧ n0 ≤ 1000000000
    · exact ⟨n0, .inl ⟨h, rfl⟩, h⟩
    · exact ⟨12345, .inr ⟨h, rfl⟩, by omega⟩
  obtain ⟨t, ht, htr⟩ : ∃ t : ByteArray, (t0.size ≤ 300 ∧ t = t0 ∨ ¬ t0.size ≤ 300 ∧ t = ⟨#[97, 98, 99]⟩) ∧ t.size ≤ 300 := by
    by_cases h : t0.size ≤ 300
    · exact ⟨t0, .inl ⟨h, rfl⟩, h⟩
    · exact ⟨_, .inr ⟨h, rfl⟩, by decide⟩
  have e1 := iVarText n
  rw [show pVarText n = (strOfNums (varB n.toNat), true) from by unfold pVarText; rw [if_pos hnr]] at e1
  have hv5 := varB_len5 (n := n.toNat) (by omega)
  have e2 := iReadVar (((⟨#[120]⟩ : ByteArray) ++ strOfNums (varB n.toNat)) ++ (⟨#[121]⟩ : ByteArray)) (by
    rw [ByteArray.size_append, ByteArray.size_append, str_len]
    show 1 + (varB n.toNat).length + 1 ≤ _
    omega) 1
  rw [var_back hnr] at e2
  have e3 := iShortText t (by omega)
  have hp : pShort t = ((pShort t).1, true) := by unfold pShort; rw [if_neg (by omega)]
  have hz : (pShort t).1.size ≤ 400 := by
    unfold pShort
    rw [if_neg (by omega)]
    simp only
    rw [ByteArray.size_append, str_len]
    have := varB_len5 (n := t.size) (by omega)
    omega
  rw [hp] at e3
  have e4 := iReadShort (pShort t).1 (by omega) 0
  rw [short_back (by omega)] at e4
  have e5 := iHex t (by omega)
  rw [show pHex t = (strOfNums (hexL (bl t)), true) from by unfold pHex; rw [if_neg (by omega)]] at e5
  have e6 := iUnhex (strOfNums (hexL (bl t))) (by rw [str_len, hexL_len, bl_len]; omega)
  rw [hex_back (by omega)] at e6
  obtain ⟨k1, h1⟩ := evN
  obtain ⟨k2, h2⟩ := evT
  obtain ⟨k3, h3⟩ := e1
  obtain ⟨k4, h4⟩ := e2
  obtain ⟨k5, h5⟩ := e3
  obtain ⟨k6, h6⟩ := e4
  obtain ⟨k7, h7⟩ := e5
  obtain ⟨k8, h8⟩ := e6
  exact ⟨k1 + k2 + k3 + k4 + k5 + k6 + k7 + k8, n0, n, t0, t, _, _, _, h1 _ (by omega), hn, hnr, h3 _ (by omega), h4 _ (by omega), h2 _ (by omega), ht, h5 _ (by omega), h6 _ (by omega), h7 _ (by omega), h8 _ (by omega), by rw [str_len]; exact hv5, htr, hz⟩

end Go.Proofs.YtcmgaldejpkeaaaDoor.Pure
