/- The program's Better and the reference's Better return the same flag, for all sums. -/
import Derived.Test.YtdhjnfnadcfohaaPFnExactBetterx1
import Derived.Laws.BitsAllLaws
namespace Go.Proofs.Ytdhjnfnadcfohaa.Pure
open Go.RowKit Go.Proofs.Ytdhjnfnadcfohaa.PFnExactBetter Go.Proofs.YtdhjnfnadcfohaaW.PrintWords Go.Proofs.YtdhjnfnadcfohaaW.PrintLast
set_option linter.unusedVariables false
set_option linter.unusedSimpArgs false
set_option maxHeartbeats 4000000

def laws_FnExactBetter.Pure : Prop := ∀ (a0_0 : Int) (a0_1 : Int) (a0_2 : Int) (a1_0 : Int) (a1_1 : Int) (a1_2 : Int), ((Lit.int .i64 a0_0).wf = true) → ((Lit.int .i64 a0_1).wf = true) → ((Lit.int .i64 a0_2).wf = true) → ((Lit.int .i64 a1_0).wf = true) → ((Lit.int .i64 a1_1).wf = true) → ((Lit.int .i64 a1_2).wf = true) → laws_FnExactBetter.f a0_0 a0_1 a0_2 a1_0 a1_1 a1_2 = some true

theorem wid {n : Int} (h0 : -9223372036854775808 ≤ n) (h1 : n < 9223372036854775808) : wrap64 n = n := by unfold wrap64; omega
theorem _root_.Go.Proofs.YtdhjnfnadcfohaaW.PrintWords.Ev.ofEq {α : Type} {g : Nat → Option α} {r q : α} (h : Ev g r) (e : r = q) : Ev g q := e ▸ h
theorem _root_.Go.Proofs.YtdhjnfnadcfohaaW.PrintWords.Ev.same {α : Type} {o : Option α} {r : α} (h : o = some r) : Ev (fun _ => o) r := ⟨0, fun _ _ => h⟩
theorem _root_.Go.Proofs.YtdhjnfnadcfohaaW.PrintWords.Ev.to {α : Type} {g f : Nat → Option α} {r : α} (k : Ev f r) (h : ∀ k, g (k + 1) = f k) : Ev g r := Ev.step h k
theorem _root_.Go.Proofs.YtdhjnfnadcfohaaW.PrintWords.Ev.cg {α : Type} {g f : Nat → Option α} {r : α} (k : Ev f r) (h : ∀ k, g k = f k) : Ev g r := Ev.congr h k
theorem _root_.Go.Proofs.YtdhjnfnadcfohaaW.PrintWords.Ev.ifp {α : Type} {c : Prop} [Decidable c] {g f : Nat → Option α} {r : α} (h : c) (e : Ev g r) : Ev (fun k => if c then g k else f k) r := by simp only [if_pos h]; exact e
theorem _root_.Go.Proofs.YtdhjnfnadcfohaaW.PrintWords.Ev.ifn {α : Type} {c : Prop} [Decidable c] {g f : Nat → Option α} {r : α} (h : ¬ c) (e : Ev f r) : Ev (fun k => if c then g k else f k) r := by simp only [if_neg h]; exact e
/-- The bytes of a string, as numbers. -/
def bl (s : ByteArray) : List Int := s.data.toList.map fun b => (b.toNat : Int)
theorem bl_len (s : ByteArray) : (bl s).length = s.size := by unfold bl; rw [List.length_map]; rfl
def Byt (xs : List Int) : Prop := ∀ x ∈ xs, 0 ≤ x ∧ x < 256
theorem Byt.nil : Byt [] := fun _ h => by simp at h
theorem Byt.cons {x : Int} {xs : List Int} (h : 0 ≤ x ∧ x < 256) (h' : Byt xs) : Byt (x :: xs) := fun y hy => by
  rcases List.mem_cons.1 hy with rfl | hy
  · exact h
  · exact h' y hy
theorem Byt.app {xs ys : List Int} (h : Byt xs) (h' : Byt ys) : Byt (xs ++ ys) := fun y hy => by
  rcases List.mem_append.1 hy with hy | hy
  · exact h y hy
  · exact h' y hy
theorem Byt.left {xs ys : List Int} (h : Byt (xs ++ ys)) : Byt xs := fun y hy => h y (List.mem_append_left _ hy)
theorem Byt.right {xs ys : List Int} (h : Byt (xs ++ ys)) : Byt ys := fun y hy => h y (List.mem_append_right _ hy)
theorem Byt.tail {x : Int} {xs : List Int} (h : Byt (x :: xs)) : Byt xs := fun y hy => h y (List.mem_cons_of_mem _ hy)
theorem Byt.head {x : Int} {xs : List Int} (h : Byt (x :: xs)) : 0 ≤ x ∧ x < 256 := h x (List.mem_cons_self ..)
theorem Byt.drop {xs : List Int} (h : Byt xs) (n : Nat) : Byt (xs.drop n) := fun y hy => h y (List.mem_of_mem_drop hy)
theorem Byt.take {xs : List Int} (h : Byt xs) (n : Nat) : Byt (xs.take n) := fun y hy => h y (List.mem_of_mem_take hy)
theorem bl_byt (s : ByteArray) : Byt (bl s) := fun x hx => by
  obtain ⟨b, _, rfl⟩ := List.mem_map.1 hx
  have := b.toNat_lt
  omega
theorem u8_back (b : UInt8) : UInt8.ofNat ((b.toNat : Int)).toNat = b := by simp
theorem bl_str {xs : List Int} (h : Byt xs) : bl (strOfNums xs) = xs := by
  unfold bl
  rw [strOfNums_data, List.map_map]
  conv => rhs; rw [← List.map_id xs]
  apply List.map_congr_left
  intro x hx
  have := h x hx
  simp only [Function.comp, id]
  obtain ⟨n, rfl⟩ := Int.eq_ofNat_of_zero_le this.1
  simp
  omega
theorem str_bl (s : ByteArray) : strOfNums (bl s) = s := by
  unfold strOfNums bl
  rw [List.map_map]
  have : ((fun n : Int => UInt8.ofNat n.toNat) ∘ fun b : UInt8 => (b.toNat : Int)) = id := by
    funext b
    simp
  rw [this, List.map_id]
theorem bl_inj {a b : ByteArray} (h : bl a = bl b) : a = b := by rw [← str_bl a, ← str_bl b, h]
theorem bt_bl (s : ByteArray) (i : Int) : bt s i = (bl s).getD i.toNat 0 := by
  unfold bt
  split
  · rename_i h
    have hl : i.toNat < s.data.toList.length := h
    simp only [bl, List.getD_eq_getElem?_getD, List.getElem?_map, List.getElem?_eq_getElem hl, Option.map_some, Option.getD_some]
    rfl
  · rename_i h
    rw [List.getD_eq_getElem?_getD, List.getElem?_eq_none (by rw [bl_len]; omega)]
    rfl
theorem bl_app (a b : ByteArray) : bl (a ++ b) = bl a ++ bl b := by
  unfold bl
  rw [ByteArray.data_append, Array.toList_append, List.map_append]
theorem bl_ext (a : ByteArray) (i j : Nat) : bl (a.extract i j) = ((bl a).take j).drop i := by
  unfold bl
  rw [ByteArray.data_extract, Array.toList_extract, List.extract_eq_take_drop, List.map_take, List.map_drop, List.drop_take]
theorem bl_emp : bl (⟨#[]⟩ : ByteArray) = [] := rfl
theorem bl_cons {s : ByteArray} {i : Nat} (h : i < s.size) : (bl s).drop i = bt s (i : Int) :: (bl s).drop (i + 1) := by
  have hl : i < (bl s).length := by rw [bl_len]; exact h
  rw [List.drop_eq_getElem_cons hl, bt_bl, List.getD_eq_getElem?_getD, Int.toNat_natCast, List.getElem?_eq_getElem hl]
  rfl
theorem bl_end {s : ByteArray} {i : Nat} (h : s.size ≤ i) : (bl s).drop i = [] := List.drop_of_length_le (by rw [bl_len]; exact h)
theorem tl_inj {a b : ByteArray} : a.toList = b.toList ↔ a = b := by
  constructor
  · intro h
    rw [ByteArray.toList_eq, ByteArray.toList_eq] at h
    apply ByteArray.ext
    exact Array.toList_inj.1 h
  · rintro rfl; rfl
theorem tl_bl {a b : ByteArray} : a.toList = b.toList ↔ bl a = bl b := tl_inj.trans ⟨fun h => h ▸ rfl, bl_inj⟩
theorem tdiv_pos {a b : Int} (h : 0 ≤ a) : Int.tdiv a b = a / b := Int.tdiv_eq_ediv_of_nonneg h
theorem tmod_pos {a b : Int} (h : 0 ≤ a) : Int.tmod a b = a % b := Int.tmod_eq_emod_of_nonneg h
theorem bne_rfl_bool (b : Bool) : (b != b) = false := by cases b <;> rfl
theorem wf_u32 {n : Int} (h : (Lit.int .u32 n).wf = true) : 0 ≤ n ∧ n < 4294967296 := by
  have h1 : IntKind.u32.min = 0 := by decide +kernel
  have h2 : IntKind.u32.max = 4294967295 := by decide +kernel
  simp only [Lit.wf, h1, h2, Bool.and_eq_true, decide_eq_true_eq] at h
  omega
theorem wf_i64 {n : Int} (h : (Lit.int .i64 n).wf = true) : -9223372036854775808 ≤ n ∧ n < 9223372036854775808 := by
  have h1 : IntKind.i64.min = -9223372036854775808 := by decide +kernel
  have h2 : IntKind.i64.max = 9223372036854775807 := by decide +kernel
  simp only [Lit.wf, h1, h2, Bool.and_eq_true, decide_eq_true_eq] at h
  omega
theorem Byt.one {x : Int} (h : 0 ≤ x ∧ x < 256) : Byt [x] := Byt.nil.cons h
theorem bl_size (s : ByteArray) : s.size = (bl s).length := (bl_len s).symm
theorem str_len (xs : List Int) : (strOfNums xs).size = xs.length := strOfNums_size xs

theorem FnExactBetter : laws_FnExactBetter.Pure := by
  intro a b c d e f _ _ _ _ _ _
  have h : ∃ r, spec_Better.f a b c d e f = some r ∧ impl_Better.f a b c d e f = some r := by
    unfold spec_Better.f impl_Better.f
    by_cases h1 : a = d
    · rw [if_pos h1]
      by_cases h2 : b = e
      · rw [if_pos h2]; exact ⟨_, rfl, rfl⟩
      · rw [if_neg h2]; exact ⟨_, rfl, rfl⟩
    · rw [if_neg h1]; exact ⟨_, rfl, rfl⟩
  obtain ⟨r, h1, h2⟩ := h
  unfold laws_FnExactBetter.f laws_toSums.f
  simp only [Option.bind_some, h1, h2, bne_rfl_bool, Bool.false_eq_true, if_false]

end Go.Proofs.Ytdhjnfnadcfohaa.Pure
