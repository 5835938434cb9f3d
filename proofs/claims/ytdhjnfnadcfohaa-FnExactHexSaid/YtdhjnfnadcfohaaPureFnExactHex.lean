/- The program's Hex and the reference's Hex return the same text and flag, for every text. -/
import Derived.Test.YtdhjnfnadcfohaaPFnExactHexx1
import Derived.Laws.BitsAllLaws
namespace Go.Proofs.Ytdhjnfnadcfohaa.Pure
open Go.RowKit Go.Proofs.Ytdhjnfnadcfohaa.PFnExactHex Go.Proofs.YtdhjnfnadcfohaaW.PrintWords Go.Proofs.YtdhjnfnadcfohaaW.PrintLast
set_option linter.unusedVariables false
set_option linter.unusedSimpArgs false
set_option maxHeartbeats 4000000

theorem wid {n : Int} (h0 : -9223372036854775808 ≤ n) (h1 : n < 9223372036854775808) : wrap64 n = n := by unfold wrap64; omega
theorem _root_.Go.Proofs.YtdhjnfnadcfohaaW.PrintWords.Ev.ofEq {α : Type} {g : Nat → Option α} {r q : α} (h : Ev g r) (e : r = q) : Ev g q := e ▸ h
theorem _root_.Go.Proofs.YtdhjnfnadcfohaaW.PrintWords.Ev.same {α : Type} {o : Option α} {r : α} (h : o = some r) : Ev (fun _ => o) r := ⟨0, fun _ _ => h⟩
theorem _root_.Go.Proofs.YtdhjnfnadcfohaaW.PrintWords.Ev.to {α : Type} {g f : Nat → Option α} {r : α} (k : Ev f r) (h : ∀ k, g (k + 1) = f k) : Ev g r := Ev.step h k
theorem _root_.Go.Proofs.YtdhjnfnadcfohaaW.PrintWords.Ev.cg {α : Type} {g f : Nat → Option α} {r : α} (k : Ev f r) (h : ∀ k, g k = f k) : Ev g r := Ev.congr h k
/-- The bytes of a string, as numbers. -/
def bl (s : ByteArray) : List Int := s.data.toList.map fun b => (b.toNat : Int)
theorem bl_len (s : ByteArray) : (bl s).length = s.size := by unfold bl; rw [List.length_map]; rfl
def Byt (xs : List Int) : Prop := ∀ x ∈ xs, 0 ≤ x ∧ x < 256
theorem Byt.nil : Byt [] := fun _ h => by simp at h
theorem Byt.cons {x : Int} {xs : List Int} (h : 0 ≤ x ∧ x < 256) (h' : Byt xs) : Byt (x :: xs) := fun y hy => by
  rcases List.mem_cons.1 hy with rfl | hy
  · exact h
  · exact h' y hy
theorem Byt.app {xs ys : List Int} (h : Byt xs) (h' : Byt ys) : Byt (xs ++ ys) := fun y hy => by
  rcases List.mem_append.1 hy with hy | hy
  · exact h y hy
  · exact h' y hy
theorem Byt.left {xs ys : List Int} (h : Byt (xs ++ ys)) : Byt xs := fun y hy => h y (List.mem_append_left _ hy)
theorem Byt.right {xs ys : List Int} (h : Byt (xs ++ ys)) : Byt ys := fun y hy => h y (List.mem_append_right _ hy)
theorem Byt.tail {x : Int} {xs : List Int} (h : Byt (x :: xs)) : Byt xs := fun y hy => h y (List.mem_cons_of_mem _ hy)
theorem Byt.head {x : Int} {xs : List Int} (h : Byt (x :: xs)) : 0 ≤ x ∧ x < 256 := h x (List.mem_cons_self ..)
theorem Byt.drop {xs : List Int} (h : Byt xs) (n : Nat) : Byt (xs.drop n) := fun y hy => h y (List.mem_of_mem_drop hy)
theorem Byt.take {xs : List Int} (h : Byt xs) (n : Nat) : Byt (xs.take n) := fun y hy => h y (List.mem_of_mem_take hy)
theorem bl_byt (s : ByteArray) : Byt (bl s) := fun x hx => by
  obtain ⟨b, _, rfl⟩ := List.mem_map.1 hx
  have := b.toNat_lt
  omega
theorem u8_back (b : UInt8) : UInt8.ofNat ((b.toNat : Int)).toNat = b := by simp
theorem bl_str {xs : List Int} (h : Byt xs) : bl (strOfNums xs) = xs := by
  unfold bl
  rw [strOfNums_data, List.map_map]
  conv => rhs; rw [← List.map_id xs]
  apply List.map_congr_left
  intro x hx
  have := h x hx
  simp only [Function.comp, id]
  obtain ⟨n, rfl⟩ := Int.eq_ofNat_of_zero_le this.1
  simp
  omega
theorem str_bl (s : ByteArray) : strOfNums (bl s) = s := by
  unfold strOfNums bl
  rw [List.map_map]
  have : ((fun n : Int => UInt8.ofNat n.toNat) ∘ fun b : UInt8 => (b.toNat : Int)) = id := by
    funext b
    simp
  rw [this, List.map_id]
theorem bl_inj {a b : ByteArray} (h : bl a = bl b) : a = b := by rw [← str_bl a, ← str_bl b, h]
theorem bt_bl (s : ByteArray) (i : Int) : bt s i = (bl s).getD i.toNat 0 := by
  unfold bt
  split
  · rename_i h
    have hl : i.toNat < s.data.toList.length := h
    simp only [bl, List.getD_eq_getElem?_getD, List.getElem?_map, List.getElem?_eq_getElem hl, Option.map_some, Option.getD_some]
    rfl
  · rename_i h
    rw [List.getD_eq_getElem?_getD, List.getElem?_eq_none (by rw [bl_len]; omega)]
    rfl
theorem bl_app (a b : ByteArray) : bl (a ++ b) = bl a ++ bl b := by
  unfold bl
  rw [ByteArray.data_append, Array.toList_append, List.map_append]
theorem bl_ext (a : ByteArray) (i j : Nat) : bl (a.extract i j) = ((bl a).take j).drop i := by
  unfold bl
  rw [ByteArray.data_extract, Array.toList_extract, List.extract_eq_take_drop, List.map_take, List.map_drop, List.drop_take]
theorem bl_emp : bl (⟨#[]⟩ : ByteArray) = [] := rfl
theorem bl_cons {s : ByteArray} {i : Nat} (h : i < s.size) : (bl s).drop i = bt s (i : Int) :: (bl s).drop (i + 1) := by
  have hl : i < (bl s).length := by rw [bl_len]; exact h
  rw [List.drop_eq_getElem_cons hl, bt_bl, List.getD_eq_getElem?_getD, Int.toNat_natCast, List.getElem?_eq_getElem hl]
  rfl
theorem bl_end {s : ByteArray} {i : Nat} (h : s.size ≤ i) : (bl s).drop i = [] := List.drop_of_length_le (by rw [bl_len]; exact h)
theorem tl_inj {a b : ByteArray} : a.toList = b.toList ↔ a = b := by
  constructor
  · intro h
    rw [ByteArray.toList_eq, ByteArray.toList_eq] at h
    apply ByteArray.ext
    exact Array.toList_inj.1 h
  · rintro rfl; rfl
theorem tl_bl {a b : ByteArray} : a.toList = b.toList ↔ bl a = bl b := tl_inj.trans ⟨fun h => h ▸ rfl, bl_inj⟩
theorem tdiv_pos {a b : Int} (h : 0 ≤ a) : Int.tdiv a b = a / b := Int.tdiv_eq_ediv_of_nonneg h
theorem tmod_pos {a b : Int} (h : 0 ≤ a) : Int.tmod a b = a % b := Int.tmod_eq_emod_of_nonneg h
theorem bne_rfl_bool (b : Bool) : (b != b) = false := by cases b <;> rfl
theorem wf_u32 {n : Int} (h : (Lit.int .u32 n).wf = true) : 0 ≤ n ∧ n < 4294967296 := by
  have h1 : IntKind.u32.min = 0 := by decide +kernel
  have h2 : IntKind.u32.max = 4294967295 := by decide +kernel
  simp only [Lit.wf, h1, h2, Bool.and_eq_true, decide_eq_true_eq] at h
  omega
theorem wf_i64 {n : Int} (h : (Lit.int .i64 n).wf = true) : -9223372036854775808 ≤ n ∧ n < 9223372036854775808 := by
  have h1 : IntKind.i64.min = -9223372036854775808 := by decide +kernel
  have h2 : IntKind.i64.max = 9223372036854775807 := by decide +kernel
  simp only [Lit.wf, h1, h2, Bool.and_eq_true, decide_eq_true_eq] at h
  omega
theorem Byt.one {x : Int} (h : 0 ≤ x ∧ x < 256) : Byt [x] := Byt.nil.cons h
theorem bl_size (s : ByteArray) : s.size = (bl s).length := (bl_len s).symm
theorem str_len (xs : List Int) : (strOfNums xs).size = xs.length := strOfNums_size xs

def fig (x : Int) : Int := if x < 10 then 48 + x else 87 + x
def hexL : List Int → List Int
  | [] => []
  | b :: l => fig (b / 16) :: fig (b % 16) :: hexL l
theorem fig_byt {x : Int} (h : 0 ≤ x ∧ x < 16) : 0 ≤ fig x ∧ fig x < 256 := by unfold fig; split <;> omega
theorem hexL_byt : ∀ l : List Int, Byt l → Byt (hexL l)
  | [], _ => Byt.nil
  | b :: l, h => by
    have := h.head
    exact ((hexL_byt l h.tail).cons (fig_byt ⟨by omega, by omega⟩)).cons (fig_byt ⟨by omega, by omega⟩)
theorem hexL_len : ∀ l : List Int, (hexL l).length = 2 * l.length
  | [] => rfl
  | b :: l => by simp only [hexL, List.length_cons, hexL_len l]; omega
def pHex (s : ByteArray) : ByteArray × Bool := if s.size > 8000 then (⟨#[]⟩, false) else (strOfNums (hexL (bl s)), true)

theorem s_fig {x : Int} (h : 0 ≤ x ∧ x < 16) : spec_l01Figure.f x = some (fig x) := by
  unfold spec_l01Figure.f fig
  by_cases h1 : x < 10
  · rw [if_pos h1, if_pos h1, wid (by omega) (by omega)]; congr 1; omega
  · rw [if_neg h1, if_neg h1, wid (n := 97 + x) (by omega) (by omega), wid (by omega) (by omega)]; congr 1; omega
theorem sHex_go (s : ByteArray) (hs : s.size ≤ 8000) : ∀ (d i : Nat) (acc : List Int), i + d = s.size → acc.length + 2 * d ≤ 20000 → Ev (fun k => spec_Hex.l0 k s acc (i : Int)) (strOfNums (acc ++ hexL ((bl s).drop i)), true)
  | 0, i, acc, hi, _ => by
    rw [bl_end (by omega)]
    refine (Ev.now _).to fun k => ?_
    simp only [spec_Hex.l0]
    rw [if_neg (by omega), hexL, List.append_nil]
  | d + 1, i, acc, hi, ha => by
    have hb := bt_range s (i : Int)
    rw [bl_cons (by omega)]
    have ih := sHex_go s hs d (i + 1) (acc ++ [fig (bt s i / 16), fig (bt s i % 16)]) (by omega) (by simp; omega)
    rw [hexL]
    rw [List.append_assoc] at ih
    refine ih.to fun k => ?_
    simp only [spec_Hex.l0]
    rw [if_pos (by omega), if_pos (by omega), wid (n := bt s i) (by omega) (by omega), tdiv_pos hb.1, tmod_pos hb.1, wid (n := bt s i / 16) (by omega) (by omega), s_fig ⟨by omega, by omega⟩, s_fig ⟨by omega, by omega⟩, wid (by omega) (by omega)]
    simp only [Option.bind_some]
    rw [if_pos (by simp; omega)]
    rfl
theorem sHex (s : ByteArray) (hs : s.size ≤ 140737488351232) : Ev (fun k => spec_Hex.f k s) (pHex s) := by
  unfold spec_Hex.f pHex
  by_cases h : s.size > 8000
  · rw [if_pos h]
    simp only [if_pos (show (s.size : Int) > 8000 by omega)]
    exact Ev.now _
  · rw [if_neg h]
    simp only [if_neg (show ¬ (s.size : Int) > 8000 by omega)]
    exact sHex_go s (by omega) s.size 0 [] (by omega) (by simp; omega)

def FIG : ByteArray := ⟨#[48, 49, 50, 51, 52, 53, 54, 55, 56, 57, 97, 98, 99, 100, 101, 102]⟩
theorem FIG_all : ∀ n : Fin 16, bt FIG ((n.val : Nat) : Int) = fig ((n.val : Nat) : Int) := by decide +kernel
theorem FIG_at {x : Int} (h : 0 ≤ x ∧ x < 16) : bt FIG x = fig x := by
  have := FIG_all ⟨x.toNat, by omega⟩
  simpa only [Int.toNat_of_nonneg h.1] using this
theorem iHex_go (s : ByteArray) (hs : s.size ≤ 8000) : ∀ (d i : Nat) (acc : List Int), i + d = s.size → acc.length + 2 * d ≤ 20000 → Ev (fun k => impl_Hex.l0 k s acc (s.size : Int) (i : Int)) (strOfNums (acc ++ hexL ((bl s).drop i)), true)
  | 0, i, acc, hi, _ => by
    rw [bl_end (by omega)]
    refine (Ev.now _).to fun k => ?_
    simp only [impl_Hex.l0]
    rw [if_neg (by omega), hexL, List.append_nil]
  | d + 1, i, acc, hi, ha => by
    have hb := bt_range s (i : Int)
    rw [bl_cons (by omega)]
    have ih := iHex_go s hs d (i + 1) (acc ++ [fig (bt s i / 16), fig (bt s i % 16)]) (by omega) (by simp; omega)
    rw [hexL]
    rw [List.append_assoc] at ih
    have f1 := FIG_at (x := bt s i / 16) ⟨by omega, by omega⟩
    have f2 := FIG_at (x := bt s i % 16) ⟨by omega, by omega⟩
    unfold FIG at f1 f2
    refine ih.to fun k => ?_
    simp only [impl_Hex.l0]
    rw [if_pos (by omega), if_pos (by omega), if_pos (by omega), if_pos (by omega), if_pos (by omega), Go.u8_and15 _ hb.1 (by omega), if_pos (by omega), if_pos (by omega), f1, f2, wid (by omega) (by omega)]
    simp only [Option.bind_some]
    rw [if_pos (by simp; omega)]
    rfl
theorem iHex (s : ByteArray) (hs : s.size ≤ 140737488351232) : Ev (fun k => impl_Hex.f k s) (pHex s) := by
  unfold impl_Hex.f pHex
  by_cases h : s.size > 8000
  · rw [if_pos h]
    simp only [if_pos (show (s.size : Int) > 8000 by omega)]
    exact Ev.now _
  · rw [if_neg h]
    simp only [if_neg (show ¬ (s.size : Int) > 8000 by omega)]
    exact iHex_go s (by omega) s.size 0 [] (by omega) (by simp; omega)

theorem FnExactHex : laws_FnExactHex.Pure := by
  intro a0 hs
  by_cases hb : (a0.size : Int) > 1048576
  · exact ⟨0, by unfold laws_FnExactHex.f; rw [if_pos hb]⟩
  · refine Ev.rounds (g := fun k => laws_FnExactHex.f k a0) ?_
    unfold laws_FnExactHex.f
    simp only [if_neg hb]
    refine (sHex a0 hs).bind ((iHex a0 hs).bind ?_)
    simp only [if_true, bne_rfl_bool, Bool.false_eq_true, if_false]
    exact Ev.now _

end Go.Proofs.Ytdhjnfnadcfohaa.Pure
