/- The program's Unhex and the reference's Unhex return the same text and flag, for every text. -/
import Derived.Test.YtdhjnfnadcfohaaQFnExactUnhexx1
import Derived.Laws.BitsAllLaws
namespace Go.Proofs.Ytdhjnfnadcfohaa.Pure
open Go.RowKit Go.Proofs.Ytdhjnfnadcfohaa.QFnExactUnhex Go.Proofs.YtdhjnfnadcfohaaW.PrintWords Go.Proofs.YtdhjnfnadcfohaaW.PrintLast
set_option linter.unusedVariables false
set_option linter.unusedSimpArgs false
set_option maxHeartbeats 4000000

theorem wid {n : Int} (h0 : -9223372036854775808 ≤ n) (h1 : n < 9223372036854775808) : wrap64 n = n := by unfold wrap64; omega
theorem _root_.Go.Proofs.YtdhjnfnadcfohaaW.PrintWords.Ev.ofEq {α : Type} {g : Nat → Option α} {r q : α} (h : Ev g r) (e : r = q) : Ev g q := e ▸ h
theorem _root_.Go.Proofs.YtdhjnfnadcfohaaW.PrintWords.Ev.same {α : Type} {o : Option α} {r : α} (h : o = some r) : Ev (fun _ => o) r := ⟨0, fun _ _ => h⟩
theorem _root_.Go.Proofs.YtdhjnfnadcfohaaW.PrintWords.Ev.to {α : Type} {g f : Nat → Option α} {r : α} (k : Ev f r) (h : ∀ k, g (k + 1) = f k) : Ev g r := Ev.step h k
theorem _root_.Go.Proofs.YtdhjnfnadcfohaaW.PrintWords.Ev.cg {α : Type} {g f : Nat → Option α} {r : α} (k : Ev f r) (h : ∀ k, g k = f k) : Ev g r := Ev.congr h k
theorem _root_.Go.Proofs.YtdhjnfnadcfohaaW.PrintWords.Ev.ifp {α : Type} {c : Prop} [Decidable c] {g f : Nat → Option α} {r : α} (h : c) (e : Ev g r) : Ev (fun k => if c then g k else f k) r := by simp only [if_pos h]; exact e
theorem _root_.Go.Proofs.YtdhjnfnadcfohaaW.PrintWords.Ev.ifn {α : Type} {c : Prop} [Decidable c] {g f : Nat → Option α} {r : α} (h : ¬ c) (e : Ev f r) : Ev (fun k => if c then g k else f k) r := by simp only [if_neg h]; exact e
/-- The bytes of a string, as numbers. -/
def bl (s : ByteArray) : List Int := s.data.toList.map fun b => (b.toNat : Int)
theorem bl_len (s : ByteArray) : (bl s).length = s.size := by unfold bl; rw [List.length_map]; rfl
def Byt (xs : List Int) : Prop := ∀ x ∈ xs, 0 ≤ x ∧ x < 256
theorem Byt.nil : Byt [] := fun _ h => by simp at h
theorem Byt.cons {x : Int} {xs : List Int} (h : 0 ≤ x ∧ x < 256) (h' : Byt xs) : Byt (x :: xs) := fun y hy => by
  rcases List.mem_cons.1 hy with rfl | hy
  · exact h
  · exact h' y hy
theorem Byt.app {xs ys : List Int} (h : Byt xs) (h' : Byt ys) : Byt (xs ++ ys) := fun y hy => by
  rcases List.mem_append.1 hy with hy | hy
  · exact h y hy
  · exact h' y hy
theorem Byt.left {xs ys : List Int} (h : Byt (xs ++ ys)) : Byt xs := fun y hy => h y (List.mem_append_left _ hy)
theorem Byt.right {xs ys : List Int} (h : Byt (xs ++ ys)) : Byt ys := fun y hy => h y (List.mem_append_right _ hy)
theorem Byt.tail {x : Int} {xs : List Int} (h : Byt (x :: xs)) : Byt xs := fun y hy => h y (List.mem_cons_of_mem _ hy)
theorem Byt.head {x : Int} {xs : List Int} (h : Byt (x :: xs)) : 0 ≤ x ∧ x < 256 := h x (List.mem_cons_self ..)
theorem Byt.drop {xs : List Int} (h : Byt xs) (n : Nat) : Byt (xs.drop n) := fun y hy => h y (List.mem_of_mem_drop hy)
theorem Byt.take {xs : List Int} (h : Byt xs) (n : Nat) : Byt (xs.take n) := fun y hy => h y (List.mem_of_mem_take hy)
theorem bl_byt (s : ByteArray) : Byt (bl s) := fun x hx => by
  obtain ⟨b, _, rfl⟩ := List.mem_map.1 hx
  have := b.toNat_lt
  omega
theorem u8_back (b : UInt8) : UInt8.ofNat ((b.toNat : Int)).toNat = b := by simp
theorem bl_str {xs : List Int} (h : Byt xs) : bl (strOfNums xs) = xs := by
  unfold bl
  rw [strOfNums_data, List.map_map]
  conv => rhs; rw [← List.map_id xs]
  apply List.map_congr_left
  intro x hx
  have := h x hx
  simp only [Function.comp, id]
  obtain ⟨n, rfl⟩ := Int.eq_ofNat_of_zero_le this.1
  simp
  omega
theorem str_bl (s : ByteArray) : strOfNums (bl s) = s := by
  unfold strOfNums bl
  rw [List.map_map]
  have : ((fun n : Int => UInt8.ofNat n.toNat) ∘ fun b : UInt8 => (b.toNat : Int)) = id := by
    funext b
    simp
  rw [this, List.map_id]
theorem bl_inj {a b : ByteArray} (h : bl a = bl b) : a = b := by rw [← str_bl a, ← str_bl b, h]
theorem bt_bl (s : ByteArray) (i : Int) : bt s i = (bl s).getD i.toNat 0 := by
  unfold bt
  split
  · rename_i h
    have hl : i.toNat < s.data.toList.length := h
    simp only [bl, List.getD_eq_getElem?_getD, List.getElem?_map, List.getElem?_eq_getElem hl, Option.map_some, Option.getD_some]
    rfl
  · rename_i h
    rw [List.getD_eq_getElem?_getD, List.getElem?_eq_none (by rw [bl_len]; omega)]
    rfl
theorem bl_app (a b : ByteArray) : bl (a ++ b) = bl a ++ bl b := by
  unfold bl
  rw [ByteArray.data_append, Array.toList_append, List.map_append]
theorem bl_ext (a : ByteArray) (i j : Nat) : bl (a.extract i j) = ((bl a).take j).drop i := by
  unfold bl
  rw [ByteArray.data_extract, Array.toList_extract, List.extract_eq_take_drop, List.map_take, List.map_drop, List.drop_take]
theorem bl_emp : bl (⟨#[]⟩ : ByteArray) = [] := rfl
theorem bl_cons {s : ByteArray} {i : Nat} (h : i < s.size) : (bl s).drop i = bt s (i : Int) :: (bl s).drop (i + 1) := by
  have hl : i < (bl s).length := by rw [bl_len]; exact h
  rw [List.drop_eq_getElem_cons hl, bt_bl, List.getD_eq_getElem?_getD, Int.toNat_natCast, List.getElem?_eq_getElem hl]
  rfl
theorem bl_end {s : ByteArray} {i : Nat} (h : s.size ≤ i) : (bl s).drop i = [] := List.drop_of_length_le (by rw [bl_len]; exact h)
theorem tl_inj {a b : ByteArray} : a.toList = b.toList ↔ a = b := by
  constructor
  · intro h
    rw [ByteArray.toList_eq, ByteArray.toList_eq] at h
    apply ByteArray.ext
    exact Array.toList_inj.1 h
  · rintro rfl; rfl
theorem tl_bl {a b : ByteArray} : a.toList = b.toList ↔ bl a = bl b := tl_inj.trans ⟨fun h => h ▸ rfl, bl_inj⟩
theorem tdiv_pos {a b : Int} (h : 0 ≤ a) : Int.tdiv a b = a / b := Int.tdiv_eq_ediv_of_nonneg h
theorem tmod_pos {a b : Int} (h : 0 ≤ a) : Int.tmod a b = a % b := Int.tmod_eq_emod_of_nonneg h
theorem bne_rfl_bool (b : Bool) : (b != b) = false := by cases b <;> rfl
theorem wf_u32 {n : Int} (h : (Lit.int .u32 n).wf = true) : 0 ≤ n ∧ n < 4294967296 := by
  have h1 : IntKind.u32.min = 0 := by decide +kernel
  have h2 : IntKind.u32.max = 4294967295 := by decide +kernel
  simp only [Lit.wf, h1, h2, Bool.and_eq_true, decide_eq_true_eq] at h
  omega
theorem wf_i64 {n : Int} (h : (Lit.int .i64 n).wf = true) : -9223372036854775808 ≤ n ∧ n < 9223372036854775808 := by
  have h1 : IntKind.i64.min = -9223372036854775808 := by decide +kernel
  have h2 : IntKind.i64.max = 9223372036854775807 := by decide +kernel
  simp only [Lit.wf, h1, h2, Bool.and_eq_true, decide_eq_true_eq] at h
  omega
theorem Byt.one {x : Int} (h : 0 ≤ x ∧ x < 256) : Byt [x] := Byt.nil.cons h
theorem bl_size (s : ByteArray) : s.size = (bl s).length := (bl_len s).symm
theorem str_len (xs : List Int) : (strOfNums xs).size = xs.length := strOfNums_size xs

def fig (x : Int) : Int := if x < 10 then 48 + x else 87 + x
def hexL : List Int → List Int
  | [] => []
  | b :: l => fig (b / 16) :: fig (b % 16) :: hexL l
theorem fig_byt {x : Int} (h : 0 ≤ x ∧ x < 16) : 0 ≤ fig x ∧ fig x < 256 := by unfold fig; split <;> omega
theorem hexL_byt : ∀ l : List Int, Byt l → Byt (hexL l)
  | [], _ => Byt.nil
  | b :: l, h => by
    have := h.head
    exact ((hexL_byt l h.tail).cons (fig_byt ⟨by omega, by omega⟩)).cons (fig_byt ⟨by omega, by omega⟩)
theorem hexL_len : ∀ l : List Int, (hexL l).length = 2 * l.length
  | [] => rfl
  | b :: l => by simp only [hexL, List.length_cons, hexL_len l]; omega
def pHex (s : ByteArray) : ByteArray × Bool := if s.size > 8000 then (⟨#[]⟩, false) else (strOfNums (hexL (bl s)), true)

/-- The value of a figure, or -1. -/
def figV (x : Int) : Int := if 48 ≤ x ∧ x ≤ 57 then x - 48 else if 97 ≤ x ∧ x ≤ 102 then x - 87 else -1
theorem figV_range (x : Int) : -1 ≤ figV x ∧ figV x ≤ 15 := by unfold figV; split <;> (try split) <;> omega
/-- The bytes that figures tell. -/
def unhexL : List Int → Option (List Int)
  | [] => some []
  | [_] => none
  | a :: b :: l => if figV a < 0 ∨ figV b < 0 then none else (unhexL l).map fun r => (16 * figV a + figV b) :: r
def unRes (acc : List Int) : Option (List Int) → ByteArray × Bool
  | some r => (strOfNums (acc ++ r), true)
  | none => (⟨#[]⟩, false)
def pUnhex (s : ByteArray) : ByteArray × Bool := if s.size % 2 = 0 ∧ s.size ≤ 16000 then unRes [] (unhexL (bl s)) else (⟨#[]⟩, false)
theorem unRes_cons (acc : List Int) (x : Int) (o : Option (List Int)) : unRes acc (o.map fun r => x :: r) = unRes (acc ++ [x]) o := by
  cases o with
  | none => rfl
  | some r => simp [unRes]

theorem s_val (x : Int) (h0 : 0 ≤ x) (h1 : x ≤ 255) : Ev (fun k => spec_l01Value.f k x) (figV x) := by
  unfold spec_l01Value.f figV
  by_cases h : 48 ≤ x
  · refine Ev.ifp h ?_
    by_cases h2 : x ≤ 57
    · rw [if_pos ⟨h, h2⟩, decide_eq_true h2]
      refine (Ev.now _).to fun k => ?_
      simp only [spec_l01Value.j0, if_true]
      rw [wid (n := x) (by omega) (by omega), wid (by omega) (by omega)]
    · rw [if_neg (fun g => h2 g.2), decide_eq_false h2]
      by_cases h3 : 97 ≤ x ∧ x ≤ 102
      · rw [if_pos h3]
        refine (Ev.now _).to fun k => ?_
        simp only [spec_l01Value.j0, Bool.false_eq_true, if_false]
        rw [if_pos h3.1, if_pos h3.2, wid (n := x) (by omega) (by omega), wid (n := x - 97) (by omega) (by omega), wid (by omega) (by omega)]
        congr 1; omega
      · rw [if_neg h3]
        refine (Ev.now _).to fun k => ?_
        simp only [spec_l01Value.j0, Bool.false_eq_true, if_false]
        by_cases h4 : x ≥ 97
        · rw [if_pos h4, if_neg (by omega)]
        · rw [if_neg h4]
  · rw [if_neg (fun g => h g.1), if_neg (fun g => by omega)]
    refine Ev.ifn h ?_
    refine (Ev.now _).to fun k => ?_
    simp only [spec_l01Value.j0, Bool.false_eq_true, if_false]
    rw [if_neg (by omega)]
theorem sUn_go (s : ByteArray) (hs : s.size ≤ 16000) (hev : s.size % 2 = 0) : ∀ (d i : Nat) (acc : List Int), i + 2 * d = s.size → acc.length + d ≤ 20000 → Ev (fun k => spec_Unhex.l0 k s acc (i : Int)) (unRes acc (unhexL ((bl s).drop i)))
  | 0, i, acc, hi, _ => by
    rw [bl_end (by omega)]
    refine (Ev.now _).to fun k => ?_
    simp only [spec_Unhex.l0]
    rw [if_neg (by omega)]
    simp [unhexL, unRes]
  | d + 1, i, acc, hi, ha => by
    have b0 := bt_range s (i : Int)
    have b1 := bt_range s ((i + 1 : Nat) : Int)
    have f0 := figV_range (bt s (i : Int))
    have f1 := figV_range (bt s ((i + 1 : Nat) : Int))
    rw [bl_cons (by omega), bl_cons (i := i + 1) (by omega), unhexL]
    have w1 : Aside0 (wrap64 ((i : Int) + 1) = ((i + 1 : Nat) : Int)) := ⟨by rw [wid (by omega) (by omega)]; rfl⟩
    have w2 : Aside0 (wrap64 ((i : Int) + 2) = ((i + 2 : Nat) : Int)) := ⟨by rw [wid (by omega) (by omega)]; rfl⟩
    refine Ev.to (f := fun k => (spec_l01Value.f k (bt s (i : Int))).bind fun t104 => (spec_l01Value.f k (bt s ((i + 1 : Nat) : Int))).bind fun t105 => if t104 < 0 then some ((⟨#[]⟩ : ByteArray), false) else if t105 < 0 then some ((⟨#[]⟩ : ByteArray), false) else if acc.length < 140737488355328 then spec_Unhex.l0 k s (acc ++ [wrap64 (wrap64 (16 * t104) + t105) % 256]) ((i + 2 : Nat) : Int) else none) ?_ fun k => by
      simp only [spec_Unhex.l0]
      rw [if_pos (by omega), if_pos (by omega), w1.out, w2.out]
      congr 1
      funext t
      rw [if_pos (by omega), if_pos (by omega)]
    refine (s_val _ b0.1 b0.2).bind ((s_val _ b1.1 b1.2).bind ?_)
    by_cases g0 : figV (bt s (i : Int)) < 0
    · rw [if_pos (.inl g0)]
      exact Ev.ifp g0 (Ev.now _)
    · refine Ev.ifn g0 ?_
      by_cases g1 : figV (bt s ((i + 1 : Nat) : Int)) < 0
      · rw [if_pos (.inr g1)]
        exact Ev.ifp g1 (Ev.now _)
      · rw [if_neg (by omega)]
        refine Ev.ifn g1 (Ev.ifp (by omega) ?_)
        have e : wrap64 (wrap64 (16 * figV (bt s (i : Int))) + figV (bt s ((i + 1 : Nat) : Int))) % 256 = 16 * figV (bt s (i : Int)) + figV (bt s ((i + 1 : Nat) : Int)) := by
          rw [wid (n := 16 * figV (bt s (i : Int))) (by omega) (by omega), wid (by omega) (by omega)]; omega
        rw [e, unRes_cons]
        exact sUn_go s hs hev d (i + 2) _ (by omega) (by simp; omega)
theorem sUnhex (s : ByteArray) (hs : s.size ≤ 140737488351232) : Ev (fun k => spec_Unhex.f k s) (pUnhex s) := by
  unfold spec_Unhex.f pUnhex
  by_cases h : s.size > 16000
  · rw [if_neg (fun g => by omega)]
    exact Ev.ifp (by omega) ((Ev.now _).to fun k => by simp only [spec_Unhex.j0, if_true])
  · refine Ev.ifn (by omega) ?_
    by_cases h2 : s.size % 2 = 0
    · rw [if_pos ⟨h2, by omega⟩, show (((s.size : Int) % 2) != 0) = false by rw [bne_eq_false_iff_eq]; omega]
      refine Ev.to (sUn_go s (by omega) h2 (s.size / 2) 0 [] (by omega) (by simp; omega)) fun k => ?_
      simp only [spec_Unhex.j0, Bool.false_eq_true, if_false]
      rfl
    · rw [if_neg (fun g => h2 g.1), show (((s.size : Int) % 2) != 0) = true by rw [bne_iff_ne]; omega]
      exact (Ev.now _).to fun k => by simp only [spec_Unhex.j0, if_true]

theorem ixb_all : ∀ n : Fin 256, Lib.indexByte [48, 49, 50, 51, 52, 53, 54, 55, 56, 57, 97, 98, 99, 100, 101, 102] (n.val.toUInt8) = figV (n.val : Int) := by decide +kernel
theorem ixb (x : Int) (h0 : 0 ≤ x) (h1 : x ≤ 255) : strings_IndexByte.f (⟨#[48, 49, 50, 51, 52, 53, 54, 55, 56, 57, 97, 98, 99, 100, 101, 102]⟩ : ByteArray) x = some (figV x) := by
  unfold strings_IndexByte.f stringslite_IndexByte.f
  have := ixb_all ⟨x.toNat, by omega⟩
  simp only [Int.toNat_of_nonneg h0] at this
  simp only [Option.bind_some]
  rw [← this]
theorem iUn_go (s : ByteArray) (hs : s.size ≤ 16000) (hev : s.size % 2 = 0) : ∀ (d i : Nat) (acc : List Int), i + 2 * d = s.size → acc.length + d ≤ 20000 → Ev (fun k => impl_Unhex.l0 k s acc (i : Int)) (unRes acc (unhexL ((bl s).drop i)))
  | 0, i, acc, hi, _ => by
    rw [bl_end (by omega)]
    refine (Ev.now _).to fun k => ?_
    simp only [impl_Unhex.l0]
    rw [if_neg (by omega)]
    simp [unhexL, unRes]
  | d + 1, i, acc, hi, ha => by
    have b0 := bt_range s (i : Int)
    have b1 := bt_range s ((i + 1 : Nat) : Int)
    have f0 := figV_range (bt s (i : Int))
    have f1 := figV_range (bt s ((i + 1 : Nat) : Int))
    rw [bl_cons (by omega), bl_cons (i := i + 1) (by omega), unhexL]
    have w1 : Aside0 (wrap64 ((i : Int) + 1) = ((i + 1 : Nat) : Int)) := ⟨by rw [wid (by omega) (by omega)]; rfl⟩
    have w2 : Aside0 (wrap64 ((i : Int) + 2) = ((i + 2 : Nat) : Int)) := ⟨by rw [wid (by omega) (by omega)]; rfl⟩
    refine Ev.to (f := fun k => if figV (bt s (i : Int)) < 0 then some ((⟨#[]⟩ : ByteArray), false) else if figV (bt s ((i + 1 : Nat) : Int)) < 0 then some ((⟨#[]⟩ : ByteArray), false) else if acc.length < 140737488355328 then impl_Unhex.l0 k s (acc ++ [wrap64 (wrap64 (16 * figV (bt s (i : Int))) + figV (bt s ((i + 1 : Nat) : Int))) % 256]) ((i + 2 : Nat) : Int) else none) ?_ fun k => by
      simp only [impl_Unhex.l0]
      rw [if_pos (by omega), if_pos (by omega), w1.out, w2.out, ixb _ b0.1 b0.2]
      simp only [Option.bind_some]
      rw [if_pos (by omega), if_pos (by omega), ixb _ b1.1 b1.2]
      rfl
    by_cases g0 : figV (bt s (i : Int)) < 0
    · rw [if_pos (.inl g0)]
      exact Ev.ifp g0 (Ev.now _)
    · refine Ev.ifn g0 ?_
      by_cases g1 : figV (bt s ((i + 1 : Nat) : Int)) < 0
      · rw [if_pos (.inr g1)]
        exact Ev.ifp g1 (Ev.now _)
      · rw [if_neg (by omega)]
        refine Ev.ifn g1 (Ev.ifp (by omega) ?_)
        have e : wrap64 (wrap64 (16 * figV (bt s (i : Int))) + figV (bt s ((i + 1 : Nat) : Int))) % 256 = 16 * figV (bt s (i : Int)) + figV (bt s ((i + 1 : Nat) : Int)) := by
          rw [wid (n := 16 * figV (bt s (i : Int))) (by omega) (by omega), wid (by omega) (by omega)]; omega
        rw [e, unRes_cons]
        exact iUn_go s hs hev d (i + 2) _ (by omega) (by simp; omega)
theorem iUnhex (s : ByteArray) (hs : s.size ≤ 140737488351232) : Ev (fun k => impl_Unhex.f k s) (pUnhex s) := by
  unfold impl_Unhex.f pUnhex
  by_cases h2 : s.size % 2 = 0
  · refine Ev.ifp (by omega) ?_
    by_cases h : s.size > 16000
    · rw [if_neg (fun g => by omega), decide_eq_true (by omega)]
      exact (Ev.now _).to fun k => by simp only [impl_Unhex.j0, if_true]
    · rw [if_pos ⟨h2, by omega⟩, decide_eq_false (by omega)]
      refine Ev.to (iUn_go s (by omega) h2 (s.size / 2) 0 [] (by omega) (by simp; omega)) fun k => ?_
      simp only [impl_Unhex.j0, Bool.false_eq_true, if_false]
      rfl
  · rw [if_neg (fun g => h2 g.1)]
    exact Ev.ifn (by omega) ((Ev.now _).to fun k => by simp only [impl_Unhex.j0, if_true])

theorem FnExactUnhex : laws_FnExactUnhex.Pure := by
  intro a0 hs
  by_cases hb : (a0.size : Int) > 1048576
  · exact ⟨0, by unfold laws_FnExactUnhex.f; rw [if_pos hb]⟩
  · refine Ev.rounds (g := fun k => laws_FnExactUnhex.f k a0) ?_
    unfold laws_FnExactUnhex.f
    simp only [if_neg hb]
    refine (sUnhex a0 hs).bind ((iUnhex a0 hs).bind ?_)
    simp only [if_true, bne_rfl_bool, Bool.false_eq_true, if_false]
    exact Ev.now _

end Go.Proofs.Ytdhjnfnadcfohaa.Pure
