/- The program's Unsealed and the reference's Unsealed return the same text and flag, for every text. -/
import Derived.Test.YtjhgcdjpabhifaaPFnExactUnsealedx2
import Derived.Laws.BitsAllLaws
namespace Go.Proofs.Ytjhgcdjpabhifaa.Pure
open Go.RowKit Go.Proofs.Ytjhgcdjpabhifaa.PFnExactUnsealed Go.Proofs.YtjhgcdjpabhifaaW.PrintWords Go.Proofs.YtjhgcdjpabhifaaW.PrintLast
set_option linter.unusedVariables false
set_option linter.unusedSimpArgs false
set_option maxHeartbeats 4000000

theorem wid {n : Int} (h0 : -9223372036854775808 ≤ n) (h1 : n < 9223372036854775808) : wrap64 n = n := by unfold wrap64; omega
theorem _root_.Go.Proofs.YtjhgcdjpabhifaaW.PrintWords.Ev.ofEq {α : Type} {g : Nat → Option α} {r q : α} (h : Ev g r) (e : r = q) : Ev g q := e ▸ h
theorem _root_.Go.Proofs.YtjhgcdjpabhifaaW.PrintWords.Ev.same {α : Type} {o : Option α} {r : α} (h : o = some r) : Ev (fun _ => o) r := ⟨0, fun _ _ => h⟩
theorem _root_.Go.Proofs.YtjhgcdjpabhifaaW.PrintWords.Ev.to {α : Type} {g f : Nat → Option α} {r : α} (k : Ev f r) (h : ∀ k, g (k + 1) = f k) : Ev g r := Ev.step h k
theorem _root_.Go.Proofs.YtjhgcdjpabhifaaW.PrintWords.Ev.cg {α : Type} {g f : Nat → Option α} {r : α} (k : Ev f r) (h : ∀ k, g k = f k) : Ev g r := Ev.congr h k
theorem _root_.Go.Proofs.YtjhgcdjpabhifaaW.PrintWords.Ev.ifp {α : Type} {c : Prop} [Decidable c] {g f : Nat → Option α} {r : α} (h : c) (e : Ev g r) : Ev (fun k => if c then g k else f k) r := by simp only [if_pos h]; exact e
theorem _root_.Go.Proofs.YtjhgcdjpabhifaaW.PrintWords.Ev.ifn {α : Type} {c : Prop} [Decidable c] {g f : Nat → Option α} {r : α} (h : ¬ c) (e : Ev f r) : Ev (fun k => if c then g k else f k) r := by simp only [if_neg h]; exact e
/-- The bytes of a string, as numbers. -/
def bl (s : ByteArray) : List Int := s.data.toList.map fun b => (b.toNat : Int)
theorem bl_len (s : ByteArray) : (bl s).length = s.size := by unfold bl; rw [List.length_map]; rfl
def Byt (xs : List Int) : Prop := ∀ x ∈ xs, 0 ≤ x ∧ x < 256
theorem Byt.nil : Byt [] := fun _ h => by simp at h
theorem Byt.cons {x : Int} {xs : List Int} (h : 0 ≤ x ∧ x < 256) (h' : Byt xs) : Byt (x :: xs) := fun y hy => by
  rcases List.mem_cons.1 hy with rfl | hy
  · exact h
  · exact h' y hy
theorem Byt.app {xs ys : List Int} (h : Byt xs) (h' : Byt ys) : Byt (xs ++ ys) := fun y hy => by
  rcases List.mem_append.1 hy with hy | hy
  · exact h y hy
  · exact h' y hy
theorem Byt.left {xs ys : List Int} (h : Byt (xs ++ ys)) : Byt xs := fun y hy => h y (List.mem_append_left _ hy)
theorem Byt.right {xs ys : List Int} (h : Byt (xs ++ ys)) : Byt ys := fun y hy => h y (List.mem_append_right _ hy)
theorem Byt.tail {x : Int} {xs : List Int} (h : Byt (x :: xs)) : Byt xs := fun y hy => h y (List.mem_cons_of_mem _ hy)
theorem Byt.head {x : Int} {xs : List Int} (h : Byt (x :: xs)) : 0 ≤ x ∧ x < 256 := h x (List.mem_cons_self ..)
theorem Byt.drop {xs : List Int} (h : Byt xs) (n : Nat) : Byt (xs.drop n) := fun y hy => h y (List.mem_of_mem_drop hy)
theorem Byt.take {xs : List Int} (h : Byt xs) (n : Nat) : Byt (xs.take n) := fun y hy => h y (List.mem_of_mem_take hy)
theorem bl_byt (s : ByteArray) : Byt (bl s) := fun x hx => by
  obtain ⟨b, _, rfl⟩ := List.mem_map.1 hx
  have := b.toNat_lt
  omega
theorem u8_back (b : UInt8) : UInt8.ofNat ((b.toNat : Int)).toNat = b := by simp
theorem bl_str {xs : List Int} (h : Byt xs) : bl (strOfNums xs) = xs := by
  unfold bl
  rw [strOfNums_data, List.map_map]
  conv => rhs; rw [← List.map_id xs]
  apply List.map_congr_left
  intro x hx
  have := h x hx
  simp only [Function.comp, id]
  obtain ⟨n, rfl⟩ := Int.eq_ofNat_of_zero_le this.1
  simp
  omega
theorem str_bl (s : ByteArray) : strOfNums (bl s) = s := by
  unfold strOfNums bl
  rw [List.map_map]
  have : ((fun n : Int => UInt8.ofNat n.toNat) ∘ fun b : UInt8 => (b.toNat : Int)) = id := by
    funext b
    simp
  rw [this, List.map_id]
theorem bl_inj {a b : ByteArray} (h : bl a = bl b) : a = b := by rw [← str_bl a, ← str_bl b, h]
theorem bt_bl (s : ByteArray) (i : Int) : bt s i = (bl s).getD i.toNat 0 := by
  unfold bt
  split
  · rename_i h
    have hl : i.toNat < s.data.toList.length := h
    simp only [bl, List.getD_eq_getElem?_getD, List.getElem?_map, List.getElem?_eq_getElem hl, Option.map_some, Option.getD_some]
    rfl
  · rename_i h
    rw [List.getD_eq_getElem?_getD, List.getElem?_eq_none (by rw [bl_len]; omega)]
    rfl
theorem bl_app (a b : ByteArray) : bl (a ++ b) = bl a ++ bl b := by
  unfold bl
  rw [ByteArray.data_append, Array.toList_append, List.map_append]
theorem bl_ext (a : ByteArray) (i j : Nat) : bl (a.extract i j) = ((bl a).take j).drop i := by
  unfold bl
  rw [ByteArray.data_extract, Array.toList_extract, List.extract_eq_take_drop, List.map_take, List.map_drop, List.drop_take]
theorem bl_emp : bl (⟨#[]⟩ : ByteArray) = [] := rfl
theorem bl_cons {s : ByteArray} {i : Nat} (h : i < s.size) : (bl s).drop i = bt s (i : Int) :: (bl s).drop (i + 1) := by
  have hl : i < (bl s).length := by rw [bl_len]; exact h
  rw [List.drop_eq_getElem_cons hl, bt_bl, List.getD_eq_getElem?_getD, Int.toNat_natCast, List.getElem?_eq_getElem hl]
  rfl
theorem bl_end {s : ByteArray} {i : Nat} (h : s.size ≤ i) : (bl s).drop i = [] := List.drop_of_length_le (by rw [bl_len]; exact h)
theorem tl_inj {a b : ByteArray} : a.toList = b.toList ↔ a = b := by
  constructor
  · intro h
    rw [ByteArray.toList_eq, ByteArray.toList_eq] at h
    apply ByteArray.ext
    exact Array.toList_inj.1 h
  · rintro rfl; rfl
theorem tl_bl {a b : ByteArray} : a.toList = b.toList ↔ bl a = bl b := tl_inj.trans ⟨fun h => h ▸ rfl, bl_inj⟩
theorem tdiv_pos {a b : Int} (h : 0 ≤ a) : Int.tdiv a b = a / b := Int.tdiv_eq_ediv_of_nonneg h
theorem tmod_pos {a b : Int} (h : 0 ≤ a) : Int.tmod a b = a % b := Int.tmod_eq_emod_of_nonneg h
theorem bne_rfl_bool (b : Bool) : (b != b) = false := by cases b <;> rfl
theorem wf_u32 {n : Int} (h : (Lit.int .u32 n).wf = true) : 0 ≤ n ∧ n < 4294967296 := by
  have h1 : IntKind.u32.min = 0 := by decide +kernel
  have h2 : IntKind.u32.max = 4294967295 := by decide +kernel
  simp only [Lit.wf, h1, h2, Bool.and_eq_true, decide_eq_true_eq] at h
  omega
theorem wf_i64 {n : Int} (h : (Lit.int .i64 n).wf = true) : -9223372036854775808 ≤ n ∧ n < 9223372036854775808 := by
  have h1 : IntKind.i64.min = -9223372036854775808 := by decide +kernel
  have h2 : IntKind.i64.max = 9223372036854775807 := by decide +kernel
  simp only [Lit.wf, h1, h2, Bool.and_eq_true, decide_eq_true_eq] at h
  omega
theorem Byt.one {x : Int} (h : 0 ≤ x ∧ x < 256) : Byt [x] := Byt.nil.cons h
theorem bl_size (s : ByteArray) : s.size = (bl s).length := (bl_len s).symm
theorem str_len (xs : List Int) : (strOfNums xs).size = xs.length := strOfNums_size xs

/-! Sums -/
def U32 (s : Int) : Prop := 0 ≤ s ∧ s < 4294967296
theorem xor_u32 {a b : Int} (h : U32 a) (h' : U32 b) : U32 (Go.bits .xor .u32 a b) := by
  rw [Go.u32_xor a b h.1 h.2 h'.1 h'.2]
  have : a.toNat ^^^ b.toNat < 2 ^ 32 := Nat.xor_lt_two_pow (by have := h.2; have := h.1; omega) (by have := h'.2; have := h'.1; omega)
  exact ⟨by omega, by omega⟩
theorem and1_u32 {a : Int} (h : U32 a) : Go.bits .and .u32 a 1 = a % 2 := by
  rw [Go.u32_and a 1 h.1 h.2 (by decide) (by decide)]
  have : (1 : Int).toNat = 1 := rfl
  rw [this, Nat.and_one_is_mod]
  have := h.1
  omega
def crcBit (s : Int) : Int := if s % 2 = 1 then Go.bits .xor .u32 (s / 2) 3558460437 else s / 2
def crcN : Nat → Int → Int
  | 0, s => s
  | n + 1, s => crcN n (crcBit s)
def crcByte (s b : Int) : Int := crcN 8 (Go.bits .xor .u32 s b)
def crcL (s : Int) (l : List Int) : Int := l.foldl crcByte s
theorem crcBit_u32 {s : Int} (h : U32 s) : U32 (crcBit s) := by
  unfold crcBit
  have : U32 (s / 2) := ⟨by have := h.1; omega, by have := h.2; omega⟩
  split
  · exact xor_u32 this ⟨by decide, by decide⟩
  · exact this
theorem crcN_u32 : ∀ (n : Nat) {s : Int}, U32 s → U32 (crcN n s)
  | 0, _, h => h
  | n + 1, _, h => crcN_u32 n (crcBit_u32 h)
theorem crcByte_u32 {s b : Int} (h : U32 s) (hb : 0 ≤ b ∧ b < 256) : U32 (crcByte s b) := crcN_u32 8 (xor_u32 h ⟨hb.1, by omega⟩)
theorem crcL_cons (s b : Int) (l : List Int) : crcL s (b :: l) = crcL (crcByte s b) l := by unfold crcL; rw [List.foldl_cons]
theorem crcL_u32 : ∀ (l : List Int) {s : Int}, U32 s → Byt l → U32 (crcL s l)
  | [], _, h, _ => h
  | b :: l, s, h, hb => by rw [crcL_cons]; exact crcL_u32 l (crcByte_u32 h hb.head) hb.tail
theorem crcL_app (s : Int) (l l' : List Int) : crcL s (l ++ l') = crcL (crcL s l) l' := by unfold crcL; rw [List.foldl_append]

theorem u32_top : U32 4294967295 := ⟨by decide, by decide⟩
def sumB (s : ByteArray) : Int := crcL 4294967295 (bl s)
theorem sumB_u32 (s : ByteArray) : U32 (sumB s) := crcL_u32 _ u32_top (bl_byt s)
def four (n : Int) : List Int := [(n / 16777216) % 256, (n / 65536) % 256, (n / 256) % 256, n % 256]
theorem four_byt (n : Int) : Byt (four n) := (((Byt.one ⟨by omega, by omega⟩).cons ⟨by omega, by omega⟩).cons ⟨by omega, by omega⟩).cons ⟨by omega, by omega⟩
theorem four_len (n : Int) : (four n).length = 4 := rfl
def pSealed (s : ByteArray) : ByteArray × Bool := if s.size > 8000 then (⟨#[]⟩, false) else (s ++ strOfNums (four (sumB s)), true)

def cutB (s : ByteArray) : ByteArray := s.extract 0 (s.size - 4)
def pUnsealed (s : ByteArray) : ByteArray × Bool := if 4 ≤ s.size ∧ s.size - 4 ≤ 8000 ∧ (bl s).drop (s.size - 4) = four (sumB (cutB s)) then (cutB s, true) else (⟨#[]⟩, false)
theorem cutB_bl (s : ByteArray) : bl (cutB s) = (bl s).take (s.size - 4) := by unfold cutB; rw [bl_ext, List.drop_zero]
theorem cutB_size (s : ByteArray) : (cutB s).size = s.size - 4 := by rw [bl_size, cutB_bl, List.length_take, bl_len]; omega

theorem spec_sm_l1 (s : ByteArray) (i : Int) {r : Int} : ∀ (n : Nat) (x : Int), n ≤ 8 → U32 x → Ev (fun k => spec_SumMore.l0 k (crcN n x) s (wrap64 (i + 1))) r → Ev (fun k => spec_SumMore.l1 k x s i (8 - (n : Int))) r
  | 0, x, _, _, h => h.to fun k => by simp only [spec_SumMore.l1]; rw [if_neg (by omega)]; rfl
  | n + 1, x, hn, hx, h => by
    have h1 := hx.1
    have h2 := hx.2
    refine (spec_sm_l1 s i n (crcBit x) (by omega) (crcBit_u32 hx) h).to fun k => ?_
    simp only [spec_SumMore.l1]
    rw [if_pos (by omega), tmod_pos h1, tdiv_pos h1, wid (by omega) (by omega), show (x / 2) % 4294967296 = x / 2 by omega, show (8 - ((n + 1 : Nat) : Int) + 1) = 8 - (n : Int) by omega]
    unfold crcBit
    by_cases hb : x % 2 = 1
    · rw [if_pos hb, if_pos hb]
    · rw [if_neg hb, if_neg hb]
theorem spec_sm_l0 (s : ByteArray) (hs : s.size ≤ 140737488351232) : ∀ (d i : Nat) (x : Int), i + d = s.size → U32 x → Ev (fun k => spec_SumMore.l0 k x s (i : Int)) (crcL x ((bl s).drop i))
  | 0, i, x, hi, _ => by
    refine (Ev.now _).to fun k => ?_
    simp only [spec_SumMore.l0]
    rw [if_neg (by omega), bl_end (by omega)]
    rfl
  | d + 1, i, x, hi, hx => by
    have hb := bt_range s (i : Int)
    rw [bl_cons (by omega), crcL_cons]
    have hx' : U32 (Go.bits .xor .u32 x (bt s i)) := xor_u32 hx ⟨hb.1, by omega⟩
    have := spec_sm_l0 s hs d (i + 1) (crcByte x (bt s i)) (by omega) (crcByte_u32 hx ⟨hb.1, by omega⟩)
    refine (spec_sm_l1 s i 8 _ (Nat.le_refl _) hx' (by rw [wid (by omega) (by omega)]; exact this)).to fun k => ?_
    simp only [spec_SumMore.l0]
    rw [if_pos (by omega), if_pos (by omega), show bt s (i : Int) % 4294967296 = bt s i by omega]
    rfl
theorem spec_sm (x : Int) (s : ByteArray) (hs : s.size ≤ 140737488351232) (hx : U32 x) : Ev (fun k => spec_SumMore.f k x s) (crcL x (bl s)) := spec_sm_l0 s hs s.size 0 x (by omega) hx

theorem sSumOf (s : ByteArray) (hs : s.size ≤ 140737488351232) : Ev (fun k => spec_SumOf.f k s) (sumB s) := by
  unfold spec_SumOf.f
  exact (spec_sm _ s hs u32_top).bind (Ev.now _)

theorem sUnsealed (s : ByteArray) (hs : s.size ≤ 140737488351232) : Ev (fun k => spec_Unsealed.f k s) (pUnsealed s) := by
  unfold spec_Unsealed.f pUnsealed
  have w : wrap64 ((s.size : Int) - 4) = (s.size : Int) - 4 := wid (by omega) (by omega)
  rw [w]; clear w
  by_cases h4 : 4 ≤ s.size
  · have e : ((s.size : Int) - 4).toNat = s.size - 4 := by omega
    simp only [if_neg (show ¬ (s.size : Int) - 4 < 0 by omega), if_pos (show 0 ≤ (s.size : Int) - 4 by omega), if_pos (show (s.size : Int) - 4 ≤ s.size by omega), e]
    by_cases h8 : s.size - 4 ≤ 8000
    · simp only [if_neg (show ¬ (s.size : Int) - 4 > 8000 by omega)]
      refine (sSumOf (cutB s) (by rw [cutB_size]; omega)).bind ?_
      simp only [spec_l02Four.f, Option.bind_some]
      have hiff : (s.extract (s.size - 4) s.size).toList = (strOfNums [sumB (cutB s) / 16777216 % 256, sumB (cutB s) / 65536 % 256, sumB (cutB s) / 256 % 256, sumB (cutB s) % 256]).toList ↔ (bl s).drop (s.size - 4) = four (sumB (cutB s)) := by
        rw [tl_bl, bl_ext, List.take_of_length_le (by rw [bl_len]; omega), show [sumB (cutB s) / 16777216 % 256, sumB (cutB s) / 65536 % 256, sumB (cutB s) / 256 % 256, sumB (cutB s) % 256] = four (sumB (cutB s)) from rfl, bl_str (four_byt _)]
      by_cases hh : (bl s).drop (s.size - 4) = four (sumB (cutB s))
      · rw [if_pos (⟨h4, h8, hh⟩ : 4 ≤ s.size ∧ s.size - 4 ≤ 8000 ∧ (bl s).drop (s.size - 4) = four (sumB (cutB s)))]
        exact Ev.same (if_pos (hiff.2 hh))
      · rw [if_neg (fun h : 4 ≤ s.size ∧ s.size - 4 ≤ 8000 ∧ (bl s).drop (s.size - 4) = four (sumB (cutB s)) => hh h.2.2)]
        exact Ev.same (if_neg (fun h => hh (hiff.1 h)))
    · rw [if_neg (fun h : 4 ≤ s.size ∧ s.size - 4 ≤ 8000 ∧ (bl s).drop (s.size - 4) = four (sumB (cutB s)) => h8 h.2.1)]
      exact Ev.ifp (by omega) (Ev.now _)
  · rw [if_neg (fun h : 4 ≤ s.size ∧ s.size - 4 ≤ 8000 ∧ (bl s).drop (s.size - 4) = four (sumB (cutB s)) => h4 h.1)]
    exact Ev.ifp (by omega) (Ev.now _)

theorem impl_sm_l1 (s : ByteArray) (z i : Int) {r : Int} : ∀ (n : Nat) (x : Int), n ≤ 8 → U32 x → Ev (fun k => impl_SumMore.l0 k (crcN n x) s z (wrap64 (i + 1))) r → Ev (fun k => impl_SumMore.l1 k x s z i (8 - (n : Int))) r
  | 0, x, _, _, h => h.to fun k => by simp only [impl_SumMore.l1]; rw [if_neg (by omega)]; rfl
  | n + 1, x, hn, hx, h => by
    have h1 := hx.1
    have h2 := hx.2
    refine (impl_sm_l1 s z i n (crcBit x) (by omega) (crcBit_u32 hx) h).to fun k => ?_
    simp only [impl_SumMore.l1]
    rw [if_pos (by omega), and1_u32 hx, wid (by omega) (by omega), show (8 - ((n + 1 : Nat) : Int) + 1) = 8 - (n : Int) by omega]
    unfold crcBit
    by_cases hb : x % 2 = 1
    · rw [if_pos hb, if_pos hb]
    · rw [if_neg hb, if_neg hb]
theorem impl_sm_l0 (s : ByteArray) (hs : s.size ≤ 140737488351232) : ∀ (d i : Nat) (x : Int), i + d = s.size → U32 x → Ev (fun k => impl_SumMore.l0 k x s (s.size : Int) (i : Int)) (crcL x ((bl s).drop i))
  | 0, i, x, hi, _ => by
    refine (Ev.now _).to fun k => ?_
    simp only [impl_SumMore.l0]
    rw [if_neg (by omega), bl_end (by omega)]
    rfl
  | d + 1, i, x, hi, hx => by
    have hb := bt_range s (i : Int)
    rw [bl_cons (by omega), crcL_cons]
    have hx' : U32 (Go.bits .xor .u32 x (bt s i)) := xor_u32 hx ⟨hb.1, by omega⟩
    have := impl_sm_l0 s hs d (i + 1) (crcByte x (bt s i)) (by omega) (crcByte_u32 hx ⟨hb.1, by omega⟩)
    refine (impl_sm_l1 s _ i 8 _ (Nat.le_refl _) hx' (by rw [wid (by omega) (by omega)]; exact this)).to fun k => ?_
    simp only [impl_SumMore.l0]
    rw [if_pos (by omega), if_pos (by omega), if_pos (by omega), show bt s (i : Int) % 4294967296 = bt s i by omega]
    rfl
theorem impl_sm (x : Int) (s : ByteArray) (hs : s.size ≤ 140737488351232) (hx : U32 x) : Ev (fun k => impl_SumMore.f k x s) (crcL x (bl s)) := impl_sm_l0 s hs s.size 0 x (by omega) hx

theorem iSumOf (s : ByteArray) (hs : s.size ≤ 140737488351232) : Ev (fun k => impl_SumOf.f k s) (sumB s) := by
  unfold impl_SumOf.f
  exact (impl_sm _ s hs u32_top).bind (Ev.now _)

theorem iSealed (s : ByteArray) (hs : s.size ≤ 140737488351232) : Ev (fun k => impl_Sealed.f k s) (pSealed s) := by
  unfold impl_Sealed.f pSealed
  by_cases h : s.size > 8000
  · rw [if_pos h]
    simp only [if_pos (show (s.size : Int) > 8000 by omega)]
    exact Ev.now _
  · rw [if_neg h]
    simp only [if_neg (show ¬ (s.size : Int) > 8000 by omega)]
    refine (iSumOf s hs).bind ?_
    simp only [Option.bind_some]
    exact Ev.same (if_pos (by rw [str_len]; show s.size + 4 ≤ _; omega))

theorem sealed_bl (s : ByteArray) : bl (s ++ strOfNums (four (sumB s))) = bl s ++ four (sumB s) := by rw [bl_app, bl_str (four_byt _)]
theorem iUnsealed (s : ByteArray) (hs : s.size ≤ 140737488351232) : Ev (fun k => impl_Unsealed.f k s) (pUnsealed s) := by
  unfold impl_Unsealed.f pUnsealed
  have w : wrap64 ((s.size : Int) - 4) = (s.size : Int) - 4 := wid (by omega) (by omega)
  rw [w]; clear w
  by_cases h4 : 4 ≤ s.size
  · have e : ((s.size : Int) - 4).toNat = s.size - 4 := by omega
    simp only [if_neg (show ¬ (s.size : Int) < 4 by omega), if_pos (show 0 ≤ (s.size : Int) - 4 by omega), if_pos (show (s.size : Int) - 4 ≤ s.size by omega), e]
    refine (iSealed (cutB s) (by rw [cutB_size]; omega)).bind ?_
    have hcs := cutB_size s
    by_cases h8 : s.size - 4 ≤ 8000
    · have e1 : pSealed (cutB s) = (cutB s ++ strOfNums (four (sumB (cutB s))), true) := by unfold pSealed; rw [if_neg (by omega)]
      rw [e1]
      have hiff : (cutB s ++ strOfNums (four (sumB (cutB s)))).toList = s.toList ↔ (bl s).drop (s.size - 4) = four (sumB (cutB s)) := by
        rw [tl_bl, sealed_bl, cutB_bl]
        conv => lhs; rhs; rw [← List.take_append_drop (s.size - 4) (bl s)]
        rw [List.append_cancel_left_eq]
        exact eq_comm
      by_cases hh : (bl s).drop (s.size - 4) = four (sumB (cutB s))
      · rw [if_pos (⟨h4, h8, hh⟩ : 4 ≤ s.size ∧ s.size - 4 ≤ 8000 ∧ (bl s).drop (s.size - 4) = four (sumB (cutB s)))]
        simp only [if_true]
        exact Ev.same (if_pos (hiff.2 hh))
      · rw [if_neg (fun h : 4 ≤ s.size ∧ s.size - 4 ≤ 8000 ∧ (bl s).drop (s.size - 4) = four (sumB (cutB s)) => hh h.2.2)]
        simp only [if_true]
        exact Ev.same (if_neg (fun h => hh (hiff.1 h)))
    · have e1 : pSealed (cutB s) = (⟨#[]⟩, false) := by unfold pSealed; rw [if_pos (by omega)]
      rw [e1, if_neg (fun h : 4 ≤ s.size ∧ s.size - 4 ≤ 8000 ∧ (bl s).drop (s.size - 4) = four (sumB (cutB s)) => h8 h.2.1)]
      simp only [Bool.false_eq_true, if_false]
      exact Ev.now _
  · rw [if_neg (fun h : 4 ≤ s.size ∧ s.size - 4 ≤ 8000 ∧ (bl s).drop (s.size - 4) = four (sumB (cutB s)) => h4 h.1)]
    exact Ev.ifp (by omega) (Ev.now _)

theorem FnExactUnsealed : laws_FnExactUnsealed.Pure := by
  intro a0 hs
  by_cases hb : (a0.size : Int) > 1048576
  · exact ⟨0, by unfold laws_FnExactUnsealed.f; rw [if_pos hb]⟩
  · refine Ev.rounds (g := fun k => laws_FnExactUnsealed.f k a0) ?_
    unfold laws_FnExactUnsealed.f
    simp only [if_neg hb]
    refine (sUnsealed a0 hs).bind ((iUnsealed a0 hs).bind ?_)
    simp only [if_true, bne_rfl_bool, Bool.false_eq_true, if_false]
    exact Ev.now _

end Go.Proofs.Ytjhgcdjpabhifaa.Pure
