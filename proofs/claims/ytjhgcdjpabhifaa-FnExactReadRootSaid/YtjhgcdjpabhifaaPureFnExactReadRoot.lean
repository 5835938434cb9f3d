/- The program's ReadRoot and the reference's ReadRoot return the same root and flag, for every text. -/
import Derived.Test.YtjhgcdjpabhifaaQFnExactReadRootx5
import Derived.Laws.BitsAllLaws
namespace Go.Proofs.Ytjhgcdjpabhifaa.Pure
open Go.RowKit Go.Proofs.Ytjhgcdjpabhifaa.QFnExactReadRoot Go.Proofs.YtjhgcdjpabhifaaW.PrintWords Go.Proofs.YtjhgcdjpabhifaaW.PrintLast
set_option linter.unusedVariables false
set_option linter.unusedSimpArgs false
set_option maxHeartbeats 4000000

theorem wid {n : Int} (h0 : -9223372036854775808 ≤ n) (h1 : n < 9223372036854775808) : wrap64 n = n := by unfold wrap64; omega
theorem _root_.Go.Proofs.YtjhgcdjpabhifaaW.PrintWords.Ev.ofEq {α : Type} {g : Nat → Option α} {r q : α} (h : Ev g r) (e : r = q) : Ev g q := e ▸ h
theorem _root_.Go.Proofs.YtjhgcdjpabhifaaW.PrintWords.Ev.same {α : Type} {o : Option α} {r : α} (h : o = some r) : Ev (fun _ => o) r := ⟨0, fun _ _ => h⟩
theorem _root_.Go.Proofs.YtjhgcdjpabhifaaW.PrintWords.Ev.to {α : Type} {g f : Nat → Option α} {r : α} (k : Ev f r) (h : ∀ k, g (k + 1) = f k) : Ev g r := Ev.step h k
theorem _root_.Go.Proofs.YtjhgcdjpabhifaaW.PrintWords.Ev.cg {α : Type} {g f : Nat → Option α} {r : α} (k : Ev f r) (h : ∀ k, g k = f k) : Ev g r := Ev.congr h k
theorem _root_.Go.Proofs.YtjhgcdjpabhifaaW.PrintWords.Ev.ifp {α : Type} {c : Prop} [Decidable c] {g f : Nat → Option α} {r : α} (h : c) (e : Ev g r) : Ev (fun k => if c then g k else f k) r := by simp only [if_pos h]; exact e
theorem _root_.Go.Proofs.YtjhgcdjpabhifaaW.PrintWords.Ev.ifn {α : Type} {c : Prop} [Decidable c] {g f : Nat → Option α} {r : α} (h : ¬ c) (e : Ev f r) : Ev (fun k => if c then g k else f k) r := by simp only [if_neg h]; exact e
/-- The bytes of a string, as numbers. -/
def bl (s : ByteArray) : List Int := s.data.toList.map fun b => (b.toNat : Int)
theorem bl_len (s : ByteArray) : (bl s).length = s.size := by unfold bl; rw [List.length_map]; rfl
def Byt (xs : List Int) : Prop := ∀ x ∈ xs, 0 ≤ x ∧ x < 256
theorem Byt.nil : Byt [] := fun _ h => by simp at h
theorem Byt.cons {x : Int} {xs : List Int} (h : 0 ≤ x ∧ x < 256) (h' : Byt xs) : Byt (x :: xs) := fun y hy => by
  rcases List.mem_cons.1 hy with rfl | hy
  · exact h
  · exact h' y hy
theorem Byt.app {xs ys : List Int} (h : Byt xs) (h' : Byt ys) : Byt (xs ++ ys) := fun y hy => by
  rcases List.mem_append.1 hy with hy | hy
  · exact h y hy
  · exact h' y hy
theorem Byt.left {xs ys : List Int} (h : Byt (xs ++ ys)) : Byt xs := fun y hy => h y (List.mem_append_left _ hy)
theorem Byt.right {xs ys : List Int} (h : Byt (xs ++ ys)) : Byt ys := fun y hy => h y (List.mem_append_right _ hy)
theorem Byt.tail {x : Int} {xs : List Int} (h : Byt (x :: xs)) : Byt xs := fun y hy => h y (List.mem_cons_of_mem _ hy)
theorem Byt.head {x : Int} {xs : List Int} (h : Byt (x :: xs)) : 0 ≤ x ∧ x < 256 := h x (List.mem_cons_self ..)
theorem Byt.drop {xs : List Int} (h : Byt xs) (n : Nat) : Byt (xs.drop n) := fun y hy => h y (List.mem_of_mem_drop hy)
theorem Byt.take {xs : List Int} (h : Byt xs) (n : Nat) : Byt (xs.take n) := fun y hy => h y (List.mem_of_mem_take hy)
theorem bl_byt (s : ByteArray) : Byt (bl s) := fun x hx => by
  obtain ⟨b, _, rfl⟩ := List.mem_map.1 hx
  have := b.toNat_lt
  omega
theorem u8_back (b : UInt8) : UInt8.ofNat ((b.toNat : Int)).toNat = b := by simp
theorem bl_str {xs : List Int} (h : Byt xs) : bl (strOfNums xs) = xs := by
  unfold bl
  rw [strOfNums_data, List.map_map]
  conv => rhs; rw [← List.map_id xs]
  apply List.map_congr_left
  intro x hx
  have := h x hx
  simp only [Function.comp, id]
  obtain ⟨n, rfl⟩ := Int.eq_ofNat_of_zero_le this.1
  simp
  omega
theorem str_bl (s : ByteArray) : strOfNums (bl s) = s := by
  unfold strOfNums bl
  rw [List.map_map]
  have : ((fun n : Int => UInt8.ofNat n.toNat) ∘ fun b : UInt8 => (b.toNat : Int)) = id := by
    funext b
    simp
  rw [this, List.map_id]
theorem bl_inj {a b : ByteArray} (h : bl a = bl b) : a = b := by rw [← str_bl a, ← str_bl b, h]
theorem bt_bl (s : ByteArray) (i : Int) : bt s i = (bl s).getD i.toNat 0 := by
  unfold bt
  split
  · rename_i h
    have hl : i.toNat < s.data.toList.length := h
    simp only [bl, List.getD_eq_getElem?_getD, List.getElem?_map, List.getElem?_eq_getElem hl, Option.map_some, Option.getD_some]
    rfl
  · rename_i h
    rw [List.getD_eq_getElem?_getD, List.getElem?_eq_none (by rw [bl_len]; omega)]
    rfl
theorem bl_app (a b : ByteArray) : bl (a ++ b) = bl a ++ bl b := by
  unfold bl
  rw [ByteArray.data_append, Array.toList_append, List.map_append]
theorem bl_ext (a : ByteArray) (i j : Nat) : bl (a.extract i j) = ((bl a).take j).drop i := by
  unfold bl
  rw [ByteArray.data_extract, Array.toList_extract, List.extract_eq_take_drop, List.map_take, List.map_drop, List.drop_take]
theorem bl_emp : bl (⟨#[]⟩ : ByteArray) = [] := rfl
theorem bl_cons {s : ByteArray} {i : Nat} (h : i < s.size) : (bl s).drop i = bt s (i : Int) :: (bl s).drop (i + 1) := by
  have hl : i < (bl s).length := by rw [bl_len]; exact h
  rw [List.drop_eq_getElem_cons hl, bt_bl, List.getD_eq_getElem?_getD, Int.toNat_natCast, List.getElem?_eq_getElem hl]
  rfl
theorem bl_end {s : ByteArray} {i : Nat} (h : s.size ≤ i) : (bl s).drop i = [] := List.drop_of_length_le (by rw [bl_len]; exact h)
theorem tl_inj {a b : ByteArray} : a.toList = b.toList ↔ a = b := by
  constructor
  · intro h
    rw [ByteArray.toList_eq, ByteArray.toList_eq] at h
    apply ByteArray.ext
    exact Array.toList_inj.1 h
  · rintro rfl; rfl
theorem tl_bl {a b : ByteArray} : a.toList = b.toList ↔ bl a = bl b := tl_inj.trans ⟨fun h => h ▸ rfl, bl_inj⟩
theorem tdiv_pos {a b : Int} (h : 0 ≤ a) : Int.tdiv a b = a / b := Int.tdiv_eq_ediv_of_nonneg h
theorem tmod_pos {a b : Int} (h : 0 ≤ a) : Int.tmod a b = a % b := Int.tmod_eq_emod_of_nonneg h
theorem bne_rfl_bool (b : Bool) : (b != b) = false := by cases b <;> rfl
theorem wf_u32 {n : Int} (h : (Lit.int .u32 n).wf = true) : 0 ≤ n ∧ n < 4294967296 := by
  have h1 : IntKind.u32.min = 0 := by decide +kernel
  have h2 : IntKind.u32.max = 4294967295 := by decide +kernel
  simp only [Lit.wf, h1, h2, Bool.and_eq_true, decide_eq_true_eq] at h
  omega
theorem wf_i64 {n : Int} (h : (Lit.int .i64 n).wf = true) : -9223372036854775808 ≤ n ∧ n < 9223372036854775808 := by
  have h1 : IntKind.i64.min = -9223372036854775808 := by decide +kernel
  have h2 : IntKind.i64.max = 9223372036854775807 := by decide +kernel
  simp only [Lit.wf, h1, h2, Bool.and_eq_true, decide_eq_true_eq] at h
  omega
theorem Byt.one {x : Int} (h : 0 ≤ x ∧ x < 256) : Byt [x] := Byt.nil.cons h
theorem bl_size (s : ByteArray) : s.size = (bl s).length := (bl_len s).symm
theorem str_len (xs : List Int) : (strOfNums xs).size = xs.length := strOfNums_size xs

/-! Sums -/
def U32 (s : Int) : Prop := 0 ≤ s ∧ s < 4294967296
theorem xor_u32 {a b : Int} (h : U32 a) (h' : U32 b) : U32 (Go.bits .xor .u32 a b) := by
  rw [Go.u32_xor a b h.1 h.2 h'.1 h'.2]
  have : a.toNat ^^^ b.toNat < 2 ^ 32 := Nat.xor_lt_two_pow (by have := h.2; have := h.1; omega) (by have := h'.2; have := h'.1; omega)
  exact ⟨by omega, by omega⟩
theorem and1_u32 {a : Int} (h : U32 a) : Go.bits .and .u32 a 1 = a % 2 := by
  rw [Go.u32_and a 1 h.1 h.2 (by decide) (by decide)]
  have : (1 : Int).toNat = 1 := rfl
  rw [this, Nat.and_one_is_mod]
  have := h.1
  omega
def crcBit (s : Int) : Int := if s % 2 = 1 then Go.bits .xor .u32 (s / 2) 3558460437 else s / 2
def crcN : Nat → Int → Int
  | 0, s => s
  | n + 1, s => crcN n (crcBit s)
def crcByte (s b : Int) : Int := crcN 8 (Go.bits .xor .u32 s b)
def crcL (s : Int) (l : List Int) : Int := l.foldl crcByte s
theorem crcBit_u32 {s : Int} (h : U32 s) : U32 (crcBit s) := by
  unfold crcBit
  have : U32 (s / 2) := ⟨by have := h.1; omega, by have := h.2; omega⟩
  split
  · exact xor_u32 this ⟨by decide, by decide⟩
  · exact this
theorem crcN_u32 : ∀ (n : Nat) {s : Int}, U32 s → U32 (crcN n s)
  | 0, _, h => h
  | n + 1, _, h => crcN_u32 n (crcBit_u32 h)
theorem crcByte_u32 {s b : Int} (h : U32 s) (hb : 0 ≤ b ∧ b < 256) : U32 (crcByte s b) := crcN_u32 8 (xor_u32 h ⟨hb.1, by omega⟩)
theorem crcL_cons (s b : Int) (l : List Int) : crcL s (b :: l) = crcL (crcByte s b) l := by unfold crcL; rw [List.foldl_cons]
theorem crcL_u32 : ∀ (l : List Int) {s : Int}, U32 s → Byt l → U32 (crcL s l)
  | [], _, h, _ => h
  | b :: l, s, h, hb => by rw [crcL_cons]; exact crcL_u32 l (crcByte_u32 h hb.head) hb.tail
theorem crcL_app (s : Int) (l l' : List Int) : crcL s (l ++ l') = crcL (crcL s l) l' := by unfold crcL; rw [List.foldl_append]

theorem u32_top : U32 4294967295 := ⟨by decide, by decide⟩
def sumB (s : ByteArray) : Int := crcL 4294967295 (bl s)
theorem sumB_u32 (s : ByteArray) : U32 (sumB s) := crcL_u32 _ u32_top (bl_byt s)
def four (n : Int) : List Int := [(n / 16777216) % 256, (n / 65536) % 256, (n / 256) % 256, n % 256]
theorem four_byt (n : Int) : Byt (four n) := (((Byt.one ⟨by omega, by omega⟩).cons ⟨by omega, by omega⟩).cons ⟨by omega, by omega⟩).cons ⟨by omega, by omega⟩
theorem four_len (n : Int) : (four n).length = 4 := rfl
def pSealed (s : ByteArray) : ByteArray × Bool := if s.size > 8000 then (⟨#[]⟩, false) else (s ++ strOfNums (four (sumB s)), true)

def cutB (s : ByteArray) : ByteArray := s.extract 0 (s.size - 4)
def pUnsealed (s : ByteArray) : ByteArray × Bool := if 4 ≤ s.size ∧ s.size - 4 ≤ 8000 ∧ (bl s).drop (s.size - 4) = four (sumB (cutB s)) then (cutB s, true) else (⟨#[]⟩, false)
theorem cutB_bl (s : ByteArray) : bl (cutB s) = (bl s).take (s.size - 4) := by unfold cutB; rw [bl_ext, List.drop_zero]
theorem cutB_size (s : ByteArray) : (cutB s).size = s.size - 4 := by rw [bl_size, cutB_bl, List.length_take, bl_len]; omega

/-! Roots -/
def two (n : Int) : List Int := [(n / 256) % 256, n % 256]
theorem two_byt (n : Int) : Byt (two n) := (Byt.one ⟨by omega, by omega⟩).cons ⟨by omega, by omega⟩
def rootL (a b : Int) : List Int := 82 :: (four a ++ two (b + 1))
theorem rootL_byt (a b : Int) : Byt (rootL a b) := ((four_byt a).app (two_byt _)).cons ⟨by decide, by decide⟩
def rootB (a b : Int) : ByteArray := strOfNums (rootL a b)
theorem rootB_size (a b : Int) : (rootB a b).size = 7 := by unfold rootB; rw [str_len]; rfl
theorem rootB_bl (a b : Int) : bl (rootB a b) = rootL a b := bl_str (rootL_byt a b)
def pRootText (a b : Int) : ByteArray × Bool := if (0 ≤ a ∧ a ≤ 1000000000) ∧ (-1 ≤ b ∧ b ≤ 399) then (rootB a b ++ strOfNums (four (sumB (rootB a b))), true) else (⟨#[]⟩, false)
theorem pSealed_root (a b : Int) : pSealed (rootB a b) = (rootB a b ++ strOfNums (four (sumB (rootB a b))), true) := by
  unfold pSealed
  rw [if_neg (by rw [rootB_size]; omega)]

theorem impl_sm_l1 (s : ByteArray) (z i : Int) {r : Int} : ∀ (n : Nat) (x : Int), n ≤ 8 → U32 x → Ev (fun k => impl_SumMore.l0 k (crcN n x) s z (wrap64 (i + 1))) r → Ev (fun k => impl_SumMore.l1 k x s z i (8 - (n : Int))) r
  | 0, x, _, _, h => h.to fun k => by simp only [impl_SumMore.l1]; rw [if_neg (by omega)]; rfl
  | n + 1, x, hn, hx, h => by
    have h1 := hx.1
    have h2 := hx.2
    refine (impl_sm_l1 s z i n (crcBit x) (by omega) (crcBit_u32 hx) h).to fun k => ?_
    simp only [impl_SumMore.l1]
    rw [if_pos (by omega), and1_u32 hx, wid (by omega) (by omega), show (8 - ((n + 1 : Nat) : Int) + 1) = 8 - (n : Int) by omega]
    unfold crcBit
    by_cases hb : x % 2 = 1
    · rw [if_pos hb, if_pos hb]
    · rw [if_neg hb, if_neg hb]
theorem impl_sm_l0 (s : ByteArray) (hs : s.size ≤ 140737488351232) : ∀ (d i : Nat) (x : Int), i + d = s.size → U32 x → Ev (fun k => impl_SumMore.l0 k x s (s.size : Int) (i : Int)) (crcL x ((bl s).drop i))
  | 0, i, x, hi, _ => by
    refine (Ev.now _).to fun k => ?_
    simp only [impl_SumMore.l0]
    rw [if_neg (by omega), bl_end (by omega)]
    rfl
  | d + 1, i, x, hi, hx => by
    have hb := bt_range s (i : Int)
    rw [bl_cons (by omega), crcL_cons]
    have hx' : U32 (Go.bits .xor .u32 x (bt s i)) := xor_u32 hx ⟨hb.1, by omega⟩
    have := impl_sm_l0 s hs d (i + 1) (crcByte x (bt s i)) (by omega) (crcByte_u32 hx ⟨hb.1, by omega⟩)
    refine (impl_sm_l1 s _ i 8 _ (Nat.le_refl _) hx' (by rw [wid (by omega) (by omega)]; exact this)).to fun k => ?_
    simp only [impl_SumMore.l0]
    rw [if_pos (by omega), if_pos (by omega), if_pos (by omega), show bt s (i : Int) % 4294967296 = bt s i by omega]
    rfl
theorem impl_sm (x : Int) (s : ByteArray) (hs : s.size ≤ 140737488351232) (hx : U32 x) : Ev (fun k => impl_SumMore.f k x s) (crcL x (bl s)) := impl_sm_l0 s hs s.size 0 x (by omega) hx

theorem iSumOf (s : ByteArray) (hs : s.size ≤ 140737488351232) : Ev (fun k => impl_SumOf.f k s) (sumB s) := by
  unfold impl_SumOf.f
  exact (impl_sm _ s hs u32_top).bind (Ev.now _)

theorem iSealed (s : ByteArray) (hs : s.size ≤ 140737488351232) : Ev (fun k => impl_Sealed.f k s) (pSealed s) := by
  unfold impl_Sealed.f pSealed
  by_cases h : s.size > 8000
  · rw [if_pos h]
    simp only [if_pos (show (s.size : Int) > 8000 by omega)]
    exact Ev.now _
  · rw [if_neg h]
    simp only [if_neg (show ¬ (s.size : Int) > 8000 by omega)]
    refine (iSumOf s hs).bind ?_
    simp only [Option.bind_some]
    exact Ev.same (if_pos (by rw [str_len]; show s.size + 4 ≤ _; omega))

theorem bt_nat (s : ByteArray) (i : Nat) : bt s (i : Int) = (bl s).getD i 0 := by rw [bt_bl, Int.toNat_natCast]
def serB (s : ByteArray) : Int := 16777216 * bt s 1 + 65536 * bt s 2 + 256 * bt s 3 + bt s 4
def treB (s : ByteArray) : Int := 256 * bt s 5 + bt s 6 - 1
def pReadRoot (s : ByteArray) : Int × Int × Bool := if s.size = 11 ∧ (pRootText (serB s) (treB s)).2 = true ∧ (pRootText (serB s) (treB s)).1 = s then (serB s, treB s, true) else (0, 0, false)
/-- What is sealed is unsealed. -/
theorem unseal_seal (x : ByteArray) (h : x.size ≤ 8000) : pUnsealed (x ++ strOfNums (four (sumB x))) = (x, true) := by
  have hs : (x ++ strOfNums (four (sumB x))).size = x.size + 4 := by rw [ByteArray.size_append, str_len]; rfl
  have hb : bl (x ++ strOfNums (four (sumB x))) = bl x ++ four (sumB x) := by rw [bl_app, bl_str (four_byt _)]
  have hc : cutB (x ++ strOfNums (four (sumB x))) = x := by
    apply bl_inj
    rw [cutB_bl, hs, hb, Nat.add_sub_cancel, ← bl_len x, List.take_left]
  unfold pUnsealed
  rw [hc, if_pos]
  refine ⟨by omega, by omega, ?_⟩
  rw [hb, hs, Nat.add_sub_cancel, ← bl_len x, List.drop_left]
theorem unsealed_some {s b : ByteArray} (h : pUnsealed s = (b, true)) : s = b ++ strOfNums (four (sumB b)) ∧ b.size ≤ 8000 ∧ s.size = b.size + 4 := by
  unfold pUnsealed at h
  split at h
  · rename_i hc
    simp only [Prod.mk.injEq, and_true] at h
    subst h
    have hsz := cutB_size s
    refine ⟨?_, by omega, by omega⟩
    apply bl_inj
    rw [bl_app, bl_str (four_byt _), cutB_bl, ← hc.2.2, List.take_append_drop]
  · simp at h
theorem unsealed_cases (s : ByteArray) : pUnsealed s = (⟨#[]⟩, false) ∨ ∃ b, pUnsealed s = (b, true) := by
  unfold pUnsealed
  split
  · exact .inr ⟨_, rfl⟩
  · exact .inl rfl
theorem bt_left (a b : ByteArray) (i : Nat) (h : i < a.size) : bt (a ++ b) (i : Int) = bt a (i : Int) := by
  rw [bt_nat, bt_nat, bl_app, List.getD_eq_getElem?_getD, List.getD_eq_getElem?_getD, List.getElem?_append_left (by rw [bl_len]; exact h)]
theorem pRoot_inv {a b : Int} {s : ByteArray} (h : pRootText a b = (s, true)) : s = rootB a b ++ strOfNums (four (sumB (rootB a b))) ∧ pUnsealed s = (rootB a b, true) := by
  unfold pRootText at h
  split at h
  · simp only [Prod.mk.injEq, and_true] at h
    refine ⟨h.symm, ?_⟩
    rw [← h]
    exact unseal_seal _ (by rw [rootB_size]; omega)
  · simp at h
theorem pRR_t {s : ByteArray} (h1 : s.size = 11) (h2 : (pRootText (serB s) (treB s)).2 = true) (h3 : (pRootText (serB s) (treB s)).1 = s) : pReadRoot s = (serB s, treB s, true) := by
  unfold pReadRoot
  exact if_pos ⟨h1, h2, h3⟩
theorem pRR_f {s : ByteArray} (h : ¬ (s.size = 11 ∧ (pRootText (serB s) (treB s)).2 = true ∧ (pRootText (serB s) (treB s)).1 = s)) : pReadRoot s = (0, 0, false) := by
  unfold pReadRoot
  exact if_neg h

theorem spec_sm_l1 (s : ByteArray) (i : Int) {r : Int} : ∀ (n : Nat) (x : Int), n ≤ 8 → U32 x → Ev (fun k => spec_SumMore.l0 k (crcN n x) s (wrap64 (i + 1))) r → Ev (fun k => spec_SumMore.l1 k x s i (8 - (n : Int))) r
  | 0, x, _, _, h => h.to fun k => by simp only [spec_SumMore.l1]; rw [if_neg (by omega)]; rfl
  | n + 1, x, hn, hx, h => by
    have h1 := hx.1
    have h2 := hx.2
    refine (spec_sm_l1 s i n (crcBit x) (by omega) (crcBit_u32 hx) h).to fun k => ?_
    simp only [spec_SumMore.l1]
    rw [if_pos (by omega), tmod_pos h1, tdiv_pos h1, wid (by omega) (by omega), show (x / 2) % 4294967296 = x / 2 by omega, show (8 - ((n + 1 : Nat) : Int) + 1) = 8 - (n : Int) by omega]
    unfold crcBit
    by_cases hb : x % 2 = 1
    · rw [if_pos hb, if_pos hb]
    · rw [if_neg hb, if_neg hb]
theorem spec_sm_l0 (s : ByteArray) (hs : s.size ≤ 140737488351232) : ∀ (d i : Nat) (x : Int), i + d = s.size → U32 x → Ev (fun k => spec_SumMore.l0 k x s (i : Int)) (crcL x ((bl s).drop i))
  | 0, i, x, hi, _ => by
    refine (Ev.now _).to fun k => ?_
    simp only [spec_SumMore.l0]
    rw [if_neg (by omega), bl_end (by omega)]
    rfl
  | d + 1, i, x, hi, hx => by
    have hb := bt_range s (i : Int)
    rw [bl_cons (by omega), crcL_cons]
    have hx' : U32 (Go.bits .xor .u32 x (bt s i)) := xor_u32 hx ⟨hb.1, by omega⟩
    have := spec_sm_l0 s hs d (i + 1) (crcByte x (bt s i)) (by omega) (crcByte_u32 hx ⟨hb.1, by omega⟩)
    refine (spec_sm_l1 s i 8 _ (Nat.le_refl _) hx' (by rw [wid (by omega) (by omega)]; exact this)).to fun k => ?_
    simp only [spec_SumMore.l0]
    rw [if_pos (by omega), if_pos (by omega), show bt s (i : Int) % 4294967296 = bt s i by omega]
    rfl
theorem spec_sm (x : Int) (s : ByteArray) (hs : s.size ≤ 140737488351232) (hx : U32 x) : Ev (fun k => spec_SumMore.f k x s) (crcL x (bl s)) := spec_sm_l0 s hs s.size 0 x (by omega) hx

theorem sSumOf (s : ByteArray) (hs : s.size ≤ 140737488351232) : Ev (fun k => spec_SumOf.f k s) (sumB s) := by
  unfold spec_SumOf.f
  exact (spec_sm _ s hs u32_top).bind (Ev.now _)

theorem sSealed (s : ByteArray) (hs : s.size ≤ 140737488351232) : Ev (fun k => spec_Sealed.f k s) (pSealed s) := by
  unfold spec_Sealed.f pSealed
  by_cases h : s.size > 8000
  · rw [if_pos h]
    simp only [if_pos (show (s.size : Int) > 8000 by omega)]
    exact Ev.now _
  · rw [if_neg h]
    simp only [if_neg (show ¬ (s.size : Int) > 8000 by omega)]
    refine (sSumOf s hs).bind ?_
    simp only [spec_l02Four.f, Option.bind_some]
    exact Ev.same (if_pos (by rw [str_len]; show s.size + 4 ≤ _; omega))

theorem s_in (a b c : Int) : spec_l01In.f a b c = some (decide (b ≤ a ∧ a ≤ c)) := by
  unfold spec_l01In.f
  by_cases h : a ≥ b
  · rw [if_pos h]; simp [show b ≤ a from h]
  · rw [if_neg h]; simp [show ¬ b ≤ a from h]
theorem s_in_t {a b c : Int} (h : b ≤ a ∧ a ≤ c) : spec_l01In.f a b c = some true := by rw [s_in, decide_eq_true h]
theorem s_in_f {a b c : Int} (h : ¬ (b ≤ a ∧ a ≤ c)) : spec_l01In.f a b c = some false := by rw [s_in, decide_eq_false h]

theorem sBig_step (sz n : Int) (acc : ByteArray) (i : Nat) {r : ByteArray} (hn : 0 ≤ n) (hn' : n ≤ 1000000000000) (hi : (i : Int) < sz) (ha : acc.size ≤ 1000) (hs : i ≤ 1000) (h : Ev (fun k => spec_l06Big.l0 k (n / 256) sz (strOfNums [n % 256] ++ acc) ((i + 1 : Nat) : Int)) r) : Ev (fun k => spec_l06Big.l0 k n sz acc (i : Int)) r := by
  refine h.to fun k => ?_
  have w1 : Int.tmod n 256 % 256 = n % 256 := by rw [tmod_pos hn]; omega
  have w2 : wrap64 (Int.tdiv n 256) = n / 256 := by rw [tdiv_pos hn, wid (by omega) (by omega)]
  have w3 : wrap64 ((i : Int) + 1) = ((i + 1 : Nat) : Int) := by rw [wid (by omega) (by omega)]; rfl
  simp only [spec_l06Big.l0, w1, w2, w3, Option.bind_some]
  clear w1 w2 w3
  rw [if_pos hi, if_pos (by rw [str_len, List.length_singleton]; omega)]
theorem sBig_end (sz n : Int) (acc : ByteArray) (i : Nat) (hi : ¬ (i : Int) < sz) : Ev (fun k => spec_l06Big.l0 k n sz acc (i : Int)) acc := (Ev.now _).to fun k => by simp only [spec_l06Big.l0]; rw [if_neg hi]
theorem str1_size (x : Int) (a : ByteArray) : (strOfNums [x] ++ a).size = 1 + a.size := by rw [bl_size, bl_app, List.length_append, bl_len, bl_len, str_len]; rfl
theorem sBig4 (n : Int) (h0 : 0 ≤ n) (h1 : n ≤ 1000000000) : Ev (fun k => spec_l06Big.f k n 4) (strOfNums (four n)) := by
  unfold spec_l06Big.f
  have e0 : (⟨#[]⟩ : ByteArray).size = 0 := rfl
  refine Ev.ofEq (sBig_step 4 n _ 0 h0 (by omega) (by decide) (by rw [e0]; omega) (by omega) (sBig_step 4 (n / 256) _ 1 (by omega) (by omega) (by decide) (by rw [str1_size, e0]; omega) (by omega) (sBig_step 4 (n / 256 / 256) _ 2 (by omega) (by omega) (by decide) (by rw [str1_size, str1_size, e0]; omega) (by omega) (sBig_step 4 (n / 256 / 256 / 256) _ 3 (by omega) (by omega) (by decide) (by rw [str1_size, str1_size, str1_size, e0]; omega) (by omega) (sBig_end 4 _ _ 4 (by decide)))))) ?_
  apply bl_inj
  rw [bl_str (four_byt n)]
  simp only [bl_app, bl_emp, List.append_nil]
  rw [bl_str (Byt.one ⟨by omega, by omega⟩), bl_str (Byt.one ⟨by omega, by omega⟩), bl_str (Byt.one ⟨by omega, by omega⟩), bl_str (Byt.one ⟨by omega, by omega⟩)]
  unfold four
  simp only [List.singleton_append, List.cons.injEq, and_true]
  refine ⟨by omega, by omega⟩
theorem sBig2 (n : Int) (h0 : 0 ≤ n) (h1 : n ≤ 1000000000) : Ev (fun k => spec_l06Big.f k n 2) (strOfNums (two n)) := by
  unfold spec_l06Big.f
  have e0 : (⟨#[]⟩ : ByteArray).size = 0 := rfl
  refine Ev.ofEq (sBig_step 2 n _ 0 h0 (by omega) (by decide) (by rw [e0]; omega) (by omega) (sBig_step 2 (n / 256) _ 1 (by omega) (by omega) (by decide) (by rw [str1_size, e0]; omega) (by omega) (sBig_end 2 _ _ 2 (by decide)))) ?_
  apply bl_inj
  rw [bl_str (two_byt n)]
  simp only [bl_app, bl_emp, List.append_nil]
  rw [bl_str (Byt.one ⟨by omega, by omega⟩), bl_str (Byt.one ⟨by omega, by omega⟩)]
  rfl
theorem sRootText (a b : Int) : Ev (fun k => spec_RootText.f k a b) (pRootText a b) := by
  unfold spec_RootText.f pRootText
  by_cases h1 : 0 ≤ a ∧ a ≤ 1000000000
  · rw [s_in_t h1]
    simp only [Option.bind_some, if_true]
    by_cases h2 : -1 ≤ b ∧ b ≤ 399
    · rw [s_in_t h2, if_pos ⟨h1, h2⟩]
      simp only [Option.bind_some, Bool.not_true]
      have w : wrap64 (b + 1) = b + 1 := wid (by omega) (by omega)
      have hc : ((⟨#[82]⟩ : ByteArray) ++ strOfNums (four a)) ++ strOfNums (two (b + 1)) = rootB a b := by
        apply bl_inj
        rw [rootB_bl, bl_app, bl_app, bl_str (four_byt _), bl_str (two_byt _)]
        rfl
      refine Ev.to (f := fun k => (spec_l06Big.f k a 4).bind fun t113 => if 1 + t113.size ≤ 9223372036854775807 then (spec_l06Big.f k (b + 1) 2).bind fun t114 => if ((⟨#[82]⟩ : ByteArray) ++ t113).size + t114.size ≤ 9223372036854775807 then (spec_Sealed.f k (((⟨#[82]⟩ : ByteArray) ++ t113) ++ t114)).bind fun bt115 => some (bt115.1, bt115.2) else none else none) (r := (rootB a b ++ strOfNums (four (sumB (rootB a b))), true)) ?_ fun k => by simp only [spec_RootText.j0, w]; rw [if_neg (by decide)]
      clear w
      refine (sBig4 a h1.1 h1.2).bind (Ev.ifp (by rw [str_len]; show 1 + 4 ≤ _; omega) ((sBig2 (b + 1) (by omega) (by omega)).bind (Ev.ifp (by rw [ByteArray.size_append, str_len, str_len]; show 1 + 4 + 2 ≤ _; omega) ?_)))
      rw [hc]
      refine (sSealed _ (by rw [rootB_size]; omega)).bind ?_
      rw [pSealed_root]
      exact Ev.now _
    · rw [s_in_f h2, if_neg (fun h => h2 h.2)]
      simp only [Option.bind_some, Bool.not_false]
      exact (Ev.now _).to fun k => by simp only [spec_RootText.j0, if_true]
  · rw [s_in_f h1, if_neg (fun h => h1 h.1)]
    simp only [Option.bind_some, Bool.false_eq_true, if_false]
    exact (Ev.now _).to fun k => by simp only [spec_RootText.j0, if_true]

theorem sRR_step (s : ByteArray) (x y i j : Int) {r : Int × Int × Bool} (hs : s.size = 11) (hj : j = i + 1) (hi0 : 0 ≤ i) (hi : i < 5) (h0 : 0 ≤ x) (h1 : x ≤ 100000000000) (h : Ev (fun k => spec_ReadRoot.l0 k s j (256 * x + bt s i) y) r) : Ev (fun k => spec_ReadRoot.l0 k s i x y) r := by
  have hb := bt_range s i
  have w1 : wrap64 (i + 1) = j := by rw [wid (by omega) (by omega)]; omega
  have w2 : wrap64 (wrap64 (256 * x) + wrap64 (bt s i)) = 256 * x + bt s i := by rw [wid (n := 256 * x) (by omega) (by omega), wid (n := bt s i) (by omega) (by omega), wid (by omega) (by omega)]
  refine h.to fun k => ?_
  simp only [spec_ReadRoot.l0, w1, w2]
  clear w1 w2
  rw [if_pos (by omega), if_pos (by omega), if_pos (by omega)]
theorem sReadRoot (s : ByteArray) : Ev (fun k => spec_ReadRoot.f k s) (pReadRoot s) := by
  unfold spec_ReadRoot.f
  by_cases hs : s.size = 11
  · refine Ev.ifp (by omega) ?_
    have b1 := bt_range s 1
    have b2 := bt_range s 2
    have b3 := bt_range s 3
    have b4 := bt_range s 4
    have b5 := bt_range s 5
    have b6 := bt_range s 6
    refine sRR_step s 0 0 1 2 hs (by omega) (by omega) (by omega) (by omega) (by omega) (sRR_step s _ 0 2 3 hs (by omega) (by omega) (by omega) (by omega) (by omega) (sRR_step s _ 0 3 4 hs (by omega) (by omega) (by omega) (by omega) (by omega) (sRR_step s _ 0 4 5 hs (by omega) (by omega) (by omega) (by omega) (by omega) ?_)))
    have e : 256 * (256 * (256 * (256 * 0 + bt s 1) + bt s 2) + bt s 3) + bt s 4 = serB s := by unfold serB; omega
    rw [e]
    have w : wrap64 (wrap64 (wrap64 (256 * wrap64 (bt s 5)) + wrap64 (bt s 6)) - 1) = treB s := by
      unfold treB
      rw [wid (n := bt s 5) (by omega) (by omega), wid (n := bt s 6) (by omega) (by omega), wid (n := 256 * bt s 5) (by omega) (by omega), wid (n := 256 * bt s 5 + bt s 6) (by omega) (by omega), wid (by omega) (by omega)]
    refine Ev.to (f := fun k => (spec_RootText.f k (serB s) (treB s)).bind fun bt119 => if bt119.2 = true then (if bt119.1.toList = s.toList then some (serB s, treB s, true) else some (0, 0, false)) else some (0, 0, false)) ?_ fun k => by
      simp only [spec_ReadRoot.l0, w]
      clear w
      rw [if_neg (by omega), if_pos (by omega), if_pos (by omega)]
    refine (sRootText (serB s) (treB s)).bind ?_
    by_cases h2 : (pRootText (serB s) (treB s)).2 = true
    · by_cases h3 : (pRootText (serB s) (treB s)).1 = s
      · rw [pRR_t hs h2 h3]
        exact Ev.ifp h2 (Ev.ifp (tl_inj.2 h3) (Ev.now _))
      · rw [pRR_f (fun h => h3 h.2.2)]
        exact Ev.ifp h2 (Ev.ifn (fun h => h3 (tl_inj.1 h)) (Ev.now _))
    · rw [pRR_f (fun h => h2 h.2.1)]
      exact Ev.ifn h2 (Ev.now _)
  · rw [pRR_f (fun h => hs h.1)]
    exact Ev.ifn (by omega) (Ev.now _)

theorem i_in (a b c : Int) : impl_in.f a b c = some (decide (b ≤ a ∧ a ≤ c)) := by
  unfold impl_in.f
  by_cases h : a ≥ b
  · rw [if_pos h]; simp [show b ≤ a from h]
  · rw [if_neg h]; simp [show ¬ b ≤ a from h]
theorem i_in_t {a b c : Int} (h : b ≤ a ∧ a ≤ c) : impl_in.f a b c = some true := by rw [i_in, decide_eq_true h]
theorem i_in_f {a b c : Int} (h : ¬ (b ≤ a ∧ a ≤ c)) : impl_in.f a b c = some false := by rw [i_in, decide_eq_false h]

theorem iRootText (a b : Int) : Ev (fun k => impl_RootText.f k a b) (pRootText a b) := by
  unfold impl_RootText.f pRootText
  by_cases h1 : 0 ≤ a ∧ a ≤ 1000000000
  · rw [i_in_t h1]
    simp only [Option.bind_some, if_true]
    by_cases h2 : -1 ≤ b ∧ b ≤ 399
    · rw [i_in_t h2, if_pos ⟨h1, h2⟩]
      simp only [Option.bind_some, if_true]
      have w : wrap64 (b + 1) = b + 1 := wid (by omega) (by omega)
      rw [w]; clear w
      have hl : [a / 16777216 % 256, a / 65536 % 256, a / 256 % 256, a % 256, (b + 1) / 256 % 256, (b + 1) % 256] = four a ++ two (b + 1) := rfl
      have hc : (⟨#[82]⟩ : ByteArray) ++ strOfNums (four a ++ two (b + 1)) = rootB a b := by
        apply bl_inj
        rw [rootB_bl, bl_app, bl_str ((four_byt _).app (two_byt _))]
        rfl
      rw [hl, hc]
      refine Ev.ifp (by rw [str_len]; show 1 + 6 ≤ _; omega) ((iSealed _ (by rw [rootB_size]; omega)).bind ?_)
      rw [pSealed_root]
      exact Ev.now _
    · rw [i_in_f h2, if_neg (fun h => h2 h.2)]
      simp only [Option.bind_some, Bool.false_eq_true, if_false]
      exact Ev.now _
  · rw [i_in_f h1, if_neg (fun h => h1 h.1)]
    simp only [Option.bind_some, Bool.false_eq_true, if_false]
    exact Ev.now _

theorem sealed_bl (s : ByteArray) : bl (s ++ strOfNums (four (sumB s))) = bl s ++ four (sumB s) := by rw [bl_app, bl_str (four_byt _)]
theorem iUnsealed (s : ByteArray) (hs : s.size ≤ 140737488351232) : Ev (fun k => impl_Unsealed.f k s) (pUnsealed s) := by
  unfold impl_Unsealed.f pUnsealed
  have w : wrap64 ((s.size : Int) - 4) = (s.size : Int) - 4 := wid (by omega) (by omega)
  rw [w]; clear w
  by_cases h4 : 4 ≤ s.size
  · have e : ((s.size : Int) - 4).toNat = s.size - 4 := by omega
    simp only [if_neg (show ¬ (s.size : Int) < 4 by omega), if_pos (show 0 ≤ (s.size : Int) - 4 by omega), if_pos (show (s.size : Int) - 4 ≤ s.size by omega), e]
    refine (iSealed (cutB s) (by rw [cutB_size]; omega)).bind ?_
    have hcs := cutB_size s
    by_cases h8 : s.size - 4 ≤ 8000
    · have e1 : pSealed (cutB s) = (cutB s ++ strOfNums (four (sumB (cutB s))), true) := by unfold pSealed; rw [if_neg (by omega)]
      rw [e1]
      have hiff : (cutB s ++ strOfNums (four (sumB (cutB s)))).toList = s.toList ↔ (bl s).drop (s.size - 4) = four (sumB (cutB s)) := by
        rw [tl_bl, sealed_bl, cutB_bl]
        conv => lhs; rhs; rw [← List.take_append_drop (s.size - 4) (bl s)]
        rw [List.append_cancel_left_eq]
        exact eq_comm
      by_cases hh : (bl s).drop (s.size - 4) = four (sumB (cutB s))
      · rw [if_pos (⟨h4, h8, hh⟩ : 4 ≤ s.size ∧ s.size - 4 ≤ 8000 ∧ (bl s).drop (s.size - 4) = four (sumB (cutB s)))]
        simp only [if_true]
        exact Ev.same (if_pos (hiff.2 hh))
      · rw [if_neg (fun h : 4 ≤ s.size ∧ s.size - 4 ≤ 8000 ∧ (bl s).drop (s.size - 4) = four (sumB (cutB s)) => hh h.2.2)]
        simp only [if_true]
        exact Ev.same (if_neg (fun h => hh (hiff.1 h)))
    · have e1 : pSealed (cutB s) = (⟨#[]⟩, false) := by unfold pSealed; rw [if_pos (by omega)]
      rw [e1, if_neg (fun h : 4 ≤ s.size ∧ s.size - 4 ≤ 8000 ∧ (bl s).drop (s.size - 4) = four (sumB (cutB s)) => h8 h.2.1)]
      simp only [Bool.false_eq_true, if_false]
      exact Ev.now _
  · rw [if_neg (fun h : 4 ≤ s.size ∧ s.size - 4 ≤ 8000 ∧ (bl s).drop (s.size - 4) = four (sumB (cutB s)) => h4 h.1)]
    exact Ev.ifp (by omega) (Ev.now _)

theorem wraps_i64 (n : Int) (h0 : 0 ≤ n) (h1 : n < 2 ^ 63) : IntKind.i64.wrap n = n := by
  rw [Go.IntKind.wrap_i64]
  omega
theorem or_ser (a b c d : Int) (ha : 0 ≤ a ∧ a ≤ 255) (hb : 0 ≤ b ∧ b ≤ 255) (hc : 0 ≤ c ∧ c ≤ 255) (hd : 0 ≤ d ∧ d ≤ 255) :
    Go.bits .or .i64 (Go.bits .or .i64 (Go.bits .or .i64 (a * 16777216) (b * 65536)) (c * 256)) d = 16777216 * a + 65536 * b + 256 * c + d := by
  have h1 := Go.bits_join .i64 63 (by decide) wraps_i64 24 (a * 16777216) (b * 65536) (by omega) (by omega) (by omega) (by omega) (by omega) (by omega)
  rw [h1]
  have h2 := Go.bits_join .i64 63 (by decide) wraps_i64 16 (a * 16777216 + b * 65536) (c * 256) (by omega) (by omega) (by omega) (by omega) (by omega) (by omega)
  rw [h2]
  have h3 := Go.bits_join .i64 63 (by decide) wraps_i64 8 (a * 16777216 + b * 65536 + c * 256) d (by omega) (by omega) (by omega) (by omega) (by omega) (by omega)
  rw [h3]
  omega
theorem iRR_bad (s b : ByteArray) : Ev (fun k => impl_ReadRoot.j0 k s b true) (0, 0, false) := (Ev.now _).to fun k => by simp only [impl_ReadRoot.j0, if_true]
theorem iReadRoot (s : ByteArray) (hs : s.size ≤ 140737488351232) : Ev (fun k => impl_ReadRoot.f k s) (pReadRoot s) := by
  unfold impl_ReadRoot.f
  refine (iUnsealed s hs).bind ?_
  have bad : pUnsealed s = (⟨#[]⟩, false) → pReadRoot s = (0, 0, false) := by
    intro h
    unfold pReadRoot
    split
    · rename_i hc
      obtain ⟨_, h2, h3⟩ := hc
      have := pRoot_inv (a := serB s) (b := treB s) (s := s) (by rw [← h2]; rw [Prod.ext_iff]; exact ⟨h3, rfl⟩)
      rw [h] at this
      simp at this
    · rfl
  rcases unsealed_cases s with e | ⟨b, e⟩
  · rw [bad e, e]
    simp only [Bool.false_eq_true, if_false]
    exact iRR_bad _ _
  · rw [e]
    simp only [if_true]
    obtain ⟨h1, h2, h3⟩ := unsealed_some e
    by_cases h7 : b.size = 7
    · refine Ev.ifp (by omega) (Ev.ifp (by omega) ?_)
      have hbt : ∀ i : Nat, i < 7 → bt b (i : Int) = bt s (i : Int) := fun i hi => by rw [h1, bt_left _ _ _ (by omega)]
      have c0 : bt b 0 = bt s 0 := hbt 0 (by omega)
      have c1 : bt b 1 = bt s 1 := hbt 1 (by omega)
      have c2 : bt b 2 = bt s 2 := hbt 2 (by omega)
      have c3 : bt b 3 = bt s 3 := hbt 3 (by omega)
      have c4 : bt b 4 = bt s 4 := hbt 4 (by omega)
      have c5 : bt b 5 = bt s 5 := hbt 5 (by omega)
      have c6 : bt b 6 = bt s 6 := hbt 6 (by omega)
      by_cases h82 : bt b 0 = 82
      · rw [show (bt b 0 != 82) = false by rw [h82]; decide]
        have b1 := bt_range s 1
        have b2 := bt_range s 2
        have b3 := bt_range s 3
        have b4 := bt_range s 4
        have b5 := bt_range s 5
        have b6 := bt_range s 6
        have w1 : wrap64 (wrap64 (bt b 1) * 16777216) = bt s 1 * 16777216 := by rw [c1, wid (n := bt s 1) (by omega) (by omega), wid (by omega) (by omega)]
        have w2 : wrap64 (wrap64 (bt b 2) * 65536) = bt s 2 * 65536 := by rw [c2, wid (n := bt s 2) (by omega) (by omega), wid (by omega) (by omega)]
        have w3 : wrap64 (wrap64 (bt b 3) * 256) = bt s 3 * 256 := by rw [c3, wid (n := bt s 3) (by omega) (by omega), wid (by omega) (by omega)]
        have w4 : wrap64 (bt b 4) = bt s 4 := by rw [c4, wid (by omega) (by omega)]
        have w5 : wrap64 (wrap64 (wrap64 (wrap64 (bt b 5) * 256) + wrap64 (bt b 6)) - 1) = treB s := by
          unfold treB
          rw [c5, c6, wid (n := bt s 5) (by omega) (by omega), wid (n := bt s 6) (by omega) (by omega), wid (n := bt s 5 * 256) (by omega) (by omega), wid (n := bt s 5 * 256 + bt s 6) (by omega) (by omega), wid (by omega) (by omega)]
          omega
        have w6 : Go.bits .or .i64 (Go.bits .or .i64 (Go.bits .or .i64 (bt s 1 * 16777216) (bt s 2 * 65536)) (bt s 3 * 256)) (bt s 4) = serB s := by rw [or_ser _ _ _ _ b1 b2 b3 b4]; rfl
        refine Ev.to (f := fun k => (impl_RootText.f k (serB s) (treB s)).bind fun bt140 => if bt140.2 = true then (if bt140.1.toList = s.toList then some (serB s, treB s, true) else some (0, 0, false)) else some (0, 0, false)) ?_ fun k => by
          simp only [impl_ReadRoot.j0, w1, w2, w3, w4, w5, w6]
          clear w1 w2 w3 w4 w5 w6
          rw [if_neg (by decide), if_pos (by omega), if_pos (by omega), if_pos (by omega), if_pos (by omega), if_pos (by omega), if_pos (by omega)]
        clear w1 w2 w3 w4 w5 w6
        refine (iRootText (serB s) (treB s)).bind ?_
        by_cases g2 : (pRootText (serB s) (treB s)).2 = true
        · by_cases g3 : (pRootText (serB s) (treB s)).1 = s
          · rw [pRR_t (by omega) g2 g3]
            exact Ev.ifp g2 (Ev.ifp (tl_inj.2 g3) (Ev.now _))
          · rw [pRR_f (fun h => g3 h.2.2)]
            exact Ev.ifp g2 (Ev.ifn (fun h => g3 (tl_inj.1 h)) (Ev.now _))
        · rw [pRR_f (fun h => g2 h.2.1)]
          exact Ev.ifn g2 (Ev.now _)
      · rw [show (bt b 0 != 82) = true by simpa using h82]
        have : pReadRoot s = (0, 0, false) := by
          apply pRR_f
          rintro ⟨_, g2, g3⟩
          have hi := pRoot_inv (a := serB s) (b := treB s) (s := s) (by rw [← g2]; rw [Prod.ext_iff]; exact ⟨g3, rfl⟩)
          rw [e] at hi
          have hb : b = rootB (serB s) (treB s) := by simpa using hi.2
          apply h82
          rw [hb]
          have := bt_nat (rootB (serB s) (treB s)) 0
          rw [rootB_bl] at this
          exact this
        rw [this]
        exact iRR_bad _ _
    · have : pReadRoot s = (0, 0, false) := by
        exact pRR_f (fun h => h7 (by omega))
      rw [this]
      exact Ev.ifn (by omega) (iRR_bad _ _)

theorem FnExactReadRoot : laws_FnExactReadRoot.Pure := by
  intro a0 hs
  by_cases hb : (a0.size : Int) > 1048576
  · exact ⟨0, by unfold laws_FnExactReadRoot.f; rw [if_pos hb]⟩
  · refine Ev.rounds (g := fun k => laws_FnExactReadRoot.f k a0) ?_
    unfold laws_FnExactReadRoot.f
    simp only [if_neg hb]
    refine (sReadRoot a0).bind ((iReadRoot a0 hs).bind ?_)
    unfold laws_eqRoot.f
    simp only [if_true, Option.bind_some, bne_rfl_bool, Bool.false_eq_true, if_false]
    exact Ev.now _

end Go.Proofs.Ytjhgcdjpabhifaa.Pure
