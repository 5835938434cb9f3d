/- A drawn text whose one byte is another is not Unsealed; it is Unsealed as it was sealed; SumMore goes on: whatever the bytes that are drawn from. -/
import Derived.Test.YtfmemcffbfahhaaQFnTurnedx3
import Derived.Laws.BitsAllLaws
namespace Go.Proofs.Ytfmemcffbfahhaa.Pure
open Go.RowKit Go.Proofs.Ytfmemcffbfahhaa.QFnTurned Go.Proofs.YtfmemcffbfahhaaW.PrintWords Go.Proofs.YtfmemcffbfahhaaW.PrintLast
set_option linter.unusedVariables false
set_option linter.unusedSimpArgs false
set_option maxHeartbeats 4000000

theorem wid {n : Int} (h0 : -9223372036854775808 ≤ n) (h1 : n < 9223372036854775808) : wrap64 n = n := by unfold wrap64; omega
theorem _root_.Go.Proofs.YtfmemcffbfahhaaW.PrintWords.Ev.ofEq {α : Type} {g : Nat → Option α} {r q : α} (h : Ev g r) (e : r = q) : Ev g q := e ▸ h
theorem _root_.Go.Proofs.YtfmemcffbfahhaaW.PrintWords.Ev.same {α : Type} {o : Option α} {r : α} (h : o = some r) : Ev (fun _ => o) r := ⟨0, fun _ _ => h⟩
theorem _root_.Go.Proofs.YtfmemcffbfahhaaW.PrintWords.Ev.to {α : Type} {g f : Nat → Option α} {r : α} (k : Ev f r) (h : ∀ k, g (k + 1) = f k) : Ev g r := Ev.step h k
theorem _root_.Go.Proofs.YtfmemcffbfahhaaW.PrintWords.Ev.cg {α : Type} {g f : Nat → Option α} {r : α} (k : Ev f r) (h : ∀ k, g k = f k) : Ev g r := Ev.congr h k
theorem _root_.Go.Proofs.YtfmemcffbfahhaaW.PrintWords.Ev.ifp {α : Type} {c : Prop} [Decidable c] {g f : Nat → Option α} {r : α} (h : c) (e : Ev g r) : Ev (fun k => if c then g k else f k) r := by simp only [if_pos h]; exact e
theorem _root_.Go.Proofs.YtfmemcffbfahhaaW.PrintWords.Ev.ifn {α : Type} {c : Prop} [Decidable c] {g f : Nat → Option α} {r : α} (h : ¬ c) (e : Ev f r) : Ev (fun k => if c then g k else f k) r := by simp only [if_neg h]; exact e
/-- The bytes of a string, as numbers. -/
def bl (s : ByteArray) : List Int := s.data.toList.map fun b => (b.toNat : Int)
theorem bl_len (s : ByteArray) : (bl s).length = s.size := by unfold bl; rw [List.length_map]; rfl
def Byt (xs : List Int) : Prop := ∀ x ∈ xs, 0 ≤ x ∧ x < 256
theorem Byt.nil : Byt [] := fun _ h => by simp at h
theorem Byt.cons {x : Int} {xs : List Int} (h : 0 ≤ x ∧ x < 256) (h' : Byt xs) : Byt (x :: xs) := fun y hy => by
  rcases List.mem_cons.1 hy with rfl | hy
  · exact h
  · exact h' y hy
theorem Byt.app {xs ys : List Int} (h : Byt xs) (h' : Byt ys) : Byt (xs ++ ys) := fun y hy => by
  rcases List.mem_append.1 hy with hy | hy
  · exact h y hy
  · exact h' y hy
theorem Byt.left {xs ys : List Int} (h : Byt (xs ++ ys)) : Byt xs := fun y hy => h y (List.mem_append_left _ hy)
theorem Byt.right {xs ys : List Int} (h : Byt (xs ++ ys)) : Byt ys := fun y hy => h y (List.mem_append_right _ hy)
theorem Byt.tail {x : Int} {xs : List Int} (h : Byt (x :: xs)) : Byt xs := fun y hy => h y (List.mem_cons_of_mem _ hy)
theorem Byt.head {x : Int} {xs : List Int} (h : Byt (x :: xs)) : 0 ≤ x ∧ x < 256 := h x (List.mem_cons_self ..)
theorem Byt.drop {xs : List Int} (h : Byt xs) (n : Nat) : Byt (xs.drop n) := fun y hy => h y (List.mem_of_mem_drop hy)
theorem Byt.take {xs : List Int} (h : Byt xs) (n : Nat) : Byt (xs.take n) := fun y hy => h y (List.mem_of_mem_take hy)
theorem bl_byt (s : ByteArray) : Byt (bl s) := fun x hx => by
  obtain ⟨b, _, rfl⟩ := List.mem_map.1 hx
  have := b.toNat_lt
  omega
theorem u8_back (b : UInt8) : UInt8.ofNat ((b.toNat : Int)).toNat = b := by simp
theorem bl_str {xs : List Int} (h : Byt xs) : bl (strOfNums xs) = xs := by
  unfold bl
  rw [strOfNums_data, List.map_map]
  conv => rhs; rw [← List.map_id xs]
  apply List.map_congr_left
  intro x hx
  have := h x hx
  simp only [Function.comp, id]
  obtain ⟨n, rfl⟩ := Int.eq_ofNat_of_zero_le this.1
  simp
  omega
theorem str_bl (s : ByteArray) : strOfNums (bl s) = s := by
  unfold strOfNums bl
  rw [List.map_map]
  have : ((fun n : Int => UInt8.ofNat n.toNat) ∘ fun b : UInt8 => (b.toNat : Int)) = id := by
    funext b
    simp
  rw [this, List.map_id]
theorem bl_inj {a b : ByteArray} (h : bl a = bl b) : a = b := by rw [← str_bl a, ← str_bl b, h]
theorem bt_bl (s : ByteArray) (i : Int) : bt s i = (bl s).getD i.toNat 0 := by
  unfold bt
  split
  · rename_i h
    have hl : i.toNat < s.data.toList.length := h
    simp only [bl, List.getD_eq_getElem?_getD, List.getElem?_map, List.getElem?_eq_getElem hl, Option.map_some, Option.getD_some]
    rfl
  · rename_i h
    rw [List.getD_eq_getElem?_getD, List.getElem?_eq_none (by rw [bl_len]; omega)]
    rfl
theorem bl_app (a b : ByteArray) : bl (a ++ b) = bl a ++ bl b := by
  unfold bl
  rw [ByteArray.data_append, Array.toList_append, List.map_append]
theorem bl_ext (a : ByteArray) (i j : Nat) : bl (a.extract i j) = ((bl a).take j).drop i := by
  unfold bl
  rw [ByteArray.data_extract, Array.toList_extract, List.extract_eq_take_drop, List.map_take, List.map_drop, List.drop_take]
theorem bl_emp : bl (⟨#[]⟩ : ByteArray) = [] := rfl
theorem bl_cons {s : ByteArray} {i : Nat} (h : i < s.size) : (bl s).drop i = bt s (i : Int) :: (bl s).drop (i + 1) := by
  have hl : i < (bl s).length := by rw [bl_len]; exact h
  rw [List.drop_eq_getElem_cons hl, bt_bl, List.getD_eq_getElem?_getD, Int.toNat_natCast, List.getElem?_eq_getElem hl]
  rfl
theorem bl_end {s : ByteArray} {i : Nat} (h : s.size ≤ i) : (bl s).drop i = [] := List.drop_of_length_le (by rw [bl_len]; exact h)
theorem tl_inj {a b : ByteArray} : a.toList = b.toList ↔ a = b := by
  constructor
  · intro h
    rw [ByteArray.toList_eq, ByteArray.toList_eq] at h
    apply ByteArray.ext
    exact Array.toList_inj.1 h
  · rintro rfl; rfl
theorem tl_bl {a b : ByteArray} : a.toList = b.toList ↔ bl a = bl b := tl_inj.trans ⟨fun h => h ▸ rfl, bl_inj⟩
theorem tdiv_pos {a b : Int} (h : 0 ≤ a) : Int.tdiv a b = a / b := Int.tdiv_eq_ediv_of_nonneg h
theorem tmod_pos {a b : Int} (h : 0 ≤ a) : Int.tmod a b = a % b := Int.tmod_eq_emod_of_nonneg h
theorem bne_rfl_bool (b : Bool) : (b != b) = false := by cases b <;> rfl
theorem wf_u32 {n : Int} (h : (Lit.int .u32 n).wf = true) : 0 ≤ n ∧ n < 4294967296 := by
  have h1 : IntKind.u32.min = 0 := by decide +kernel
  have h2 : IntKind.u32.max = 4294967295 := by decide +kernel
  simp only [Lit.wf, h1, h2, Bool.and_eq_true, decide_eq_true_eq] at h
  omega
theorem wf_i64 {n : Int} (h : (Lit.int .i64 n).wf = true) : -9223372036854775808 ≤ n ∧ n < 9223372036854775808 := by
  have h1 : IntKind.i64.min = -9223372036854775808 := by decide +kernel
  have h2 : IntKind.i64.max = 9223372036854775807 := by decide +kernel
  simp only [Lit.wf, h1, h2, Bool.and_eq_true, decide_eq_true_eq] at h
  omega
theorem Byt.one {x : Int} (h : 0 ≤ x ∧ x < 256) : Byt [x] := Byt.nil.cons h
theorem bl_size (s : ByteArray) : s.size = (bl s).length := (bl_len s).symm
theorem str_len (xs : List Int) : (strOfNums xs).size = xs.length := strOfNums_size xs

/-! Sums -/
def U32 (s : Int) : Prop := 0 ≤ s ∧ s < 4294967296
theorem xor_u32 {a b : Int} (h : U32 a) (h' : U32 b) : U32 (Go.bits .xor .u32 a b) := by
  rw [Go.u32_xor a b h.1 h.2 h'.1 h'.2]
  have : a.toNat ^^^ b.toNat < 2 ^ 32 := Nat.xor_lt_two_pow (by have := h.2; have := h.1; omega) (by have := h'.2; have := h'.1; omega)
  exact ⟨by omega, by omega⟩
theorem and1_u32 {a : Int} (h : U32 a) : Go.bits .and .u32 a 1 = a % 2 := by
  rw [Go.u32_and a 1 h.1 h.2 (by decide) (by decide)]
  have : (1 : Int).toNat = 1 := rfl
  rw [this, Nat.and_one_is_mod]
  have := h.1
  omega
def crcBit (s : Int) : Int := if s % 2 = 1 then Go.bits .xor .u32 (s / 2) 3558460437 else s / 2
def crcN : Nat → Int → Int
  | 0, s => s
  | n + 1, s => crcN n (crcBit s)
def crcByte (s b : Int) : Int := crcN 8 (Go.bits .xor .u32 s b)
def crcL (s : Int) (l : List Int) : Int := l.foldl crcByte s
theorem crcBit_u32 {s : Int} (h : U32 s) : U32 (crcBit s) := by
  unfold crcBit
  have : U32 (s / 2) := ⟨by have := h.1; omega, by have := h.2; omega⟩
  split
  · exact xor_u32 this ⟨by decide, by decide⟩
  · exact this
theorem crcN_u32 : ∀ (n : Nat) {s : Int}, U32 s → U32 (crcN n s)
  | 0, _, h => h
  | n + 1, _, h => crcN_u32 n (crcBit_u32 h)
theorem crcByte_u32 {s b : Int} (h : U32 s) (hb : 0 ≤ b ∧ b < 256) : U32 (crcByte s b) := crcN_u32 8 (xor_u32 h ⟨hb.1, by omega⟩)
theorem crcL_cons (s b : Int) (l : List Int) : crcL s (b :: l) = crcL (crcByte s b) l := by unfold crcL; rw [List.foldl_cons]
theorem crcL_u32 : ∀ (l : List Int) {s : Int}, U32 s → Byt l → U32 (crcL s l)
  | [], _, h, _ => h
  | b :: l, s, h, hb => by rw [crcL_cons]; exact crcL_u32 l (crcByte_u32 h hb.head) hb.tail
theorem crcL_app (s : Int) (l l' : List Int) : crcL s (l ++ l') = crcL (crcL s l) l' := by unfold crcL; rw [List.foldl_append]

theorem u32_top : U32 4294967295 := ⟨by decide, by decide⟩
def sumB (s : ByteArray) : Int := crcL 4294967295 (bl s)
theorem sumB_u32 (s : ByteArray) : U32 (sumB s) := crcL_u32 _ u32_top (bl_byt s)
def four (n : Int) : List Int := [(n / 16777216) % 256, (n / 65536) % 256, (n / 256) % 256, n % 256]
theorem four_byt (n : Int) : Byt (four n) := (((Byt.one ⟨by omega, by omega⟩).cons ⟨by omega, by omega⟩).cons ⟨by omega, by omega⟩).cons ⟨by omega, by omega⟩
theorem four_len (n : Int) : (four n).length = 4 := rfl
def pSealed (s : ByteArray) : ByteArray × Bool := if s.size > 8000 then (⟨#[]⟩, false) else (s ++ strOfNums (four (sumB s)), true)

def cutB (s : ByteArray) : ByteArray := s.extract 0 (s.size - 4)
def pUnsealed (s : ByteArray) : ByteArray × Bool := if 4 ≤ s.size ∧ s.size - 4 ≤ 8000 ∧ (bl s).drop (s.size - 4) = four (sumB (cutB s)) then (cutB s, true) else (⟨#[]⟩, false)
theorem cutB_bl (s : ByteArray) : bl (cutB s) = (bl s).take (s.size - 4) := by unfold cutB; rw [bl_ext, List.drop_zero]
theorem cutB_size (s : ByteArray) : (cutB s).size = s.size - 4 := by rw [bl_size, cutB_bl, List.length_take, bl_len]; omega

/-! One byte turned: the sum tells it -/
theorem xor_nat {a b : Int} (h : U32 a) (h' : U32 b) : Go.bits .xor .u32 a b = ((a.toNat ^^^ b.toNat : Nat) : Int) := Go.u32_xor a b h.1 h.2 h'.1 h'.2
theorem xor_inj {a b p : Int} (ha : U32 a) (hb : U32 b) (hp : U32 p) (h : Go.bits .xor .u32 a p = Go.bits .xor .u32 b p) : a = b := by
  rw [xor_nat ha hp, xor_nat hb hp] at h
  have h1 : a.toNat ^^^ p.toNat = b.toNat ^^^ p.toNat := by exact_mod_cast h
  have h2 : (a.toNat ^^^ p.toNat) ^^^ p.toNat = (b.toNat ^^^ p.toNat) ^^^ p.toNat := by rw [h1]
  rw [Nat.xor_assoc, Nat.xor_assoc, Nat.xor_self, Nat.xor_zero, Nat.xor_zero] at h2
  have := ha.1
  have := hb.1
  omega
theorem xor_injL {a b p : Int} (ha : U32 a) (hb : U32 b) (hp : U32 p) (h : Go.bits .xor .u32 p a = Go.bits .xor .u32 p b) : a = b := by
  rw [xor_nat hp ha, xor_nat hp hb] at h
  have h1 : p.toNat ^^^ a.toNat = p.toNat ^^^ b.toNat := by exact_mod_cast h
  have h2 : p.toNat ^^^ (p.toNat ^^^ a.toNat) = p.toNat ^^^ (p.toNat ^^^ b.toNat) := by rw [h1]
  rw [← Nat.xor_assoc, ← Nat.xor_assoc, Nat.xor_self, Nat.zero_xor, Nat.zero_xor] at h2
  have := ha.1
  have := hb.1
  omega
theorem poly_hi {x : Int} (h0 : 0 ≤ x) (h1 : x < 2147483648) : 2147483648 ≤ Go.bits .xor .u32 x 3558460437 := by
  rw [xor_nat ⟨h0, by omega⟩ ⟨by decide, by decide⟩]
  have hx : x.toNat.testBit 31 = false := Nat.testBit_lt_two_pow (by omega)
  have ht : (x.toNat ^^^ (3558460437 : Int).toNat).testBit 31 = true := by
    rw [Nat.testBit_xor, hx]; decide
  have := Nat.ge_two_pow_of_testBit ht
  omega
theorem crcBit_inj {a b : Int} (ha : U32 a) (hb : U32 b) (h : crcBit a = crcBit b) : a = b := by
  have a0 := ha.1
  have a1 := ha.2
  have b0 := hb.1
  have b1 := hb.2
  unfold crcBit at h
  by_cases ca : a % 2 = 1
  · by_cases cb : b % 2 = 1
    · rw [if_pos ca, if_pos cb] at h
      have := xor_inj (a := a / 2) (b := b / 2) ⟨by omega, by omega⟩ ⟨by omega, by omega⟩ ⟨by decide, by decide⟩ h
      omega
    · rw [if_pos ca, if_neg cb] at h
      have := poly_hi (x := a / 2) (by omega) (by omega)
      omega
  · by_cases cb : b % 2 = 1
    · rw [if_neg ca, if_pos cb] at h
      have := poly_hi (x := b / 2) (by omega) (by omega)
      omega
    · rw [if_neg ca, if_neg cb] at h
      omega
theorem crcN_inj : ∀ (n : Nat) {a b : Int}, U32 a → U32 b → crcN n a = crcN n b → a = b
  | 0, _, _, _, _, h => h
  | n + 1, _, _, ha, hb, h => crcBit_inj ha hb (crcN_inj n (crcBit_u32 ha) (crcBit_u32 hb) h)
theorem byte_u32 {b : Int} (h : 0 ≤ b ∧ b < 256) : U32 b := ⟨h.1, by omega⟩
theorem crcByte_inj {a b c : Int} (ha : U32 a) (hb : U32 b) (hc : 0 ≤ c ∧ c < 256) (h : crcByte a c = crcByte b c) : a = b :=
  xor_inj ha hb (byte_u32 hc) (crcN_inj 8 (xor_u32 ha (byte_u32 hc)) (xor_u32 hb (byte_u32 hc)) h)
theorem crcByte_injB {s b c : Int} (hs : U32 s) (hb : 0 ≤ b ∧ b < 256) (hc : 0 ≤ c ∧ c < 256) (h : crcByte s b = crcByte s c) : b = c :=
  xor_injL (byte_u32 hb) (byte_u32 hc) hs (crcN_inj 8 (xor_u32 hs (byte_u32 hb)) (xor_u32 hs (byte_u32 hc)) h)
theorem crcL_inj : ∀ (l : List Int) {a b : Int}, Byt l → U32 a → U32 b → crcL a l = crcL b l → a = b
  | [], _, _, _, _, _, h => h
  | c :: l, _, _, hl, ha, hb, h => by
    rw [crcL_cons, crcL_cons] at h
    exact crcByte_inj ha hb hl.head (crcL_inj l hl.tail (crcByte_u32 ha hl.head) (crcByte_u32 hb hl.head) h)
theorem crcL_turned {s b c : Int} {P Q : List Int} (hs : U32 s) (hP : Byt P) (hQ : Byt Q) (hb : 0 ≤ b ∧ b < 256) (hc : 0 ≤ c ∧ c < 256) (h : crcL s (P ++ b :: Q) = crcL s (P ++ c :: Q)) : b = c := by
  rw [crcL_app, crcL_app, crcL_cons, crcL_cons] at h
  have hp := crcL_u32 P hs hP
  exact crcByte_injB hp hb hc (crcL_inj Q hQ (crcByte_u32 hp hb) (crcByte_u32 hp hc) h)
theorem four_inj {a b : Int} (ha : U32 a) (hb : U32 b) (h : four a = four b) : a = b := by
  unfold four at h
  simp only [List.cons.injEq, and_true] at h
  have := ha.1
  have := ha.2
  have := hb.1
  have := hb.2
  omega
/-- A sealed text one of whose bytes is another one isn't unsealed. -/
theorem turned_no {X : List Int} {P Q : List Int} {b c : Int} {s : ByteArray} (hX : Byt X) (hb : 0 ≤ b ∧ b < 256) (hc : 0 ≤ c ∧ c < 256) (hbc : b ≠ c) (hs : X ++ four (crcL 4294967295 X) = P ++ b :: Q) (ht : bl s = P ++ c :: Q) : (pUnsealed s).2 = false := by
  unfold pUnsealed
  split
  · rename_i h
    exfalso
    obtain ⟨h4, _, h⟩ := h
    unfold sumB at h
    rw [cutB_bl] at h
    have hlen : s.size = X.length + 4 := by
      rw [bl_size, ht]
      have := congrArg List.length hs
      simp only [List.length_append, four_len, List.length_cons] at this ⊢
      omega
    have e4 : s.size - 4 = X.length := by omega
    rw [ht, e4] at h
    have hlP : P.length + (Q.length + 1) = X.length + 4 := by
      have := congrArg List.length hs
      simp only [List.length_append, four_len, List.length_cons] at this
      omega
    by_cases hp : P.length < X.length
    · -- the byte stands in the text
      obtain ⟨R, hR, hR'⟩ : ∃ R, X = P ++ b :: R ∧ Q = R ++ four (crcL 4294967295 X) := by
        refine ⟨X.drop (P.length + 1), ?_, ?_⟩
        · have := congrArg (List.take X.length) hs
          rw [List.take_left] at this
          have t2 := congrArg (List.drop (P.length + 1)) this
          rw [this, List.take_append, List.take_of_length_le (by omega)]
          obtain ⟨m, hm⟩ : ∃ m, X.length - P.length = m + 1 := ⟨X.length - P.length - 1, by omega⟩
          rw [hm, List.take_succ_cons]
          congr 2
          rw [List.drop_append, List.drop_of_length_le (by omega), List.nil_append, show P.length + 1 - P.length = 1 by omega]
          rfl
        · have g1 : List.drop (P.length + 1) (X ++ four (crcL 4294967295 X)) = List.drop (P.length + 1) X ++ four (crcL 4294967295 X) := List.drop_append_of_le_length (by omega)
          have g2 : List.drop (P.length + 1) (P ++ b :: Q) = Q := by
            rw [show P ++ b :: Q = (P ++ [b]) ++ Q by simp, show P.length + 1 = (P ++ [b]).length by simp, List.drop_left]
          rw [← g1, hs, g2]
      have hb' : Byt (P ++ b :: R) := hR ▸ hX
      have e1 : (P ++ c :: Q).drop X.length = four (crcL 4294967295 X) := by
        rw [hR', ← List.cons_append, ← List.append_assoc, show X.length = (P ++ c :: R).length by rw [hR]; simp, List.drop_left]
      have e2 : (P ++ c :: Q).take X.length = P ++ c :: R := by
        rw [hR', ← List.cons_append, ← List.append_assoc, show X.length = (P ++ c :: R).length by rw [hR]; simp, List.take_left]
      rw [e1, e2] at h
      have hc' : Byt (P ++ c :: R) := hb'.left.app ((hb'.right.tail).cons hc)
      have := four_inj (crcL_u32 _ u32_top hX) (crcL_u32 _ u32_top hc') h
      rw [hR] at this
      exact hbc (crcL_turned u32_top hb'.left hb'.right.tail hb hc this)
    · -- it stands in the sum
      have e2 : (P ++ c :: Q).take X.length = X := by
        have := congrArg (List.take X.length) hs
        rw [List.take_left, List.take_append_of_le_length (by omega)] at this
        rw [List.take_append_of_le_length (by omega), ← this]
      rw [e2] at h
      have e3 := congrArg (List.drop X.length) hs
      rw [List.drop_left, List.drop_append_of_le_length (by omega)] at e3
      rw [List.drop_append_of_le_length (by omega), e3] at h
      have := List.append_cancel_left h
      simp only [List.cons.injEq, and_true] at this
      exact hbc this.symm
  · rfl

/-! Draws: whatever the bytes, a number in its bounds -/
theorem and255 (y : Int) : 0 ≤ Go.bits .and .i64 y 255 ∧ Go.bits .and .i64 y 255 < 256 := by
  have h : (BitVec.ofInt 64 y &&& BitVec.ofInt 64 255).toNat ≤ 255 := by
    rw [BitVec.toNat_and]; exact Nat.le_trans Nat.and_le_right (by decide)
  have e : Go.bits .and .i64 y 255 = IntKind.i64.wrap ((BitVec.ofInt 64 y &&& BitVec.ofInt 64 255).toNat : Nat) := rfl
  rw [e, IntKind.wrap_i64]
  omega
theorem dByte (b : List Int) (i h : Int) (hb : b.length ≤ 140737488351232) (hi : 0 ≤ i) : ∃ x i' h', spec_l01Byte.f b i h = some (x, i', h') ∧ 0 ≤ x ∧ x < 256 ∧ 0 ≤ i' := by
  unfold spec_l01Byte.f
  by_cases h1 : i < (b.length : Int)
  · have w : wrap64 (i + 1) = i + 1 := wid (by omega) (by omega)
    rw [w]; clear w
    rw [if_pos h1, if_pos hi]
    exact ⟨_, _, _, rfl, (and255 _).1, (and255 _).2, by omega⟩
  · rw [if_neg h1]
    exact ⟨_, _, _, rfl, (and255 _).1, (and255 _).2, hi⟩
theorem dBelow (b : List Int) (i h n : Int) (hb : b.length ≤ 140737488351232) (hi : 0 ≤ i) (hn : 0 < n) : ∃ x i' h', spec_l01Below.f b i h n = some (x, i', h') ∧ 0 ≤ x ∧ x < n ∧ 0 ≤ i' := by
  unfold spec_l01Below.f
  rw [if_neg (by omega)]
  obtain ⟨x1, i1, h1, e1, p1, q1, r1⟩ := dByte b i h hb hi
  by_cases hs : n ≤ 256
  · rw [if_pos hs, e1]
    simp only [Option.bind_some]
    rw [if_neg (by omega), tmod_pos p1]
    exact ⟨_, _, _, rfl, Int.emod_nonneg _ (by omega), Int.emod_lt_of_pos _ hn, r1⟩
  · obtain ⟨x2, i2, h2, e2, p2, q2, r2⟩ := dByte b i1 h1 hb r1
    obtain ⟨x3, i3, h3, e3, p3, q3, r3⟩ := dByte b i2 h2 hb r2
    obtain ⟨x4, i4, h4, e4, p4, q4, r4⟩ := dByte b i3 h3 hb r3
    have w1 : wrap64 (x1 * 16777216) = x1 * 16777216 := wid (by omega) (by omega)
    have w2 : wrap64 (x2 * 65536) = x2 * 65536 := wid (by omega) (by omega)
    have w3 : wrap64 (x3 * 256) = x3 * 256 := wid (by omega) (by omega)
    have w4 : wrap64 (x1 * 16777216 + x2 * 65536) = x1 * 16777216 + x2 * 65536 := wid (by omega) (by omega)
    have w5 : wrap64 (x1 * 16777216 + x2 * 65536 + x3 * 256) = x1 * 16777216 + x2 * 65536 + x3 * 256 := wid (by omega) (by omega)
    have w6 : wrap64 (x1 * 16777216 + x2 * 65536 + x3 * 256 + x4) = x1 * 16777216 + x2 * 65536 + x3 * 256 + x4 := wid (by omega) (by omega)
    rw [if_neg hs, e1]
    simp only [Option.bind_some]
    rw [e2]
    simp only [Option.bind_some]
    rw [e3]
    simp only [Option.bind_some]
    rw [e4]
    simp only [Option.bind_some, w1, w2, w3, w4, w5, w6]
    clear w1 w2 w3 w4 w5 w6
    rw [if_neg (by omega), tmod_pos (by omega)]
    exact ⟨_, _, _, rfl, Int.emod_nonneg _ (by omega), Int.emod_lt_of_pos _ hn, r4⟩
theorem dNew_go (b : List Int) (hb : b.length ≤ 140737488351232) : ∀ (d i : Nat) (x : Int), i + d = b.length → ∃ h, Ev (fun k => spec_l01New.l0 k b x (i : Int)) (b, 0, h)
  | 0, i, x, hi => ⟨x, (Ev.now _).to fun k => by simp only [spec_l01New.l0]; rw [if_neg (by omega)]⟩
  | d + 1, i, x, hi => by
    by_cases h4 : (i : Int) < 4000
    · have w : wrap64 ((i : Int) + 1) = ((i + 1 : Nat) : Int) := by rw [wid (by omega) (by omega)]; rfl
      obtain ⟨h, e⟩ := dNew_go b hb d (i + 1) (Go.bits .and .i64 (wrap64 ((wrap64 ((wrap64 (x * 131)) + (wrap64 (rd b (i : Int))))) + 7)) 1073741823) (by omega)
      refine ⟨h, e.to fun k => ?_⟩
      simp only [spec_l01New.l0, w]
      clear w
      rw [if_pos (by omega), if_pos h4, if_pos (by omega)]
    · exact ⟨x, (Ev.now _).to fun k => by simp only [spec_l01New.l0]; rw [if_pos (by omega), if_neg h4]⟩
theorem dNew (b : List Int) (hb : b.length ≤ 140737488351232) : ∃ h, Ev (fun k => spec_l01New.f k b) (b, 0, h) := by
  unfold spec_l01New.f
  exact dNew_go b hb b.length 0 _ (by omega)

theorem dText_go (b : List Int) (hb : b.length ≤ 140737488351232) (n : Int) (hn : n ≤ 5000) : ∀ (d : Nat) (acc : List Int) (j i h : Int), 0 ≤ j → (acc.length : Int) = j → j + d = n → 0 ≤ i → Byt acc →
    ∃ s i' h', Ev (fun k => spec_l01Text.l0 k n acc j b i h) (s, i', h') ∧ (s.size : Int) = n ∧ 0 ≤ i'
  | 0, acc, j, i, h, hj, hl, hd, hi, hB => ⟨strOfNums acc, i, h, (Ev.now _).to fun k => by simp only [spec_l01Text.l0]; rw [if_neg (by omega)], by rw [str_len]; omega, hi⟩
  | d + 1, acc, j, i, h, hj, hl, hd, hi, hB => by
    obtain ⟨x, i1, h1, e, p, q, r⟩ := dByte b i h hb hi
    have w : wrap64 (j + 1) = j + 1 := wid (by omega) (by omega)
    obtain ⟨s, i', h', ev, hs, hi'⟩ := dText_go b hb n hn d (acc ++ [x % 256]) (j + 1) i1 h1 (by omega) (by rw [List.length_append]; simp; omega) (by omega) r (hB.app (Byt.one ⟨by omega, by omega⟩))
    refine ⟨s, i', h', ev.to fun k => ?_, hs, hi'⟩
    simp only [spec_l01Text.l0, w, e, Option.bind_some]
    clear w
    rw [if_pos (by omega), if_pos (by omega)]
theorem dText (b : List Int) (hb : b.length ≤ 140737488351232) (n i h : Int) (h0 : 0 ≤ n) (hn : n ≤ 5000) (hi : 0 ≤ i) : ∃ s i' h', Ev (fun k => spec_l01Text.f k b i h n) (s, i', h') ∧ (s.size : Int) = n ∧ 0 ≤ i' := by
  obtain ⟨s, i', h', ev, hs, hi'⟩ := dText_go b hb n hn n.toNat [] 0 i h (by omega) rfl (by omega) hi Byt.nil
  refine ⟨s, i', h', ?_, hs, hi'⟩
  unfold spec_l01Text.f
  exact Ev.ifn (by omega) (ev.to fun k => by simp only [spec_l01Text.j0])

theorem set_take {α : Type} (xs : List α) {i : Nat} (v : α) (h : i < xs.length) : (xs.set i v).take (i + 1) = xs.take i ++ [v] := by
  rw [List.take_succ_eq_append_getElem (by rw [List.length_set]; exact h), List.getElem_set_self, List.take_set_of_le (Nat.le_refl _)]
theorem take_set_drop {α : Type} (xs : List α) {i : Nat} (v : α) (h : i < xs.length) : (xs.set i v).drop (i + 1) = xs.drop (i + 1) := by
  rw [List.drop_set_of_lt (by omega)]
theorem getD_at {α : Type} {xs : List α} {i : Nat} (z : α) (h : i < xs.length) : xs.getD ((i : Int)).toNat z = xs[i] := by
  rw [Int.toNat_natCast, List.getD_eq_getElem?_getD, List.getElem?_eq_getElem h]; rfl
theorem rdOf_at {α : Type} {xs : List α} {i : Nat} (z : α) (h : i < xs.length) : rdOf z xs (i : Int) = xs[i] := getD_at z h
theorem rd_at {xs : List Int} {i : Nat} (h : i < xs.length) : rd xs (i : Int) = xs[i] := getD_at 0 h
theorem toNat_len (n : Nat) : ((n : Int) : Int).toNat = n := Int.toNat_natCast n

theorem dPlaces_go (b : List Int) (hb : b.length ≤ 140737488351232) : ∀ (d : Nat) (acc : List Int) (j i h : Int), 0 ≤ j → j + d = 12 → (acc.length : Int) = j → 0 ≤ i → (∀ x ∈ acc, 0 ≤ x ∧ x < 10000) → ∃ l, Ev (fun k => spec_DrawPlaces.l0 k acc j b i h) l ∧ l.length = 12 ∧ ∀ x ∈ l, 0 ≤ x ∧ x < 10000
  | 0, acc, j, i, h, hj, hd, hl, hi, hA => ⟨acc, (Ev.now _).to fun k => by simp only [spec_DrawPlaces.l0]; rw [if_neg (by omega)], by omega, hA⟩
  | d + 1, acc, j, i, h, hj, hd, hl, hi, hA => by
    obtain ⟨x, i1, h1, e, p, q, r⟩ := dBelow b i h 10000 hb hi (by omega)
    obtain ⟨l, ev, hl1, hl2⟩ := dPlaces_go b hb d (acc ++ [x]) (j + 1) i1 h1 (by omega) (by omega) (by rw [List.length_append]; simp; omega) r (fun y hy => by
      rcases List.mem_append.1 hy with hy | hy
      · exact hA y hy
      · rw [List.mem_singleton.1 hy]; exact ⟨p, q⟩)
    have w : wrap64 (j + 1) = j + 1 := wid (by omega) (by omega)
    refine ⟨l, ev.to fun k => ?_, hl1, hl2⟩
    simp only [spec_DrawPlaces.l0, w, e, Option.bind_some]
    clear w
    rw [if_pos (by omega), if_pos (by omega)]
def dP (b : List Int) (k : Nat) (bt : Int × Int × Int) : Option (List Int) := spec_DrawPlaces.l0 k ([] : List Int) 0 b bt.2.1 bt.2.2
theorem dPlaces (b : List Int) (hb : b.length ≤ 140737488351232) : ∃ l, Ev (fun k => spec_DrawPlaces.f k b) l ∧ l.length = 12 ∧ ∀ x ∈ l, 0 ≤ x ∧ x < 10000 := by
  obtain ⟨h, ev⟩ := dNew b hb
  obtain ⟨x, i1, h1, e, p, q, r⟩ := dByte b 0 h hb (by omega)
  obtain ⟨l, ev2, hl⟩ := dPlaces_go b hb 12 [] 0 i1 h1 (by omega) (by omega) rfl r (fun _ h => by simp at h)
  refine ⟨l, ?_, hl⟩
  unfold spec_DrawPlaces.f
  refine ev.bind (f := fun k bt => (spec_l01Byte.f bt.1 bt.2.1 bt.2.2).bind fun bt2 => spec_DrawPlaces.l0 k ([] : List Int) 0 bt.1 bt2.2.1 bt2.2.2) ?_
  have step : ∀ k, (spec_l01Byte.f b 0 h).bind (dP b k) = dP b k (x, i1, h1) := fun k => (congrArg (fun o => Option.bind o (dP b k)) e).trans (Option.bind_some _ _)
  exact Ev.cg (f := fun k => dP b k (x, i1, h1)) ev2 step

theorem impl_sm_l1 (s : ByteArray) (z i : Int) {r : Int} : ∀ (n : Nat) (x : Int), n ≤ 8 → U32 x → Ev (fun k => impl_SumMore.l0 k (crcN n x) s z (wrap64 (i + 1))) r → Ev (fun k => impl_SumMore.l1 k x s z i (8 - (n : Int))) r
  | 0, x, _, _, h => h.to fun k => by simp only [impl_SumMore.l1]; rw [if_neg (by omega)]; rfl
  | n + 1, x, hn, hx, h => by
    have h1 := hx.1
    have h2 := hx.2
    refine (impl_sm_l1 s z i n (crcBit x) (by omega) (crcBit_u32 hx) h).to fun k => ?_
    simp only [impl_SumMore.l1]
    rw [if_pos (by omega), and1_u32 hx, wid (by omega) (by omega), show (8 - ((n + 1 : Nat) : Int) + 1) = 8 - (n : Int) by omega]
    unfold crcBit
    by_cases hb : x % 2 = 1
    · rw [if_pos hb, if_pos hb]
    · rw [if_neg hb, if_neg hb]
theorem impl_sm_l0 (s : ByteArray) (hs : s.size ≤ 140737488351232) : ∀ (d i : Nat) (x : Int), i + d = s.size → U32 x → Ev (fun k => impl_SumMore.l0 k x s (s.size : Int) (i : Int)) (crcL x ((bl s).drop i))
  | 0, i, x, hi, _ => by
    refine (Ev.now _).to fun k => ?_
    simp only [impl_SumMore.l0]
    rw [if_neg (by omega), bl_end (by omega)]
    rfl
  | d + 1, i, x, hi, hx => by
    have hb := bt_range s (i : Int)
    rw [bl_cons (by omega), crcL_cons]
    have hx' : U32 (Go.bits .xor .u32 x (bt s i)) := xor_u32 hx ⟨hb.1, by omega⟩
    have := impl_sm_l0 s hs d (i + 1) (crcByte x (bt s i)) (by omega) (crcByte_u32 hx ⟨hb.1, by omega⟩)
    refine (impl_sm_l1 s _ i 8 _ (Nat.le_refl _) hx' (by rw [wid (by omega) (by omega)]; exact this)).to fun k => ?_
    simp only [impl_SumMore.l0]
    rw [if_pos (by omega), if_pos (by omega), if_pos (by omega), show bt s (i : Int) % 4294967296 = bt s i by omega]
    rfl
theorem impl_sm (x : Int) (s : ByteArray) (hs : s.size ≤ 140737488351232) (hx : U32 x) : Ev (fun k => impl_SumMore.f k x s) (crcL x (bl s)) := impl_sm_l0 s hs s.size 0 x (by omega) hx

theorem iSumOf (s : ByteArray) (hs : s.size ≤ 140737488351232) : Ev (fun k => impl_SumOf.f k s) (sumB s) := by
  unfold impl_SumOf.f
  exact (impl_sm _ s hs u32_top).bind (Ev.now _)

theorem iSealed (s : ByteArray) (hs : s.size ≤ 140737488351232) : Ev (fun k => impl_Sealed.f k s) (pSealed s) := by
  unfold impl_Sealed.f pSealed
  by_cases h : s.size > 8000
  · rw [if_pos h]
    simp only [if_pos (show (s.size : Int) > 8000 by omega)]
    exact Ev.now _
  · rw [if_neg h]
    simp only [if_neg (show ¬ (s.size : Int) > 8000 by omega)]
    refine (iSumOf s hs).bind ?_
    simp only [Option.bind_some]
    exact Ev.same (if_pos (by rw [str_len]; show s.size + 4 ≤ _; omega))

theorem sealed_bl (s : ByteArray) : bl (s ++ strOfNums (four (sumB s))) = bl s ++ four (sumB s) := by rw [bl_app, bl_str (four_byt _)]
theorem iUnsealed (s : ByteArray) (hs : s.size ≤ 140737488351232) : Ev (fun k => impl_Unsealed.f k s) (pUnsealed s) := by
  unfold impl_Unsealed.f pUnsealed
  have w : wrap64 ((s.size : Int) - 4) = (s.size : Int) - 4 := wid (by omega) (by omega)
  rw [w]; clear w
  by_cases h4 : 4 ≤ s.size
  · have e : ((s.size : Int) - 4).toNat = s.size - 4 := by omega
    simp only [if_neg (show ¬ (s.size : Int) < 4 by omega), if_pos (show 0 ≤ (s.size : Int) - 4 by omega), if_pos (show (s.size : Int) - 4 ≤ s.size by omega), e]
    refine (iSealed (cutB s) (by rw [cutB_size]; omega)).bind ?_
    have hcs := cutB_size s
    by_cases h8 : s.size - 4 ≤ 8000
    · have e1 : pSealed (cutB s) = (cutB s ++ strOfNums (four (sumB (cutB s))), true) := by unfold pSealed; rw [if_neg (by omega)]
      rw [e1]
      have hiff : (cutB s ++ strOfNums (four (sumB (cutB s)))).toList = s.toList ↔ (bl s).drop (s.size - 4) = four (sumB (cutB s)) := by
        rw [tl_bl, sealed_bl, cutB_bl]
        conv => lhs; rhs; rw [← List.take_append_drop (s.size - 4) (bl s)]
        rw [List.append_cancel_left_eq]
        exact eq_comm
      by_cases hh : (bl s).drop (s.size - 4) = four (sumB (cutB s))
      · rw [if_pos (⟨h4, h8, hh⟩ : 4 ≤ s.size ∧ s.size - 4 ≤ 8000 ∧ (bl s).drop (s.size - 4) = four (sumB (cutB s)))]
        simp only [if_true]
        exact Ev.same (if_pos (hiff.2 hh))
      · rw [if_neg (fun h : 4 ≤ s.size ∧ s.size - 4 ≤ 8000 ∧ (bl s).drop (s.size - 4) = four (sumB (cutB s)) => hh h.2.2)]
        simp only [if_true]
        exact Ev.same (if_neg (fun h => hh (hiff.1 h)))
    · have e1 : pSealed (cutB s) = (⟨#[]⟩, false) := by unfold pSealed; rw [if_pos (by omega)]
      rw [e1, if_neg (fun h : 4 ≤ s.size ∧ s.size - 4 ≤ 8000 ∧ (bl s).drop (s.size - 4) = four (sumB (cutB s)) => h8 h.2.1)]
      simp only [Bool.false_eq_true, if_false]
      exact Ev.now _
  · rw [if_neg (fun h : 4 ≤ s.size ∧ s.size - 4 ≤ 8000 ∧ (bl s).drop (s.size - 4) = four (sumB (cutB s)) => h4 h.1)]
    exact Ev.ifp (by omega) (Ev.now _)

def dSO (b : List Int) (k : Nat) (bt : Int × Int × Int) : Option ByteArray := (spec_l01Text.f k b bt.2.1 bt.2.2 bt.1).bind fun bt2 => some bt2.1
theorem dSumOf (b : List Int) (hb : b.length ≤ 140737488351232) : ∃ s, Ev (fun k => spec_DrawSumOf.f k b) s ∧ s.size ≤ 40 := by
  obtain ⟨h, ev⟩ := dNew b hb
  obtain ⟨x, i1, h1, e, p, q, r⟩ := dBelow b 0 h 40 hb (by omega) (by omega)
  obtain ⟨s, i2, h2, ev2, hs, _⟩ := dText b hb x i1 h1 p (by omega) r
  refine ⟨s, ?_, by omega⟩
  unfold spec_DrawSumOf.f
  refine ev.bind (f := fun k bt => (spec_l01Below.f bt.1 bt.2.1 bt.2.2 40).bind fun bt2 => (spec_l01Text.f k bt.1 bt2.2.1 bt2.2.2 bt2.1).bind fun bt3 => some bt3.1) ?_
  have step : ∀ k, (spec_l01Below.f b 0 h 40).bind (dSO b k) = dSO b k (x, i1, h1) := fun k => (congrArg (fun o => Option.bind o (dSO b k)) e).trans (Option.bind_some _ _)
  exact Ev.cg (f := fun k => dSO b k (x, i1, h1)) (ev2.bind (Ev.now _)) step
theorem unsealed_sealed (s : ByteArray) (hs : s.size ≤ 8000) : pUnsealed (s ++ strOfNums (four (sumB s))) = (s, true) := by
  have hz : (s ++ strOfNums (four (sumB s))).size = s.size + 4 := by rw [ByteArray.size_append, str_len, four_len]
  have hcut : cutB (s ++ strOfNums (four (sumB s))) = s := by
    apply bl_inj
    rw [cutB_bl, sealed_bl, hz, Nat.add_sub_cancel, ← bl_len s, List.take_left]
  unfold pUnsealed
  rw [hcut, if_pos ⟨by omega, by omega, by rw [sealed_bl, hz, Nat.add_sub_cancel, ← bl_len s, List.drop_left]⟩]
theorem x_ne {b p : Int} (hb : 0 ≤ b ∧ b < 256) (hp : 0 < p ∧ p < 256) : Go.bits .xor .u8 b p ≠ b ∧ 0 ≤ Go.bits .xor .u8 b p ∧ Go.bits .xor .u8 b p < 256 := by
  rw [Go.u8_xor b p hb.1 hb.2 (by omega) hp.2]
  have hlt : b.toNat ^^^ p.toNat < 2 ^ 8 := Nat.xor_lt_two_pow (by omega) (by omega)
  refine ⟨fun h => ?_, by omega, by omega⟩
  have h1 : b.toNat ^^^ p.toNat = b.toNat := by omega
  have h2 : b.toNat ^^^ (b.toNat ^^^ p.toNat) = b.toNat ^^^ b.toNat := by rw [h1]
  rw [← Nat.xor_assoc, Nat.xor_self, Nat.zero_xor] at h2
  omega
theorem FnTurned : laws_FnTurned.Pure := by
  intro b _ hb _
  by_cases hbig : (b.length : Int) > 1048576
  · exact .inl (by unfold laws_big.f; rw [decide_eq_true hbig])
  right
  obtain ⟨s, evS, hs⟩ := dSumOf b (by omega)
  obtain ⟨P, evP, hP12, hP⟩ := dPlaces b (by omega)
  have evT := iSealed s (by omega)
  rw [show pSealed s = (s ++ strOfNums (four (sumB s)), true) from by unfold pSealed; rw [if_neg (by omega)]] at evT
  have hz : (s ++ strOfNums (four (sumB s))).size = s.size + 4 := by rw [ByteArray.size_append, str_len, four_len]
  have evU := iUnsealed (s ++ strOfNums (four (sumB s))) (by omega)
  rw [unsealed_sealed s (by omega)] at evU
  have hbt := sealed_bl s
  generalize s ++ strOfNums (four (sumB s)) = t at evT evU hz hbt
  have r0 := hP _ (List.getElem_mem (show 0 < P.length by omega))
  have r1 := hP _ (List.getElem_mem (show 1 < P.length by omega))
  have q0 : rd P 0 = P[0]'(by omega) := rd_at (i := 0) (by omega)
  have q1 : rd P 1 = P[1]'(by omega) := rd_at (i := 1) (by omega)
  generalize P[0]'(by omega) = p0 at r0 q0
  generalize P[1]'(by omega) = p1 at r1 q1
  have i0 : 0 ≤ p0 % (t.size : Int) := Int.emod_nonneg _ (by omega)
  have i1 : p0 % (t.size : Int) < t.size := Int.emod_lt_of_pos _ (by omega)
  obtain ⟨i, hi⟩ := Int.eq_ofNat_of_zero_le i0
  have hit : i < t.size := by omega
  have hil : i < (bl t).length := by rw [bl_len]; exact hit
  have hcb := bl_byt t _ (List.getElem_mem hil)
  have hc : ((t.data.toList.getD i 0).toNat : Int) = (bl t)[i] := by
    have e : (bl t)[i]? = some (((t.data.toList.getD i 0).toNat : Int)) := by
      unfold bl
      rw [List.getElem?_map, List.getD_eq_getElem?_getD, List.getElem?_eq_getElem (show i < t.data.toList.length from hit)]
      rfl
    rw [List.getElem?_eq_getElem hil] at e
    exact (Option.some.inj e).symm
  obtain ⟨n1, n2, n3⟩ := x_ne (b := (bl t)[i]) (p := 1 + p1 % 255) hcb (by omega)
  have hsplit : bl t = (bl t).take i ++ (bl t)[i] :: (bl t).drop (i + 1) := by rw [List.getElem_cons_drop, List.take_append_drop]
  generalize hv : Go.bits .xor .u8 (bl t)[i] (1 + p1 % 255) = v at n1 n2 n3
  have hset : (bl t).set i v = (bl t).take i ++ v :: (bl t).drop (i + 1) := List.set_eq_take_append_cons_drop .. |>.trans (if_pos hil)
  have hByt : Byt ((bl t).set i v) := by
    rw [hset]
    exact ((bl_byt t).take i).app (((bl_byt t).drop (i + 1)).cons ⟨n2, n3⟩)
  have hno : (pUnsealed (strOfNums ((bl t).set i v))).2 = false := by
    refine turned_no (X := bl s) (P := (bl t).take i) (Q := (bl t).drop (i + 1)) (b := (bl t)[i]) (c := v) (bl_byt s) hcb ⟨n2, n3⟩ (fun h => n1 h.symm) ?_ ?_
    · rw [← hsplit]; exact hbt.symm
    · rw [bl_str hByt, hset]
  have evX := iUnsealed (strOfNums ((bl t).set i v)) (by rw [str_len, List.length_set, bl_len]; omega)
  have hX : pUnsealed (strOfNums ((bl t).set i v)) = (⟨#[]⟩, false) := by
    unfold pUnsealed at hno ⊢
    split
    · rename_i h; rw [if_pos h] at hno; cases hno
    · rfl
  rw [hX] at evX
  have evQ := iSumOf s (by omega)
  have evM := impl_sm (sumB s) ⟨#[120]⟩ (by decide) (sumB_u32 s)
  have hxx : (s ++ (⟨#[120]⟩ : ByteArray)).size = s.size + 1 := by rw [ByteArray.size_append]; rfl
  have evN := iSumOf (s ++ ⟨#[120]⟩) (by omega)
  have hsum : sumB (s ++ ⟨#[120]⟩) = crcL (sumB s) (bl ⟨#[120]⟩) := by unfold sumB; rw [bl_app, crcL_app]
  rw [hsum] at evN
  obtain ⟨k1, h1⟩ := evS
  obtain ⟨k2, h2⟩ := evP
  obtain ⟨k3, h3⟩ := evT
  obtain ⟨k4, h4⟩ := evU
  obtain ⟨k5, h5⟩ := evX
  obtain ⟨k6, h6⟩ := evQ
  obtain ⟨k7, h7⟩ := evM
  obtain ⟨k8, h8⟩ := evN
  refine ⟨k1 + k2 + k3 + k4 + k5 + k6 + k7 + k8, s, t, P, p0, p1, (bl t)[i], v, sumB s, crcL (sumB s) (bl ⟨#[120]⟩), i, (bl t).set i v, ?_, h1 _ (by omega), h2 _ (by omega), h3 _ (by omega), h4 _ (by omega), hz, by omega, hP12, q0, q1, r0, r1, hi, hit, hc, hcb, hv, ⟨n2, n3⟩, ?_, fun j hj => ?_, h5 _ (by omega), h6 _ (by omega), h7 _ (by omega), h8 _ (by omega)⟩
  · unfold laws_big.f; rw [decide_eq_false hbig]
  · rw [List.length_set, bl_len]
  · rw [List.getD_eq_getElem?_getD, List.getElem?_set]
    by_cases e : j = i
    · subst e
      rw [if_pos rfl, if_pos hil, if_pos rfl]; rfl
    · rw [if_neg (fun h => e h.symm), if_neg e]
      unfold bl
      rw [List.getElem?_map, List.getD_eq_getElem?_getD, List.getElem?_eq_getElem (by exact hj)]
      rfl

end Go.Proofs.Ytfmemcffbfahhaa.Pure
