/- Drawn items that are cut in groups are all of them, in order, none of the groups empty, each that has more than one small enough for a page, whatever the bytes that are drawn from. -/
import Derived.Test.YtfmemcffbfahhaaQFnCutsx7
import Derived.Laws.BitsAllLaws
namespace Go.Proofs.Ytfmemcffbfahhaa.Pure
open Go.RowKit Go.Proofs.Ytfmemcffbfahhaa.QFnCuts Go.Proofs.YtfmemcffbfahhaaW.PrintWords Go.Proofs.YtfmemcffbfahhaaW.PrintLast
set_option linter.unusedVariables false
set_option linter.unusedSimpArgs false
set_option maxHeartbeats 4000000

theorem wid {n : Int} (h0 : -9223372036854775808 ≤ n) (h1 : n < 9223372036854775808) : wrap64 n = n := by unfold wrap64; omega
theorem _root_.Go.Proofs.YtfmemcffbfahhaaW.PrintWords.Ev.ofEq {α : Type} {g : Nat → Option α} {r q : α} (h : Ev g r) (e : r = q) : Ev g q := e ▸ h
theorem _root_.Go.Proofs.YtfmemcffbfahhaaW.PrintWords.Ev.same {α : Type} {o : Option α} {r : α} (h : o = some r) : Ev (fun _ => o) r := ⟨0, fun _ _ => h⟩
theorem _root_.Go.Proofs.YtfmemcffbfahhaaW.PrintWords.Ev.to {α : Type} {g f : Nat → Option α} {r : α} (k : Ev f r) (h : ∀ k, g (k + 1) = f k) : Ev g r := Ev.step h k
theorem _root_.Go.Proofs.YtfmemcffbfahhaaW.PrintWords.Ev.cg {α : Type} {g f : Nat → Option α} {r : α} (k : Ev f r) (h : ∀ k, g k = f k) : Ev g r := Ev.congr h k
theorem _root_.Go.Proofs.YtfmemcffbfahhaaW.PrintWords.Ev.ifp {α : Type} {c : Prop} [Decidable c] {g f : Nat → Option α} {r : α} (h : c) (e : Ev g r) : Ev (fun k => if c then g k else f k) r := by simp only [if_pos h]; exact e
theorem _root_.Go.Proofs.YtfmemcffbfahhaaW.PrintWords.Ev.ifn {α : Type} {c : Prop} [Decidable c] {g f : Nat → Option α} {r : α} (h : ¬ c) (e : Ev f r) : Ev (fun k => if c then g k else f k) r := by simp only [if_neg h]; exact e
/-- The bytes of a string, as numbers. -/
def bl (s : ByteArray) : List Int := s.data.toList.map fun b => (b.toNat : Int)
theorem bl_len (s : ByteArray) : (bl s).length = s.size := by unfold bl; rw [List.length_map]; rfl
def Byt (xs : List Int) : Prop := ∀ x ∈ xs, 0 ≤ x ∧ x < 256
theorem Byt.nil : Byt [] := fun _ h => by simp at h
theorem Byt.cons {x : Int} {xs : List Int} (h : 0 ≤ x ∧ x < 256) (h' : Byt xs) : Byt (x :: xs) := fun y hy => by
  rcases List.mem_cons.1 hy with rfl | hy
  · exact h
  · exact h' y hy
theorem Byt.app {xs ys : List Int} (h : Byt xs) (h' : Byt ys) : Byt (xs ++ ys) := fun y hy => by
  rcases List.mem_append.1 hy with hy | hy
  · exact h y hy
  · exact h' y hy
theorem Byt.left {xs ys : List Int} (h : Byt (xs ++ ys)) : Byt xs := fun y hy => h y (List.mem_append_left _ hy)
theorem Byt.right {xs ys : List Int} (h : Byt (xs ++ ys)) : Byt ys := fun y hy => h y (List.mem_append_right _ hy)
theorem Byt.tail {x : Int} {xs : List Int} (h : Byt (x :: xs)) : Byt xs := fun y hy => h y (List.mem_cons_of_mem _ hy)
theorem Byt.head {x : Int} {xs : List Int} (h : Byt (x :: xs)) : 0 ≤ x ∧ x < 256 := h x (List.mem_cons_self ..)
theorem Byt.drop {xs : List Int} (h : Byt xs) (n : Nat) : Byt (xs.drop n) := fun y hy => h y (List.mem_of_mem_drop hy)
theorem Byt.take {xs : List Int} (h : Byt xs) (n : Nat) : Byt (xs.take n) := fun y hy => h y (List.mem_of_mem_take hy)
theorem bl_byt (s : ByteArray) : Byt (bl s) := fun x hx => by
  obtain ⟨b, _, rfl⟩ := List.mem_map.1 hx
  have := b.toNat_lt
  omega
theorem u8_back (b : UInt8) : UInt8.ofNat ((b.toNat : Int)).toNat = b := by simp
theorem bl_str {xs : List Int} (h : Byt xs) : bl (strOfNums xs) = xs := by
  unfold bl
  rw [strOfNums_data, List.map_map]
  conv => rhs; rw [← List.map_id xs]
  apply List.map_congr_left
  intro x hx
  have := h x hx
  simp only [Function.comp, id]
  obtain ⟨n, rfl⟩ := Int.eq_ofNat_of_zero_le this.1
  simp
  omega
theorem str_bl (s : ByteArray) : strOfNums (bl s) = s := by
  unfold strOfNums bl
  rw [List.map_map]
  have : ((fun n : Int => UInt8.ofNat n.toNat) ∘ fun b : UInt8 => (b.toNat : Int)) = id := by
    funext b
    simp
  rw [this, List.map_id]
theorem bl_inj {a b : ByteArray} (h : bl a = bl b) : a = b := by rw [← str_bl a, ← str_bl b, h]
theorem bt_bl (s : ByteArray) (i : Int) : bt s i = (bl s).getD i.toNat 0 := by
  unfold bt
  split
  · rename_i h
    have hl : i.toNat < s.data.toList.length := h
    simp only [bl, List.getD_eq_getElem?_getD, List.getElem?_map, List.getElem?_eq_getElem hl, Option.map_some, Option.getD_some]
    rfl
  · rename_i h
    rw [List.getD_eq_getElem?_getD, List.getElem?_eq_none (by rw [bl_len]; omega)]
    rfl
theorem bl_app (a b : ByteArray) : bl (a ++ b) = bl a ++ bl b := by
  unfold bl
  rw [ByteArray.data_append, Array.toList_append, List.map_append]
theorem bl_ext (a : ByteArray) (i j : Nat) : bl (a.extract i j) = ((bl a).take j).drop i := by
  unfold bl
  rw [ByteArray.data_extract, Array.toList_extract, List.extract_eq_take_drop, List.map_take, List.map_drop, List.drop_take]
theorem bl_emp : bl (⟨#[]⟩ : ByteArray) = [] := rfl
theorem bl_cons {s : ByteArray} {i : Nat} (h : i < s.size) : (bl s).drop i = bt s (i : Int) :: (bl s).drop (i + 1) := by
  have hl : i < (bl s).length := by rw [bl_len]; exact h
  rw [List.drop_eq_getElem_cons hl, bt_bl, List.getD_eq_getElem?_getD, Int.toNat_natCast, List.getElem?_eq_getElem hl]
  rfl
theorem bl_end {s : ByteArray} {i : Nat} (h : s.size ≤ i) : (bl s).drop i = [] := List.drop_of_length_le (by rw [bl_len]; exact h)
theorem tl_inj {a b : ByteArray} : a.toList = b.toList ↔ a = b := by
  constructor
  · intro h
    rw [ByteArray.toList_eq, ByteArray.toList_eq] at h
    apply ByteArray.ext
    exact Array.toList_inj.1 h
  · rintro rfl; rfl
theorem tl_bl {a b : ByteArray} : a.toList = b.toList ↔ bl a = bl b := tl_inj.trans ⟨fun h => h ▸ rfl, bl_inj⟩
theorem tdiv_pos {a b : Int} (h : 0 ≤ a) : Int.tdiv a b = a / b := Int.tdiv_eq_ediv_of_nonneg h
theorem tmod_pos {a b : Int} (h : 0 ≤ a) : Int.tmod a b = a % b := Int.tmod_eq_emod_of_nonneg h
theorem bne_rfl_bool (b : Bool) : (b != b) = false := by cases b <;> rfl
theorem wf_u32 {n : Int} (h : (Lit.int .u32 n).wf = true) : 0 ≤ n ∧ n < 4294967296 := by
  have h1 : IntKind.u32.min = 0 := by decide +kernel
  have h2 : IntKind.u32.max = 4294967295 := by decide +kernel
  simp only [Lit.wf, h1, h2, Bool.and_eq_true, decide_eq_true_eq] at h
  omega
theorem wf_i64 {n : Int} (h : (Lit.int .i64 n).wf = true) : -9223372036854775808 ≤ n ∧ n < 9223372036854775808 := by
  have h1 : IntKind.i64.min = -9223372036854775808 := by decide +kernel
  have h2 : IntKind.i64.max = 9223372036854775807 := by decide +kernel
  simp only [Lit.wf, h1, h2, Bool.and_eq_true, decide_eq_true_eq] at h
  omega
theorem Byt.one {x : Int} (h : 0 ≤ x ∧ x < 256) : Byt [x] := Byt.nil.cons h
theorem bl_size (s : ByteArray) : s.size = (bl s).length := (bl_len s).symm
theorem str_len (xs : List Int) : (strOfNums xs).size = xs.length := strOfNums_size xs

/-! Numbers in bytes -/
def varB (n : Nat) : List Int := if h : n > 127 then (((n % 128 + 128 : Nat) : Int)) :: varB (n / 128) else [(n : Int)]
termination_by n
decreasing_by omega
theorem varB_big {n : Nat} (h : n > 127) : varB n = (((n % 128 + 128 : Nat) : Int)) :: varB (n / 128) := by rw [varB, dif_pos h]
theorem varB_small {n : Nat} (h : ¬ n > 127) : varB n = [(n : Int)] := by rw [varB, dif_neg h]
theorem varB_byt (n : Nat) : Byt (varB n) := by
  induction n using Nat.strongRecOn with
  | _ n ih =>
    by_cases h : n > 127
    · rw [varB_big h]; exact (ih _ (by omega)).cons ⟨by omega, by omega⟩
    · rw [varB_small h]; exact Byt.one ⟨by omega, by omega⟩
theorem varB_pos (n : Nat) : 1 ≤ (varB n).length := by
  by_cases h : n > 127
  · rw [varB_big h]; simp
  · rw [varB_small h]; simp
theorem varB_len (n : Nat) : (varB n).length ≤ n + 1 := by
  induction n using Nat.strongRecOn with
  | _ n ih =>
    by_cases h : n > 127
    · rw [varB_big h]; have := ih (n / 128) (by omega); simp only [List.length_cons]; omega
    · rw [varB_small h]; simp
theorem varB_len1 {n : Nat} (h : n < 128) : (varB n).length = 1 := by rw [varB_small (by omega)]; rfl
theorem varB_len2 {n : Nat} (h : n < 16384) : (varB n).length ≤ 2 := by
  by_cases h1 : n > 127
  · rw [varB_big h1, List.length_cons, varB_len1 (by omega)]; omega
  · rw [varB_small h1]; simp
theorem varB_len5 {n : Nat} (h : n ≤ 1000000000) : (varB n).length ≤ 5 := by
  by_cases h1 : n > 127
  · rw [varB_big h1, List.length_cons]
    by_cases h2 : n / 128 > 127
    · rw [varB_big h2, List.length_cons]
      by_cases h3 : n / 128 / 128 > 127
      · rw [varB_big h3, List.length_cons]
        have := varB_len2 (n := n / 128 / 128 / 128) (by omega)
        omega
      · rw [varB_small h3]; simp
    · rw [varB_small h2]; simp
  · rw [varB_small h1]; simp
/-- The number that bytes tell, the first the lowest. -/
def dec : List Int → Int
  | [] => 0
  | c :: l => c % 128 + 128 * dec l
theorem dec_nonneg : ∀ l : List Int, 0 ≤ dec l
  | [] => by simp [dec]
  | c :: l => by have := dec_nonneg l; simp only [dec]; omega
theorem dec_snoc : ∀ (l : List Int) (c : Int), dec (l ++ [c]) = dec l + c % 128 * 128 ^ l.length
  | [], c => by simp [dec]
  | a :: l, c => by
    have := dec_snoc l c
    simp only [List.cons_append, dec, this, List.length_cons, Int.pow_succ]
    rw [Int.mul_add]
    have : 128 * (c % 128 * 128 ^ l.length) = c % 128 * (128 ^ l.length * 128) := by rw [Int.mul_comm 128, Int.mul_assoc]
    omega
/-- Bytes above 127, and one more. -/
def Hi (l : List Int) : Prop := ∀ x ∈ l, 128 ≤ x ∧ x < 256
theorem dec_pos : ∀ (l : List Int) (c : Int), 0 < c → c < 128 → 1 ≤ dec (l ++ [c])
  | [], c, h, h' => by simp only [List.nil_append, dec]; omega
  | a :: l, c, h, h' => by have := dec_pos l c h h'; simp only [List.cons_append, dec]; omega
theorem varB_dec : ∀ (l : List Int) (c : Int), Hi l → 0 ≤ c → c < 128 → (l = [] ∨ c ≠ 0) → varB (dec (l ++ [c])).toNat = l ++ [c]
  | [], c, _, h, h', _ => by
    simp only [List.nil_append, dec]
    rw [varB_small (by omega)]
    congr 1
    omega
  | a :: l, c, hl, h, h', hc => by
    have ha := hl a (List.mem_cons_self ..)
    have hp := dec_pos l c (by rcases hc with h | h <;> simp_all <;> omega) h'
    have ih := varB_dec l c (fun x hx => hl x (List.mem_cons_of_mem _ hx)) h h' (by rcases hc with h | h <;> simp_all)
    simp only [List.cons_append, dec]
    rw [varB_big (by omega)]
    have e : (a % 128 + 128 * dec (l ++ [c])).toNat / 128 = (dec (l ++ [c])).toNat := by omega
    rw [e, ih]
    congr 1
    omega
theorem varB_last (n : Nat) : ∃ l c, varB n = l ++ [c] ∧ Hi l ∧ 0 ≤ c ∧ c < 128 ∧ (l = [] ∨ c ≠ 0) ∧ dec (l ++ [c]) = n := by
  induction n using Nat.strongRecOn with
  | _ n ih =>
    by_cases h : n > 127
    · obtain ⟨l, c, e, hl, h0, h1, hc, hd⟩ := ih (n / 128) (by omega)
      refine ⟨((n % 128 + 128 : Nat) : Int) :: l, c, by rw [varB_big h, e]; rfl, fun x hx => ?_, h0, h1, Or.inr ?_, ?_⟩
      · rcases List.mem_cons.1 hx with rfl | hx
        · omega
        · exact hl x hx
      · rintro rfl
        have : l = [] := by simpa using hc
        subst this
        simp [dec] at hd
        omega
      · simp only [List.cons_append, dec, hd]; omega
    · exact ⟨[], n, by rw [varB_small h]; rfl, fun _ hx => by simp at hx, by omega, by omega, .inl rfl, by simp only [List.nil_append, dec]; omega⟩
/-- What is read off bytes: the number, and how many bytes it took. -/
def rvGo : Nat → Int → Int → Nat → List Int → Option (Int × Nat)
  | 0, _, _, _, _ => none
  | _ + 1, _, _, _, [] => none
  | f + 1, n, sc, c, b :: l => if b < 128 then (if (b = 0 ∧ 0 < c) ∨ n + b % 128 * sc > 1000000000 then none else some (n + b % 128 * sc, c + 1)) else rvGo f (n + b % 128 * sc) (sc * 128) (c + 1) l
def rv (l : List Int) : Option (Int × Nat) := rvGo 5 0 1 0 l
theorem rvGo_some : ∀ (f : Nat) (P l : List Int), P.length + f = 5 → Byt l → Hi P → ∀ n c, rvGo f (dec P) (128 ^ P.length) P.length l = some (n, c) →
    ∃ rest, P ++ l = varB n.toNat ++ rest ∧ c = (varB n.toNat).length ∧ 0 ≤ n ∧ n ≤ 1000000000
  | 0, P, l, _, _, _, n, c, h => by simp [rvGo] at h
  | f + 1, P, [], _, _, _, n, c, h => by simp [rvGo] at h
  | f + 1, P, b :: l, hf, hb, hP, n, c, h => by
    have hbb := hb.head
    simp only [rvGo] at h
    by_cases h1 : b < 128
    · rw [if_pos h1] at h
      split at h
      · cases h
      · rename_i h2
        simp only [Option.some.injEq, Prod.mk.injEq] at h
        obtain ⟨rfl, rfl⟩ := h
        have hd := dec_snoc P b
        have hv := varB_dec P b hP hbb.1 h1 (by
          rcases P with _ | ⟨a, P⟩
          · exact .inl rfl
          · refine .inr fun e => h2 (.inl ⟨e, by simp⟩))
        rw [hd] at hv
        have hnn := dec_nonneg (P ++ [b])
        rw [hd] at hnn
        refine ⟨l, by rw [hv]; simp, by rw [hv]; simp, hnn, by omega⟩
    · rw [if_neg h1] at h
      have := rvGo_some f (P ++ [b]) l (by simp; omega) hb.tail (fun x hx => by
        rcases List.mem_append.1 hx with hx | hx
        · exact hP x hx
        · simp at hx; subst hx; omega) n c (by rw [dec_snoc, List.length_append, Int.pow_add]; simpa using h)
      obtain ⟨rest, e, r⟩ := this
      exact ⟨rest, by rw [← e]; simp, r⟩
theorem rvGo_hi : ∀ (Q : List Int) (f : Nat) (P l : List Int), Hi Q → rvGo (f + Q.length) (dec P) (128 ^ P.length) P.length (Q ++ l) = rvGo f (dec (P ++ Q)) (128 ^ (P ++ Q).length) (P ++ Q).length l
  | [], f, P, l, _ => by simp
  | b :: Q, f, P, l, h => by
    have hb := h b (List.mem_cons_self ..)
    have := rvGo_hi Q f (P ++ [b]) l (fun x hx => h x (List.mem_cons_of_mem _ hx))
    rw [show f + (b :: Q).length = (f + Q.length) + 1 by simp; omega, List.cons_append]
    simp only [rvGo]
    rw [if_neg (by omega)]
    rw [dec_snoc, List.length_append, Int.pow_add] at this
    simp only [List.append_assoc, List.singleton_append, List.length_cons, List.length_nil] at this
    rw [← this]
    simp
theorem rv_var (n : Nat) (h : n ≤ 1000000000) (rest : List Int) : rv (varB n ++ rest) = some ((n : Int), (varB n).length) := by
  obtain ⟨l, c, e, hl, h0, h1, hc, hd⟩ := varB_last n
  have h5 := varB_len5 h
  rw [e] at h5
  have hlen : l.length ≤ 4 := by simpa using h5
  unfold rv
  have := rvGo_hi l (5 - l.length) [] ([c] ++ rest) hl
  simp only [dec, List.nil_append, List.length_nil] at this
  rw [show 5 - l.length + l.length = 5 by omega] at this
  rw [e, List.append_assoc]
  refine Eq.trans this ?_
  obtain ⟨f, hf⟩ : ∃ f, 5 - l.length = f + 1 := ⟨4 - l.length, by omega⟩
  rw [hf, List.singleton_append]
  simp only [rvGo]
  rw [if_pos h1, if_neg, ← dec_snoc, hd]
  · simp
  · rintro (⟨h2, h3⟩ | h2)
    · rcases hc with rfl | hc
      · simp at h3
      · exact hc h2
    · rw [← dec_snoc, hd] at h2
      omega
theorem rv_some {l : List Int} (hl : Byt l) {n : Int} {c : Nat} (h : rv l = some (n, c)) : ∃ rest, l = varB n.toNat ++ rest ∧ c = (varB n.toNat).length ∧ 0 ≤ n ∧ n ≤ 1000000000 := by
  have := rvGo_some 5 [] l rfl hl (fun _ hx => by simp at hx) n c h
  simpa using this
theorem varB_dec_iff (P : List Int) (b : Int) (hP : Hi P) (h0 : 0 ≤ b) (h1 : b < 128) : varB (dec (P ++ [b])).toNat = P ++ [b] ↔ ¬ (b = 0 ∧ 0 < P.length) := by
  constructor
  · rintro h ⟨rfl, hp⟩
    obtain ⟨l, c, e, _, _, _, hc, _⟩ := varB_last (dec (P ++ [0])).toNat
    rw [h] at e
    obtain ⟨e1, e2⟩ := List.append_inj' e rfl
    subst e1
    simp only [List.cons.injEq, and_true] at e2
    rcases hc with hc | hc
    · rw [hc] at hp; simp at hp
    · exact hc e2.symm
  · intro h
    refine varB_dec P b hP h0 h1 ?_
    rcases P with _ | ⟨a, P⟩
    · exact .inl rfl
    · exact .inr fun e => h ⟨e, by simp⟩
theorem dec_lt : ∀ l : List Int, dec l < 128 ^ l.length
  | [] => by simp [dec]
  | c :: l => by
    have := dec_lt l
    simp only [dec, List.length_cons, Int.pow_succ]
    omega
theorem pow128 {c : Nat} (h : c ≤ 4) : 1 ≤ (128 : Int) ^ c ∧ (128 : Int) ^ c ≤ 268435456 := by
  rcases (by omega : c = 0 ∨ c = 1 ∨ c = 2 ∨ c = 3 ∨ c = 4) with rfl | rfl | rfl | rfl | rfl <;> decide
def rvRes (at_ : Int) : Option (Int × Nat) → Int × Int × Bool
  | some (n, c) => (n, at_ + c, true)
  | none => (0, 0, false)
def pReadVar (s : ByteArray) (a : Int) : Int × Int × Bool := if 0 ≤ a ∧ a ≤ s.size then rvRes a (rv ((bl s).drop a.toNat)) else (0, 0, false)

theorem i_in (a b c : Int) : impl_in.f a b c = some (decide (b ≤ a ∧ a ≤ c)) := by
  unfold impl_in.f
  by_cases h : a ≥ b
  · rw [if_pos h]; simp [show b ≤ a from h]
  · rw [if_neg h]; simp [show ¬ b ≤ a from h]
theorem i_in_t {a b c : Int} (h : b ≤ a ∧ a ≤ c) : impl_in.f a b c = some true := by rw [i_in, decide_eq_true h]
theorem i_in_f {a b c : Int} (h : ¬ (b ≤ a ∧ a ≤ c)) : impl_in.f a b c = some false := by rw [i_in, decide_eq_false h]

theorem iVarText_go (n : Nat) : ∀ acc : List Int, acc.length + n ≤ 100000000000 → Ev (fun k => impl_VarText.l0 k (n : Int) acc) (strOfNums (acc ++ varB n), true) := by
  induction n using Nat.strongRecOn with
  | _ n ih =>
    intro acc hacc
    by_cases h : n > 127
    · have := ih (n / 128) (by omega) (acc ++ [((n % 128 + 128 : Nat) : Int)]) (by simp; omega)
      rw [varB_big h]
      rw [List.append_assoc, List.singleton_append] at this
      refine this.to fun k => ?_
      simp only [impl_VarText.l0]
      rw [if_pos (by omega), if_pos (by omega), tdiv_pos (by omega), tmod_pos (by omega), wid (by omega) (by omega), wid (by omega) (by omega)]
      congr 3
      omega
    · rw [varB_small h]
      refine (Ev.now _).to fun k => ?_
      simp only [impl_VarText.l0]
      rw [if_neg (by omega), if_pos (by omega), show (n : Int) % 256 = n by omega]
def pVarText (n : Int) : ByteArray × Bool := if 0 ≤ n ∧ n ≤ 1000000000 then (strOfNums (varB n.toNat), true) else (⟨#[]⟩, false)
theorem iVarText (n : Int) : Ev (fun k => impl_VarText.f k n) (pVarText n) := by
  unfold impl_VarText.f pVarText
  by_cases h : 0 ≤ n ∧ n ≤ 1000000000
  · rw [i_in_t h, if_pos h]
    simp only [Option.bind_some, if_true]
    have := iVarText_go n.toNat [] (by simp; omega)
    rw [Int.toNat_of_nonneg h.1] at this
    exact this
  · rw [i_in_f h, if_neg h]
    simp only [Option.bind_some, Bool.false_eq_true, if_false]
    exact Ev.now _

def pShort (s : ByteArray) : ByteArray × Bool := if s.size > 8000 then (⟨#[]⟩, false) else (strOfNums (varB s.size) ++ s, true)

theorem iShortText (s : ByteArray) (hs : s.size ≤ 140737488351232) : Ev (fun k => impl_ShortText.f k s) (pShort s) := by
  unfold impl_ShortText.f pShort
  by_cases h : s.size > 8000
  · rw [if_pos h]
    simp only [if_pos (show (s.size : Int) > 8000 by omega)]
    exact Ev.now _
  · rw [if_neg h]
    simp only [if_neg (show ¬ (s.size : Int) > 8000 by omega)]
    have hl := varB_len s.size
    refine (iVarText s.size).bind ?_
    have e : pVarText (s.size : Int) = (strOfNums (varB s.size), true) := by unfold pVarText; rw [if_pos (by omega), Int.toNat_natCast]
    rw [e]
    exact Ev.same (if_pos (by rw [str_len]; omega))

theorem l01Var_go (n : Nat) : ∀ acc : List Int, acc.length + n ≤ 100000000000 → Ev (fun k => spec_l01Var.l0 k (n : Int) acc) (strOfNums (acc ++ varB n)) := by
  induction n using Nat.strongRecOn with
  | _ n ih =>
    intro acc hacc
    by_cases h : n > 127
    · have := ih (n / 128) (by omega) (acc ++ [((n % 128 + 128 : Nat) : Int)]) (by simp; omega)
      rw [varB_big h]
      rw [List.append_assoc, List.singleton_append] at this
      refine this.to fun k => ?_
      simp only [spec_l01Var.l0]
      rw [if_pos (by omega), if_pos (by omega), tdiv_pos (by omega), tmod_pos (by omega), wid (by omega) (by omega), wid (by omega) (by omega)]
      congr 3
      omega
    · rw [varB_small h]
      refine (Ev.now _).to fun k => ?_
      simp only [spec_l01Var.l0]
      rw [if_neg (by omega), if_pos (by omega), show (n : Int) % 256 = n by omega]
theorem l01Var_ev (n : Nat) (h : n ≤ 10000000000) : Ev (fun k => spec_l01Var.f k (n : Int)) (strOfNums (varB n)) := l01Var_go n [] (by simp; omega)

theorem s_in (a b c : Int) : spec_l01In.f a b c = some (decide (b ≤ a ∧ a ≤ c)) := by
  unfold spec_l01In.f
  by_cases h : a ≥ b
  · rw [if_pos h]; simp [show b ≤ a from h]
  · rw [if_neg h]; simp [show ¬ b ≤ a from h]
theorem s_in_t {a b c : Int} (h : b ≤ a ∧ a ≤ c) : spec_l01In.f a b c = some true := by rw [s_in, decide_eq_true h]
theorem s_in_f {a b c : Int} (h : ¬ (b ≤ a ∧ a ≤ c)) : spec_l01In.f a b c = some false := by rw [s_in, decide_eq_false h]

theorem sVarText (n : Int) : Ev (fun k => spec_VarText.f k n) (pVarText n) := by
  unfold spec_VarText.f pVarText
  by_cases h : 0 ≤ n ∧ n ≤ 1000000000
  · rw [s_in_t h, if_pos h]
    simp only [Option.bind_some, if_true]
    have := l01Var_ev n.toNat (by omega)
    rw [Int.toNat_of_nonneg h.1] at this
    exact this.bind (Ev.now _)
  · rw [s_in_f h, if_neg h]
    simp only [Option.bind_some, Bool.false_eq_true, if_false]
    exact Ev.now _

def szI (kind : Int) (x : S61) : Int := if kind = 1 then ((pShort x.f0).1.size : Int) + (pShort x.f1).1.size else if kind = 2 then ((pShort x.f0).1.size : Int) + (pVarText x.f2).1.size else 0
theorem varB_len3 {n : Nat} (h : n ≤ 1000000000) : (varB n).length ≤ 5 := varB_len5 h
theorem pShort_size (s : ByteArray) : (pShort s).1.size ≤ 9000 := by
  unfold pShort
  split
  · exact Nat.zero_le _
  · rw [ByteArray.size_append, str_len]
    have := varB_len5 (n := s.size) (by omega)
    omega
theorem pVar_size (n : Int) : (pVarText n).1.size ≤ 5 := by
  unfold pVarText
  split
  · rename_i h
    rw [str_len]
    exact varB_len5 (by omega)
  · exact Nat.zero_le _
theorem szI_bd (kind : Int) (x : S61) : 0 ≤ szI kind x ∧ szI kind x ≤ 18000 := by
  have h0 := pShort_size x.f0
  have h1 := pShort_size x.f1
  have h2 := pVar_size x.f2
  unfold szI
  split
  · omega
  · split <;> omega
theorem iItemSize (kind : Int) (x : S61) (h0 : x.f0.size ≤ 140737488351232) (h1 : x.f1.size ≤ 140737488351232) : Ev (fun k => impl_ItemSize.f k kind x.f0 x.f1 x.f2) (szI kind x) := by
  unfold impl_ItemSize.f szI
  have b0 := pShort_size x.f0
  have b1 := pShort_size x.f1
  have b2 := pVar_size x.f2
  refine (iShortText x.f0 h0).bind ?_
  by_cases c1 : kind = 1
  · rw [if_pos c1]
    refine Ev.ifp c1 ((iShortText x.f1 h1).bind (Ev.same ?_))
    rw [wid (by omega) (by omega)]
  · rw [if_neg c1]
    refine Ev.ifn c1 ?_
    by_cases c2 : kind = 2
    · rw [if_pos c2]
      refine Ev.ifp c2 ((iVarText x.f2).bind (Ev.same ?_))
      rw [wid (by omega) (by omega)]
    · rw [if_neg c2]
      exact Ev.ifn c2 (Ev.now _)
theorem sShort4 (s : ByteArray) (h : s.size ≤ 8000) : Ev (fun k => spec_l04Short.f k s) (pShort s).1 := by
  unfold spec_l04Short.f
  refine (l01Var_ev s.size (by omega)).bind ?_
  have hl := varB_len5 (n := s.size) (by omega)
  refine Ev.ifp (by rw [str_len]; omega) (Ev.same ?_)
  unfold pShort
  rw [if_neg (by omega)]
theorem sItemSize (kind : Int) (x : S61) (h0 : x.f0.size ≤ 8000) (h1 : x.f1.size ≤ 8000) : Ev (fun k => spec_ItemSize.f k kind x.f0 x.f1 x.f2) (szI kind x) := by
  unfold spec_ItemSize.f szI
  have b0 := pShort_size x.f0
  have b1 := pShort_size x.f1
  have b2 := pVar_size x.f2
  by_cases c1 : kind = 1
  · rw [if_pos c1]
    refine Ev.ifp c1 ((sShort4 x.f0 h0).bind ((sShort4 x.f1 h1).bind (Ev.same ?_)))
    rw [wid (by omega) (by omega)]
  · rw [if_neg c1]
    refine Ev.ifn c1 ?_
    by_cases c2 : kind = 2
    · rw [if_pos c2]
      refine Ev.ifp c2 ((sVarText x.f2).bind ?_)
      by_cases hv : 0 ≤ x.f2 ∧ x.f2 ≤ 1000000000
      · have e : pVarText x.f2 = (strOfNums (varB x.f2.toNat), true) := by unfold pVarText; rw [if_pos hv]
        rw [e] at b2 ⊢
        refine Ev.ifp rfl ((sShort4 x.f0 h0).bind (Ev.same ?_))
        simp only at b2 ⊢
        rw [wid (by omega) (by omega)]
      · have e : pVarText x.f2 = (⟨#[]⟩, false) := by unfold pVarText; rw [if_neg hv]
        rw [e]
        refine Ev.ifn (by decide) ((sShort4 x.f0 h0).bind (Ev.same ?_))
        have : (⟨#[]⟩ : ByteArray).size = 0 := rfl
        simp only [this]
        simp
    · rw [if_neg c2]
      exact Ev.ifn c2 (Ev.now _)

theorem set_take {α : Type} (xs : List α) {i : Nat} (v : α) (h : i < xs.length) : (xs.set i v).take (i + 1) = xs.take i ++ [v] := by
  rw [List.take_succ_eq_append_getElem (by rw [List.length_set]; exact h), List.getElem_set_self, List.take_set_of_le (Nat.le_refl _)]
theorem take_set_drop {α : Type} (xs : List α) {i : Nat} (v : α) (h : i < xs.length) : (xs.set i v).drop (i + 1) = xs.drop (i + 1) := by
  rw [List.drop_set_of_lt (by omega)]
theorem getD_at {α : Type} {xs : List α} {i : Nat} (z : α) (h : i < xs.length) : xs.getD ((i : Int)).toNat z = xs[i] := by
  rw [Int.toNat_natCast, List.getD_eq_getElem?_getD, List.getElem?_eq_getElem h]; rfl
theorem rdOf_at {α : Type} {xs : List α} {i : Nat} (z : α) (h : i < xs.length) : rdOf z xs (i : Int) = xs[i] := getD_at z h
theorem rd_at {xs : List Int} {i : Nat} (h : i < xs.length) : rd xs (i : Int) = xs[i] := getD_at 0 h
theorem toNat_len (n : Nat) : ((n : Int) : Int).toNat = n := Int.toNat_natCast n

theorem ri_Item {xs : List S61} {i : Nat} (h : i < xs.length) : rd_T61 xs (i : Int) = xs[i] := getD_at _ h

/-! Sums -/
def U32 (s : Int) : Prop := 0 ≤ s ∧ s < 4294967296
theorem xor_u32 {a b : Int} (h : U32 a) (h' : U32 b) : U32 (Go.bits .xor .u32 a b) := by
  rw [Go.u32_xor a b h.1 h.2 h'.1 h'.2]
  have : a.toNat ^^^ b.toNat < 2 ^ 32 := Nat.xor_lt_two_pow (by have := h.2; have := h.1; omega) (by have := h'.2; have := h'.1; omega)
  exact ⟨by omega, by omega⟩
theorem and1_u32 {a : Int} (h : U32 a) : Go.bits .and .u32 a 1 = a % 2 := by
  rw [Go.u32_and a 1 h.1 h.2 (by decide) (by decide)]
  have : (1 : Int).toNat = 1 := rfl
  rw [this, Nat.and_one_is_mod]
  have := h.1
  omega
def crcBit (s : Int) : Int := if s % 2 = 1 then Go.bits .xor .u32 (s / 2) 3558460437 else s / 2
def crcN : Nat → Int → Int
  | 0, s => s
  | n + 1, s => crcN n (crcBit s)
def crcByte (s b : Int) : Int := crcN 8 (Go.bits .xor .u32 s b)
def crcL (s : Int) (l : List Int) : Int := l.foldl crcByte s
theorem crcBit_u32 {s : Int} (h : U32 s) : U32 (crcBit s) := by
  unfold crcBit
  have : U32 (s / 2) := ⟨by have := h.1; omega, by have := h.2; omega⟩
  split
  · exact xor_u32 this ⟨by decide, by decide⟩
  · exact this
theorem crcN_u32 : ∀ (n : Nat) {s : Int}, U32 s → U32 (crcN n s)
  | 0, _, h => h
  | n + 1, _, h => crcN_u32 n (crcBit_u32 h)
theorem crcByte_u32 {s b : Int} (h : U32 s) (hb : 0 ≤ b ∧ b < 256) : U32 (crcByte s b) := crcN_u32 8 (xor_u32 h ⟨hb.1, by omega⟩)
theorem crcL_cons (s b : Int) (l : List Int) : crcL s (b :: l) = crcL (crcByte s b) l := by unfold crcL; rw [List.foldl_cons]
theorem crcL_u32 : ∀ (l : List Int) {s : Int}, U32 s → Byt l → U32 (crcL s l)
  | [], _, h, _ => h
  | b :: l, s, h, hb => by rw [crcL_cons]; exact crcL_u32 l (crcByte_u32 h hb.head) hb.tail
theorem crcL_app (s : Int) (l l' : List Int) : crcL s (l ++ l') = crcL (crcL s l) l' := by unfold crcL; rw [List.foldl_append]

theorem u32_top : U32 4294967295 := ⟨by decide, by decide⟩
def sumB (s : ByteArray) : Int := crcL 4294967295 (bl s)
theorem sumB_u32 (s : ByteArray) : U32 (sumB s) := crcL_u32 _ u32_top (bl_byt s)
def four (n : Int) : List Int := [(n / 16777216) % 256, (n / 65536) % 256, (n / 256) % 256, n % 256]
theorem four_byt (n : Int) : Byt (four n) := (((Byt.one ⟨by omega, by omega⟩).cons ⟨by omega, by omega⟩).cons ⟨by omega, by omega⟩).cons ⟨by omega, by omega⟩
theorem four_len (n : Int) : (four n).length = 4 := rfl
def pSealed (s : ByteArray) : ByteArray × Bool := if s.size > 8000 then (⟨#[]⟩, false) else (s ++ strOfNums (four (sumB s)), true)

theorem impl_sm_l1 (s : ByteArray) (z i : Int) {r : Int} : ∀ (n : Nat) (x : Int), n ≤ 8 → U32 x → Ev (fun k => impl_SumMore.l0 k (crcN n x) s z (wrap64 (i + 1))) r → Ev (fun k => impl_SumMore.l1 k x s z i (8 - (n : Int))) r
  | 0, x, _, _, h => h.to fun k => by simp only [impl_SumMore.l1]; rw [if_neg (by omega)]; rfl
  | n + 1, x, hn, hx, h => by
    have h1 := hx.1
    have h2 := hx.2
    refine (impl_sm_l1 s z i n (crcBit x) (by omega) (crcBit_u32 hx) h).to fun k => ?_
    simp only [impl_SumMore.l1]
    rw [if_pos (by omega), and1_u32 hx, wid (by omega) (by omega), show (8 - ((n + 1 : Nat) : Int) + 1) = 8 - (n : Int) by omega]
    unfold crcBit
    by_cases hb : x % 2 = 1
    · rw [if_pos hb, if_pos hb]
    · rw [if_neg hb, if_neg hb]
theorem impl_sm_l0 (s : ByteArray) (hs : s.size ≤ 140737488351232) : ∀ (d i : Nat) (x : Int), i + d = s.size → U32 x → Ev (fun k => impl_SumMore.l0 k x s (s.size : Int) (i : Int)) (crcL x ((bl s).drop i))
  | 0, i, x, hi, _ => by
    refine (Ev.now _).to fun k => ?_
    simp only [impl_SumMore.l0]
    rw [if_neg (by omega), bl_end (by omega)]
    rfl
  | d + 1, i, x, hi, hx => by
    have hb := bt_range s (i : Int)
    rw [bl_cons (by omega), crcL_cons]
    have hx' : U32 (Go.bits .xor .u32 x (bt s i)) := xor_u32 hx ⟨hb.1, by omega⟩
    have := impl_sm_l0 s hs d (i + 1) (crcByte x (bt s i)) (by omega) (crcByte_u32 hx ⟨hb.1, by omega⟩)
    refine (impl_sm_l1 s _ i 8 _ (Nat.le_refl _) hx' (by rw [wid (by omega) (by omega)]; exact this)).to fun k => ?_
    simp only [impl_SumMore.l0]
    rw [if_pos (by omega), if_pos (by omega), if_pos (by omega), show bt s (i : Int) % 4294967296 = bt s i by omega]
    rfl
theorem impl_sm (x : Int) (s : ByteArray) (hs : s.size ≤ 140737488351232) (hx : U32 x) : Ev (fun k => impl_SumMore.f k x s) (crcL x (bl s)) := impl_sm_l0 s hs s.size 0 x (by omega) hx

theorem iSumOf (s : ByteArray) (hs : s.size ≤ 140737488351232) : Ev (fun k => impl_SumOf.f k s) (sumB s) := by
  unfold impl_SumOf.f
  exact (impl_sm _ s hs u32_top).bind (Ev.now _)

theorem iEndsPage (s : ByteArray) (hs : s.size ≤ 140737488351232) : Ev (fun k => impl_EndsPage.f k s) (Int.tmod (sumB s) 4 == 0) := by
  unfold impl_EndsPage.f
  exact (iSumOf s hs).bind (Ev.now _)

/-! Items in groups -/
def endsI (kind : Int) (x : S61) : Bool := decide (kind = 1) && (Int.tmod (sumB x.f0) 4 == 0)
def sumI (kind : Int) (l : List S61) : Int := (l.map (szI kind)).sum
theorem sumI_app (kind : Int) (l m : List S61) : sumI kind (l ++ m) = sumI kind l + sumI kind m := by unfold sumI; rw [List.map_append, List.sum_append]
theorem sumI_one (kind : Int) (x : S61) : sumI kind [x] = szI kind x := by unfold sumI; simp
theorem sumI_bd (kind : Int) : ∀ l : List S61, 0 ≤ sumI kind l ∧ sumI kind l ≤ 18000 * l.length
  | [] => by simp [sumI]
  | x :: l => by
    have h := szI_bd kind x
    have ih := sumI_bd kind l
    have e : sumI kind (x :: l) = szI kind x + sumI kind l := by unfold sumI; simp
    rw [e, List.length_cons]
    omega
def cutP (kind : Int) : List S61 → List S61 → List (List S61)
  | g, [] => if g.length > 0 then [g] else []
  | g, x :: l => if g.length > 0 ∧ sumI kind g + szI kind x > 54 then g :: (if endsI kind x = true then [x] :: cutP kind [] l else cutP kind [x] l) else (if endsI kind x = true then (g ++ [x]) :: cutP kind [] l else cutP kind (g ++ [x]) l)
def okG (kind : Int) (g : List S61) : Prop := g.length > 0 ∧ (g.length > 1 → sumI kind g ≤ 54)
theorem cutP_ok (kind : Int) : ∀ (l g : List S61), (g.length > 1 → sumI kind g ≤ 54) → (cutP kind g l).flatten = g ++ l ∧ ∀ h ∈ cutP kind g l, okG kind h
  | [], g, hg => by
    unfold cutP
    by_cases c : g.length > 0
    · rw [if_pos c]
      exact ⟨by simp, fun h hh => by rw [List.mem_singleton.1 hh]; exact ⟨c, hg⟩⟩
    · rw [if_neg c]
      have : g = [] := List.length_eq_zero_iff.1 (by omega)
      subst this
      exact ⟨rfl, fun h hh => by simp at hh⟩
  | x :: l, g, hg => by
    have i0 := cutP_ok kind l [] (fun h => by simp at h)
    have i1 := cutP_ok kind l [x] (fun h => by simp at h)
    unfold cutP
    by_cases c : g.length > 0 ∧ sumI kind g + szI kind x > 54
    · rw [if_pos c]
      by_cases e : endsI kind x = true
      · rw [if_pos e]
        refine ⟨by simp only [List.flatten_cons]; rw [i0.1]; simp, fun h hh => ?_⟩
        rcases List.mem_cons.1 hh with rfl | hh
        · exact ⟨c.1, hg⟩
        · rcases List.mem_cons.1 hh with rfl | hh
          · exact ⟨by simp, fun h => by simp at h⟩
          · exact i0.2 h hh
      · rw [if_neg e]
        refine ⟨by simp only [List.flatten_cons]; rw [i1.1]; simp, fun h hh => ?_⟩
        rcases List.mem_cons.1 hh with rfl | hh
        · exact ⟨c.1, hg⟩
        · exact i1.2 h hh
    · rw [if_neg c]
      have hx : (g ++ [x]).length > 1 → sumI kind (g ++ [x]) ≤ 54 := fun h => by
        rw [sumI_app, sumI_one]
        have : g.length > 0 := by rw [List.length_append] at h; simp at h; omega
        omega
      by_cases e : endsI kind x = true
      · rw [if_pos e]
        refine ⟨by simp only [List.flatten_cons]; rw [i0.1]; simp, fun h hh => ?_⟩
        rcases List.mem_cons.1 hh with rfl | hh
        · exact ⟨by rw [List.length_append]; simp, hx⟩
        · exact i0.2 h hh
      · rw [if_neg e]
        have i2 := cutP_ok kind l (g ++ [x]) hx
        exact ⟨by rw [i2.1]; simp, i2.2⟩
def OkI (x : S61) : Prop := x.f0.size ≤ 8000 ∧ x.f1.size ≤ 8000
theorem iEnds (kind : Int) (x : S61) (hx : OkI x) {α : Type} {A B : Nat → Option α} {r : α} (hA : endsI kind x = true → Ev A r) (hB : ¬ endsI kind x = true → Ev B r) :
    Ev (fun k => if kind = 1 then (impl_EndsPage.f k x.f0).bind fun t => if t = true then A k else B k else B k) r := by
  by_cases c : kind = 1
  · refine Ev.ifp c ((iEndsPage x.f0 (by have := hx.1; omega)).bind ?_)
    by_cases e : (Int.tmod (sumB x.f0) 4 == 0) = true
    · exact Ev.ifp e (hA (by unfold endsI; rw [decide_eq_true c, e]; rfl))
    · exact Ev.ifn e (hB (by unfold endsI; rw [decide_eq_true c, Bool.true_and]; exact e))
  · exact Ev.ifn c (hB (by unfold endsI; rw [decide_eq_false c]; simp))
theorem iCut_go (kind : Int) (L : List S61) (hL : L.length ≤ 1000000) (hO : ∀ x ∈ L, OkI x) : ∀ (d i : Nat) (out : List (List S61)) (g : List S61), i + d = L.length → out.length + g.length ≤ i →
    Ev (fun k => impl_CutItems.l0 k kind out g (sumI kind g) L (L.length : Int) (i : Int)) (out ++ cutP kind g (L.drop i))
  | 0, i, out, g, hi, ho => by
    rw [List.drop_of_length_le (by omega), cutP]
    by_cases c : g.length > 0
    · rw [if_pos c]
      refine (Ev.now _).to fun k => ?_
      simp only [impl_CutItems.l0]
      rw [if_neg (by omega), if_pos (by omega), if_pos (by omega)]
    · rw [if_neg c, List.append_nil]
      refine (Ev.now _).to fun k => ?_
      simp only [impl_CutItems.l0]
      rw [if_neg (by omega), if_neg (by omega)]
  | d + 1, i, out, g, hi, ho => by
    have hlt : i < L.length := by omega
    have hri := ri_Item hlt
    have hx := hO L[i] (List.getElem_mem hlt)
    have hsz := szI_bd kind L[i]
    have hsg := sumI_bd kind g
    have iz0 := fun o (h : o.length ≤ i + 1) => iCut_go kind L hL hO d (i + 1) o [] (by omega) (by simpa using h)
    have e0 : sumI kind [] = 0 := rfl
    have i1 := fun o (h : o.length ≤ i) => iCut_go kind L hL hO d (i + 1) o [L[i]] (by omega) (by simpa using h)
    have i2 := fun o (h : o.length + g.length ≤ i) => iCut_go kind L hL hO d (i + 1) o (g ++ [L[i]]) (by omega) (by rw [List.length_append]; simp; omega)
    have w : Aside0 (wrap64 ((i : Int) + 1) = ((i + 1 : Nat) : Int)) := ⟨by rw [wid (by omega) (by omega)]; rfl⟩
    have wz : Aside0 (wrap64 (sumI kind g + szI kind L[i]) = sumI kind g + szI kind L[i]) := ⟨wid (by omega) (by omega)⟩
    have w0 : Aside0 (wrap64 (0 + szI kind L[i]) = szI kind L[i]) := ⟨by rw [Int.zero_add]; exact wid (by omega) (by omega)⟩
    rw [e0] at iz0
    rw [sumI_one] at i1
    rw [sumI_app, sumI_one] at i2
    rw [List.drop_eq_getElem_cons hlt, cutP]
    have hj : Ev (fun k => impl_CutItems.j1 k kind out g (sumI kind g) (szI kind L[i]) L (L.length : Int) (i : Int) (decide (g.length > 0 ∧ sumI kind g + szI kind L[i] > 54)) L[i].f0 L[i].f1 L[i].f2) (out ++ (if g.length > 0 ∧ sumI kind g + szI kind L[i] > 54 then g :: (if endsI kind L[i] = true then [L[i]] :: cutP kind [] (L.drop (i + 1)) else cutP kind [L[i]] (L.drop (i + 1))) else (if endsI kind L[i] = true then (g ++ [L[i]]) :: cutP kind [] (L.drop (i + 1)) else cutP kind (g ++ [L[i]]) (L.drop (i + 1))))) := by
      by_cases c : g.length > 0 ∧ sumI kind g + szI kind L[i] > 54
      · rw [if_pos c, decide_eq_true c]
        refine Ev.to (f := fun k => if kind = 1 then (impl_EndsPage.f k L[i].f0).bind fun t => if t = true then impl_CutItems.l0 k kind ((out ++ [g]) ++ [[L[i]]]) [] 0 L (L.length : Int) ((i + 1 : Nat) : Int) else impl_CutItems.l0 k kind (out ++ [g]) [L[i]] (szI kind L[i]) L (L.length : Int) ((i + 1 : Nat) : Int) else impl_CutItems.l0 k kind (out ++ [g]) [L[i]] (szI kind L[i]) L (L.length : Int) ((i + 1 : Nat) : Int)) (iEnds kind L[i] hx (fun e => ?_) (fun e => ?_)) fun k => ?_
        · rw [if_pos e]
          exact Ev.ofEq (iz0 _ (by simp; omega)) (by simp)
        · rw [if_neg e]
          exact Ev.ofEq (i1 _ (by simp; omega)) (by simp)
        · simp only [impl_CutItems.j1, if_true, w.out, w0.out, Option.bind_some, List.nil_append]
          rw [if_pos (by omega), if_pos (by simp)]
          by_cases c1 : kind = 1
          · simp only [if_pos c1]
            congr 1
            funext t
            split
            · rw [if_pos (by simp; omega)]
            · rfl
          · simp only [if_neg c1]
      · rw [if_neg c, decide_eq_false c]
        refine Ev.to (f := fun k => if kind = 1 then (impl_EndsPage.f k L[i].f0).bind fun t => if t = true then impl_CutItems.l0 k kind (out ++ [g ++ [L[i]]]) [] 0 L (L.length : Int) ((i + 1 : Nat) : Int) else impl_CutItems.l0 k kind out (g ++ [L[i]]) (sumI kind g + szI kind L[i]) L (L.length : Int) ((i + 1 : Nat) : Int) else impl_CutItems.l0 k kind out (g ++ [L[i]]) (sumI kind g + szI kind L[i]) L (L.length : Int) ((i + 1 : Nat) : Int)) (iEnds kind L[i] hx (fun e => ?_) (fun e => ?_)) fun k => ?_
        · rw [if_pos e]
          exact Ev.ofEq (iz0 _ (by simp; omega)) (by simp)
        · rw [if_neg e]
          exact Ev.ofEq (i2 _ (by omega)) (by simp)
        · simp only [impl_CutItems.j1, Bool.false_eq_true, if_false, w.out, wz.out, Option.bind_some]
          rw [if_pos (by omega)]
          by_cases c1 : kind = 1
          · simp only [if_pos c1]
            congr 1
            funext t
            split
            · rw [if_pos (by omega)]
            · rfl
          · simp only [if_neg c1]
    refine Ev.to (f := fun k => (impl_ItemSize.f k kind L[i].f0 L[i].f1 L[i].f2).bind fun t => if (g.length : Int) > 0 then impl_CutItems.j1 k kind out g (sumI kind g) t L (L.length : Int) (i : Int) (decide (wrap64 (sumI kind g + t) > 54)) L[i].f0 L[i].f1 L[i].f2 else impl_CutItems.j1 k kind out g (sumI kind g) t L (L.length : Int) (i : Int) false L[i].f0 L[i].f1 L[i].f2) ((iItemSize kind L[i] (by have := hx.1; omega) (by have := hx.2; omega)).bind ?_) fun k => ?_
    · by_cases c : g.length > 0
      · refine Ev.ifp (by omega) ?_
        rw [show decide (g.length > 0 ∧ sumI kind g + szI kind L[i] > 54) = decide (sumI kind g + szI kind L[i] > 54) from by rw [decide_eq_decide]; omega] at hj
        rw [wz.out]
        exact hj
      · refine Ev.ifn (by omega) ?_
        rw [show decide (g.length > 0 ∧ sumI kind g + szI kind L[i] > 54) = false from decide_eq_false (by omega)] at hj
        exact hj
    · simp only [impl_CutItems.l0]
      rw [if_pos (by omega), if_pos (by omega), if_pos (by omega), hri]
theorem iCutItems (kind : Int) (L : List S61) (hL : L.length ≤ 1000000) (hO : ∀ x ∈ L, OkI x) : Ev (fun k => impl_CutItems.f k kind L) (cutP kind [] L) := by
  unfold impl_CutItems.f
  have := iCut_go kind L hL hO L.length 0 [] [] (by omega) (by simp)
  rw [List.drop_zero, List.nil_append] at this
  exact this

/-! Draws: whatever the bytes, a number in its bounds -/
theorem and255 (y : Int) : 0 ≤ Go.bits .and .i64 y 255 ∧ Go.bits .and .i64 y 255 < 256 := by
  have h : (BitVec.ofInt 64 y &&& BitVec.ofInt 64 255).toNat ≤ 255 := by
    rw [BitVec.toNat_and]; exact Nat.le_trans Nat.and_le_right (by decide)
  have e : Go.bits .and .i64 y 255 = IntKind.i64.wrap ((BitVec.ofInt 64 y &&& BitVec.ofInt 64 255).toNat : Nat) := rfl
  rw [e, IntKind.wrap_i64]
  omega
theorem dByte (b : List Int) (i h : Int) (hb : b.length ≤ 140737488351232) (hi : 0 ≤ i) : ∃ x i' h', spec_l01Byte.f b i h = some (x, i', h') ∧ 0 ≤ x ∧ x < 256 ∧ 0 ≤ i' := by
  unfold spec_l01Byte.f
  by_cases h1 : i < (b.length : Int)
  · have w : wrap64 (i + 1) = i + 1 := wid (by omega) (by omega)
    rw [w]; clear w
    rw [if_pos h1, if_pos hi]
    exact ⟨_, _, _, rfl, (and255 _).1, (and255 _).2, by omega⟩
  · rw [if_neg h1]
    exact ⟨_, _, _, rfl, (and255 _).1, (and255 _).2, hi⟩
theorem dBelow (b : List Int) (i h n : Int) (hb : b.length ≤ 140737488351232) (hi : 0 ≤ i) (hn : 0 < n) : ∃ x i' h', spec_l01Below.f b i h n = some (x, i', h') ∧ 0 ≤ x ∧ x < n ∧ 0 ≤ i' := by
  unfold spec_l01Below.f
  rw [if_neg (by omega)]
  obtain ⟨x1, i1, h1, e1, p1, q1, r1⟩ := dByte b i h hb hi
  by_cases hs : n ≤ 256
  · rw [if_pos hs, e1]
    simp only [Option.bind_some]
    rw [if_neg (by omega), tmod_pos p1]
    exact ⟨_, _, _, rfl, Int.emod_nonneg _ (by omega), Int.emod_lt_of_pos _ hn, r1⟩
  · obtain ⟨x2, i2, h2, e2, p2, q2, r2⟩ := dByte b i1 h1 hb r1
    obtain ⟨x3, i3, h3, e3, p3, q3, r3⟩ := dByte b i2 h2 hb r2
    obtain ⟨x4, i4, h4, e4, p4, q4, r4⟩ := dByte b i3 h3 hb r3
    have w1 : wrap64 (x1 * 16777216) = x1 * 16777216 := wid (by omega) (by omega)
    have w2 : wrap64 (x2 * 65536) = x2 * 65536 := wid (by omega) (by omega)
    have w3 : wrap64 (x3 * 256) = x3 * 256 := wid (by omega) (by omega)
    have w4 : wrap64 (x1 * 16777216 + x2 * 65536) = x1 * 16777216 + x2 * 65536 := wid (by omega) (by omega)
    have w5 : wrap64 (x1 * 16777216 + x2 * 65536 + x3 * 256) = x1 * 16777216 + x2 * 65536 + x3 * 256 := wid (by omega) (by omega)
    have w6 : wrap64 (x1 * 16777216 + x2 * 65536 + x3 * 256 + x4) = x1 * 16777216 + x2 * 65536 + x3 * 256 + x4 := wid (by omega) (by omega)
    rw [if_neg hs, e1]
    simp only [Option.bind_some]
    rw [e2]
    simp only [Option.bind_some]
    rw [e3]
    simp only [Option.bind_some]
    rw [e4]
    simp only [Option.bind_some, w1, w2, w3, w4, w5, w6]
    clear w1 w2 w3 w4 w5 w6
    rw [if_neg (by omega), tmod_pos (by omega)]
    exact ⟨_, _, _, rfl, Int.emod_nonneg _ (by omega), Int.emod_lt_of_pos _ hn, r4⟩
theorem dNew_go (b : List Int) (hb : b.length ≤ 140737488351232) : ∀ (d i : Nat) (x : Int), i + d = b.length → ∃ h, Ev (fun k => spec_l01New.l0 k b x (i : Int)) (b, 0, h)
  | 0, i, x, hi => ⟨x, (Ev.now _).to fun k => by simp only [spec_l01New.l0]; rw [if_neg (by omega)]⟩
  | d + 1, i, x, hi => by
    by_cases h4 : (i : Int) < 4000
    · have w : wrap64 ((i : Int) + 1) = ((i + 1 : Nat) : Int) := by rw [wid (by omega) (by omega)]; rfl
      obtain ⟨h, e⟩ := dNew_go b hb d (i + 1) (Go.bits .and .i64 (wrap64 ((wrap64 ((wrap64 (x * 131)) + (wrap64 (rd b (i : Int))))) + 7)) 1073741823) (by omega)
      refine ⟨h, e.to fun k => ?_⟩
      simp only [spec_l01New.l0, w]
      clear w
      rw [if_pos (by omega), if_pos h4, if_pos (by omega)]
    · exact ⟨x, (Ev.now _).to fun k => by simp only [spec_l01New.l0]; rw [if_pos (by omega), if_neg h4]⟩
theorem dNew (b : List Int) (hb : b.length ≤ 140737488351232) : ∃ h, Ev (fun k => spec_l01New.f k b) (b, 0, h) := by
  unfold spec_l01New.f
  exact dNew_go b hb b.length 0 _ (by omega)

theorem dText_go (b : List Int) (hb : b.length ≤ 140737488351232) (n : Int) (hn : n ≤ 5000) : ∀ (d : Nat) (acc : List Int) (j i h : Int), 0 ≤ j → (acc.length : Int) = j → j + d = n → 0 ≤ i → Byt acc →
    ∃ s i' h', Ev (fun k => spec_l01Text.l0 k n acc j b i h) (s, i', h') ∧ (s.size : Int) = n ∧ 0 ≤ i'
  | 0, acc, j, i, h, hj, hl, hd, hi, hB => ⟨strOfNums acc, i, h, (Ev.now _).to fun k => by simp only [spec_l01Text.l0]; rw [if_neg (by omega)], by rw [str_len]; omega, hi⟩
  | d + 1, acc, j, i, h, hj, hl, hd, hi, hB => by
    obtain ⟨x, i1, h1, e, p, q, r⟩ := dByte b i h hb hi
    have w : wrap64 (j + 1) = j + 1 := wid (by omega) (by omega)
    obtain ⟨s, i', h', ev, hs, hi'⟩ := dText_go b hb n hn d (acc ++ [x % 256]) (j + 1) i1 h1 (by omega) (by rw [List.length_append]; simp; omega) (by omega) r (hB.app (Byt.one ⟨by omega, by omega⟩))
    refine ⟨s, i', h', ev.to fun k => ?_, hs, hi'⟩
    simp only [spec_l01Text.l0, w, e, Option.bind_some]
    clear w
    rw [if_pos (by omega), if_pos (by omega)]
theorem dText (b : List Int) (hb : b.length ≤ 140737488351232) (n i h : Int) (h0 : 0 ≤ n) (hn : n ≤ 5000) (hi : 0 ≤ i) : ∃ s i' h', Ev (fun k => spec_l01Text.f k b i h n) (s, i', h') ∧ (s.size : Int) = n ∧ 0 ≤ i' := by
  obtain ⟨s, i', h', ev, hs, hi'⟩ := dText_go b hb n hn n.toNat [] 0 i h (by omega) rfl (by omega) hi Byt.nil
  refine ⟨s, i', h', ?_, hs, hi'⟩
  unfold spec_l01Text.f
  exact Ev.ifn (by omega) (ev.to fun k => by simp only [spec_l01Text.j0])

theorem dLong_go (x : Int) (n : Int) (hn : n ≤ 100000) : ∀ (d : Nat) (acc : List Int) (j : Int), 0 ≤ j → (acc.length : Int) = n → j + d = n →
    ∃ s, Ev (fun k => spec_l01Long.l0 k n x acc j) s ∧ (s.size : Int) = n
  | 0, acc, j, hj, hl, hd => ⟨strOfNums acc, (Ev.now _).to fun k => by simp only [spec_l01Long.l0]; rw [if_neg (by omega)], by rw [str_len]; omega⟩
  | d + 1, acc, j, hj, hl, hd => by
    have w : wrap64 (j + 1) = j + 1 := wid (by omega) (by omega)
    obtain ⟨s, ev, hs⟩ := dLong_go x n hn d (acc.set j.toNat x) (j + 1) (by omega) (by rw [List.length_set]; exact hl) (by omega)
    refine ⟨s, ev.to fun k => ?_, hs⟩
    simp only [spec_l01Long.l0, w]
    clear w
    rw [if_pos (by omega), if_pos hj, if_pos (by omega)]
theorem dLong (n x : Int) (h0 : 0 ≤ n) (hn : n ≤ 100000) : ∃ s, Ev (fun k => spec_l01Long.f k n x) s ∧ (s.size : Int) = n := by
  unfold spec_l01Long.f
  obtain ⟨s, ev, hs⟩ := dLong_go x n hn n.toNat (List.replicate n.toNat 0) 0 (by omega) (by rw [List.length_replicate]; omega) (by omega)
  exact ⟨s, Ev.ifp h0 (Ev.ifp (by omega) ev), hs⟩

theorem dFig (c : Int) (h1 : c < 10) : ∃ d, spec_l01Figure.f c = some d := by
  unfold spec_l01Figure.f
  rw [if_pos h1]
  exact ⟨_, rfl⟩
theorem dDec_go : ∀ (d : Nat) (n : Int) (acc : ByteArray), 0 ≤ n → n < 10 ^ d → n < 1000000000000000 → acc.size + d ≤ 1000000 → ∃ s, Ev (fun k => spec_Decimal.l0 k n false acc) s ∧ s.size ≤ acc.size + d
  | 0, n, acc, h0, h1, hb, ha => ⟨acc, (Ev.now _).to fun k => by
      have : n = 0 := by simp at h1; omega
      simp only [spec_Decimal.l0]; rw [if_pos this]; rfl, by omega⟩
  | d + 1, n, acc, h0, h1, hb, ha => by
    by_cases hn : n = 0
    · exact ⟨acc, (Ev.now _).to fun k => by simp only [spec_Decimal.l0]; rw [if_pos hn]; rfl, by omega⟩
    · have t0 : Int.tmod n 10 = n % 10 := tmod_pos h0
      have t1 : Int.tdiv n 10 = n / 10 := tdiv_pos h0
      obtain ⟨c, hc⟩ := dFig (n % 10) (by omega)
      have hsz : (strOfNums [c]).size = 1 := by rw [str_len]; rfl
      have hap : (strOfNums [c] ++ acc).size = 1 + acc.size := by rw [ByteArray.size_append, hsz]
      rw [Int.pow_succ] at h1
      obtain ⟨s, ev, hs⟩ := dDec_go d (n / 10) (strOfNums [c] ++ acc) (by omega) (by omega) (by omega) (by omega)
      have w : wrap64 (n / 10) = n / 10 := wid (by omega) (by omega)
      refine ⟨s, ev.to fun k => ?_, by omega⟩
      simp only [spec_Decimal.l0, t0, t1, w, hc, Option.bind_some]
      clear w t0 t1
      rw [if_neg hn, if_neg (by omega), if_pos (by omega)]
theorem dDec (n : Int) (h0 : 0 ≤ n) (h1 : n < 10000000000) : ∃ s, Ev (fun k => spec_Decimal.f k n) s ∧ s.size ≤ 11 := by
  unfold spec_Decimal.f
  by_cases hn : n = 0
  · exact ⟨_, Ev.ifp hn (Ev.now _), by decide⟩
  · obtain ⟨s, ev, hs⟩ := dDec_go 10 n ⟨#[]⟩ h0 (by omega) (by omega) (by decide)
    rw [show decide (n < 0) = false from decide_eq_false (by omega)]
    exact ⟨s, Ev.ifn hn ev, by have : (⟨#[]⟩ : ByteArray).size = 0 := rfl; omega⟩

theorem ri_Pair {xs : List S116} {i : Nat} (h : i < xs.length) : rd_T116 xs (i : Int) = xs[i] := getD_at _ h

theorem emp100 : (⟨#[]⟩ : ByteArray).size ≤ 100 := by decide
theorem zz100 : (⟨#[122, 122]⟩ : ByteArray).size ≤ 100 := by decide
def OkP (p : S116) : Prop := p.f0.size ≤ 100 ∧ p.f1.size ≤ 100
theorem dMap_go (b : List Int) (hb : b.length ≤ 140737488351232) (n : Int) (h0 : 0 ≤ n) (hn : n ≤ 40) : ∀ (d : Nat) (acc : List S116) (kk j i h : Int), 0 ≤ j → j + d = n + 1 → (acc.length : Int) = j → 0 ≤ kk → kk ≤ 30 + 5 * j → 0 ≤ i → (∀ p ∈ acc, OkP p) →
    ∃ l i' h', Ev (fun k => spec_l05Map.l0 k n acc kk j b i h) (l, i', h') ∧ l.length ≤ 41 ∧ (∀ p ∈ l, OkP p) ∧ 0 ≤ i'
  | d, acc, kk, j, i, h, hj, hd, hl, hk, hk', hi, hO => by
    have wn : wrap64 (n + 1) = n + 1 := wid (by omega) (by omega)
    obtain ⟨x1, i1, h1, e1, p1, q1, r1⟩ := dBelow b i h (n + 1) hb hi (by omega)
    by_cases hx : j < x1
    · rcases d with _ | d
      · omega
      · obtain ⟨x2, i2, h2, e2, p2, q2, r2⟩ := dBelow b i1 h1 4 hb r1 (by omega)
        have w1 : wrap64 (kk + 1) = kk + 1 := wid (by omega) (by omega)
        have w2 : wrap64 (kk + 1 + x2) = kk + 1 + x2 := wid (by omega) (by omega)
        have w3 : wrap64 (1000 + (kk + 1 + x2)) = 1000 + (kk + 1 + x2) := wid (by omega) (by omega)
        have w4 : wrap64 (j + 1) = j + 1 := wid (by omega) (by omega)
        obtain ⟨s, evs, hs⟩ := dDec (1000 + (kk + 1 + x2)) (by omega) (by omega)
        obtain ⟨x3, i3, h3, e3, p3, q3, r3⟩ := dBelow b i2 h2 9 hb r2 (by omega)
        obtain ⟨s4, i4, h4, ev4, hs4, r4⟩ := dText b hb x3 i3 h3 (by omega) (by omega) r3
        have hks : ((⟨#[107]⟩ : ByteArray) ++ s).size = 1 + s.size := by rw [ByteArray.size_append]; rfl
        obtain ⟨l, i', h', ev, hll, hlO, hi'⟩ := dMap_go b hb n h0 hn d (acc ++ [⟨(⟨#[107]⟩ : ByteArray) ++ s, s4⟩]) (kk + 1 + x2) (j + 1) i4 h4 (by omega) (by omega) (by rw [List.length_append]; simp; omega) (by omega) (by omega) r4 (fun p hp => by
          rcases List.mem_append.1 hp with hp | hp
          · exact hO p hp
          · rw [List.mem_singleton.1 hp]; exact ⟨by simp only [hks]; omega, by simp only; omega⟩)
        refine ⟨l, i', h', Ev.to (f := fun k => (spec_Decimal.f k (1000 + (kk + 1 + x2))).bind fun t => if 1 + t.size ≤ 9223372036854775807 then (some (x3, i3, h3)).bind fun bt => (spec_l01Text.f k b bt.2.1 bt.2.2 bt.1).bind fun u => (if acc.length < 4398046511104 then (spec_l05Map.l0 k n (acc ++ [(⟨(⟨#[107]⟩ : ByteArray) ++ t, u.1⟩ : S116)]) (kk + 1 + x2) (j + 1) b u.2.1 u.2.2) else none) else none) (evs.bind (Ev.ifp (by omega) ?_)) fun k => ?_, hll, hlO, hi'⟩
        · simp only [Option.bind_some]
          exact ev4.bind (Ev.ifp (by omega) ev)
        · simp only [spec_l05Map.l0, wn, w1, w2, w3, w4, e1, e2, e3, Option.bind_some]
          clear wn w1 w2 w3 w4
          rw [if_pos hx]
    · refine ⟨acc, i1, h1, (Ev.now _).to fun k => ?_, by omega, hO, r1⟩
      simp only [spec_l05Map.l0, wn, e1, Option.bind_some]
      clear wn
      rw [if_neg hx]
theorem dMap (b : List Int) (hb : b.length ≤ 140737488351232) (n i h : Int) (h0 : 0 ≤ n) (hn : n ≤ 40) (hi : 0 ≤ i) : ∃ l i' h', Ev (fun k => spec_l05Map.f k b i h n) (l, i', h') ∧ l.length ≤ 41 ∧ (∀ p ∈ l, OkP p) ∧ 0 ≤ i' := by
  obtain ⟨x1, i1, h1, e1, p1, q1, r1⟩ := dBelow b i h 30 hb hi (by omega)
  obtain ⟨l, i', h', ev, r⟩ := dMap_go b hb n h0 hn (n.toNat + 1) [] x1 0 i1 h1 (by omega) (by omega) rfl p1 (by omega) r1 (fun _ h => by simp at h)
  refine ⟨l, i', h', ?_, r⟩
  unfold spec_l05Map.f
  rw [e1]
  exact ev
theorem dSize (b : List Int) (hb : b.length ≤ 140737488351232) : ∃ n, spec_l05Size.f b = some n ∧ 0 ≤ n ∧ n ≤ 40 := by
  unfold spec_l05Size.f
  have w1 : wrap64 ((b.length : Int) / 8) = (b.length : Int) / 8 := wid (by omega) (by omega)
  have w2 : wrap64 (4 + (b.length : Int) / 8) = 4 + (b.length : Int) / 8 := wid (by omega) (by omega)
  rw [w1, w2]
  clear w1 w2
  split
  · exact ⟨_, rfl, by omega, by omega⟩
  · exact ⟨_, rfl, by omega, by omega⟩

theorem dAny_go (b : List Int) (hb : b.length ≤ 140737488351232) : ∀ (d : Nat) (acc : List S116) (j i h : Int), 0 ≤ j → j + d = 121 → (acc.length : Int) = j → 0 ≤ i → (∀ p ∈ acc, OkP p) →
    ∃ l i' h', Ev (fun k => spec_l05AnyMap.l0 k acc j b i h) (l, i', h') ∧ l.length ≤ 121 ∧ (∀ p ∈ l, OkP p) ∧ 0 ≤ i'
  | d, acc, j, i, h, hj, hd, hl, hi, hO => by
    obtain ⟨x1, i1, h1, e1, p1, q1, r1⟩ := dBelow b i h 2 hb hi (by omega)
    have wn : wrap64 (120 + x1) = 120 + x1 := wid (by omega) (by omega)
    by_cases hx : j < 120 + x1
    · rcases d with _ | d
      · omega
      · have w1 : wrap64 (1000 + j) = 1000 + j := wid (by omega) (by omega)
        have w4 : wrap64 (j + 1) = j + 1 := wid (by omega) (by omega)
        obtain ⟨s, evs, hs⟩ := dDec (1000 + j) (by omega) (by omega)
        have hks : ((⟨#[109]⟩ : ByteArray) ++ s).size = 1 + s.size := by rw [ByteArray.size_append]; rfl
        obtain ⟨l, i', h', ev, hll, hlO, hi'⟩ := dAny_go b hb d (acc ++ [⟨(⟨#[109]⟩ : ByteArray) ++ s, ⟨#[]⟩⟩]) (j + 1) i1 h1 (by omega) (by omega) (by rw [List.length_append]; simp; omega) r1 (fun p hp => by
          rcases List.mem_append.1 hp with hp | hp
          · exact hO p hp
          · rw [List.mem_singleton.1 hp]; exact ⟨by simp only [hks]; omega, emp100⟩)
        refine ⟨l, i', h', Ev.to (f := fun k => (spec_Decimal.f k (1000 + j)).bind fun t => if 1 + t.size ≤ 9223372036854775807 then (if acc.length < 4398046511104 then (spec_l05AnyMap.l0 k (acc ++ [(⟨(⟨#[109]⟩ : ByteArray) ++ t, (⟨#[]⟩ : ByteArray)⟩ : S116)]) (j + 1) b i1 h1) else none) else none) (evs.bind (Ev.ifp (by omega) (Ev.ifp (by omega) ev))) fun k => ?_, hll, hlO, hi'⟩
        simp only [spec_l05AnyMap.l0, wn, w1, w4, e1, Option.bind_some]
        clear wn w1 w4
        rw [if_pos hx]
    · refine ⟨acc, i1, h1, (Ev.now _).to fun k => ?_, by omega, hO, r1⟩
      simp only [spec_l05AnyMap.l0, wn, e1, Option.bind_some]
      clear wn
      rw [if_neg hx]
theorem dPick (b : List Int) (hb : b.length ≤ 140737488351232) (i h : Int) (hi : 0 ≤ i) (l : List ByteArray) (hl : 0 < l.length) : ∃ s i' h', spec_l01Pick.f b i h l = some (s, i', h') ∧ s ∈ l ∧ 0 ≤ i' := by
  unfold spec_l01Pick.f
  obtain ⟨x1, i1, h1, e1, p1, q1, r1⟩ := dBelow b i h (l.length : Int) hb hi (by omega)
  rw [e1]
  simp only [Option.bind_some]
  rw [if_pos p1, if_pos q1]
  refine ⟨_, _, _, rfl, ?_, r1⟩
  have hx : x1.toNat < l.length := by omega
  have := rdOf_at ByteArray.empty hx
  rw [Int.toNat_of_nonneg p1] at this
  rw [this]
  exact List.getElem_mem hx
theorem dAny (b : List Int) (hb : b.length ≤ 140737488351232) (i h : Int) (hi : 0 ≤ i) : ∃ l i' h', Ev (fun k => spec_l05AnyMap.f k b i h b) (l, i', h') ∧ l.length ≤ 121 ∧ (∀ p ∈ l, OkP p) ∧ 0 ≤ i' := by
  obtain ⟨n, en, n0, n1⟩ := dSize b hb
  obtain ⟨l, i1, h1, ev1, hl, hO, r1⟩ := dMap b hb n i h n0 n1 hi
  obtain ⟨x, i2, h2, e2, p2, q2, r2⟩ := dBelow b i1 h1 30 hb r1 (by omega)
  have snoc : ∀ p : S116, OkP p → ∀ q ∈ l ++ [p], OkP q := fun p hp q hq => by
    rcases List.mem_append.1 hq with hq | hq
    · exact hO q hq
    · rw [List.mem_singleton.1 hq]; exact hp
  unfold spec_l05AnyMap.f
  rw [en]
  simp only [Option.bind_some]
  by_cases c0 : x = 0
  · obtain ⟨s, i3, h3, e3, hs, r3⟩ := dPick b hb i2 h2 r2 ([(⟨#[]⟩ : ByteArray), (⟨#[97]⟩ : ByteArray), (⟨#[122, 122, 122, 122, 122, 122, 122, 122]⟩ : ByteArray), (⟨#[122, 122, 122, 122, 122, 122, 122, 122, 122]⟩ : ByteArray)]) (by decide)
    refine ⟨l ++ [⟨s, ⟨#[]⟩⟩], i3, h3, ev1.bind ?_, by rw [List.length_append]; simp; omega, snoc _ ⟨?_, emp100⟩, r3⟩
    · simp only [e2, Option.bind_some]
      refine Ev.ifp c0 ?_
      simp only [e3, Option.bind_some]
      exact Ev.ifp (by omega) (Ev.now _)
    · simp only [List.mem_cons, List.not_mem_nil, or_false] at hs
      rcases hs with rfl | rfl | rfl | rfl <;> decide
  · by_cases c1 : x = 1
    · obtain ⟨y, i3, h3, e3, p3, q3, r3⟩ := dBelow b i2 h2 2 hb r2 (by omega)
      have w : wrap64 (40 + y) = 40 + y := wid (by omega) (by omega)
      obtain ⟨s, evs, hs⟩ := dLong (40 + y) 65 (by omega) (by omega)
      refine ⟨l ++ [⟨⟨#[122, 122]⟩, s⟩], i3, h3, ev1.bind ?_, by rw [List.length_append]; simp; omega, snoc _ ⟨zz100, by simp only; omega⟩, r3⟩
      simp only [e2, Option.bind_some]
      refine Ev.ifn c0 (Ev.ifp c1 ?_)
      simp only [e3, Option.bind_some, w]
      exact evs.bind (Ev.ifp (by omega) (Ev.now _))
    · by_cases c2 : x = 2
      · obtain ⟨m, i3, h3, ev3, hm, hmO, r3⟩ := dAny_go b hb 121 [] 0 i2 h2 (by omega) (by omega) rfl r2 (fun _ h => by simp at h)
        refine ⟨m, i3, h3, ev1.bind ?_, hm, hmO, r3⟩
        simp only [e2, Option.bind_some]
        exact Ev.ifn c0 (Ev.ifn c1 (Ev.ifp c2 ev3))
      · refine ⟨l, i2, h2, ev1.bind ?_, by omega, hO, r2⟩
        simp only [e2, Option.bind_some]
        exact Ev.ifn c0 (Ev.ifn c1 (Ev.ifn c2 (Ev.now _)))

theorem dCut_go (b : List Int) (hb : b.length ≤ 140737488351232) (kind : Int) (P : List S116) (hP : P.length ≤ 121) (hO : ∀ p ∈ P, OkP p) : ∀ (d j : Nat) (acc : List S61) (i h : Int), j + d = P.length → acc.length = j → 0 ≤ i → (∀ x ∈ acc, OkI x) →
    ∃ L, Ev (fun k => spec_DrawCutItems.l0 k acc kind P (j : Int) b i h) (kind, L) ∧ L.length ≤ 200 ∧ ∀ x ∈ L, OkI x
  | 0, j, acc, i, h, hj, hl, hi, hA => by
    obtain ⟨x1, i1, h1, e1, p1, q1, r1⟩ := dBelow b i h 20 hb hi (by omega)
    by_cases c : x1 = 0
    · obtain ⟨s, evs, hs⟩ := dLong 60 65 (by omega) (by omega)
      refine ⟨acc ++ [⟨s, ⟨#[]⟩, 0⟩], Ev.to (f := fun k => (spec_l01Long.f k 60 65).bind fun t => if acc.length < 3518437208883 then some (kind, acc ++ [(⟨t, (⟨#[]⟩ : ByteArray), 0⟩ : S61)]) else none) (evs.bind (Ev.ifp (by omega) (Ev.now _))) fun k => ?_, by rw [List.length_append]; simp; omega, fun x hx => ?_⟩
      · simp only [spec_DrawCutItems.l0, spec_l01Once.f, e1, Option.bind_some]
        rw [if_neg (by omega), if_pos (by simpa using c)]
      · rcases List.mem_append.1 hx with hx | hx
        · exact hA x hx
        · rw [List.mem_singleton.1 hx]
          exact ⟨by simp only; omega, Nat.le_trans emp100 (by decide)⟩
    · refine ⟨acc, (Ev.now _).to fun k => ?_, by omega, hA⟩
      simp only [spec_DrawCutItems.l0, spec_l01Once.f, e1, Option.bind_some]
      rw [if_neg (by omega), if_neg (by simpa using c)]
  | d + 1, j, acc, i, h, hj, hl, hi, hA => by
    have hlt : j < P.length := by omega
    have hri := ri_Pair hlt
    have hx := hO P[j] (List.getElem_mem hlt)
    have w : wrap64 ((j : Int) + 1) = ((j + 1 : Nat) : Int) := by rw [wid (by omega) (by omega)]; rfl
    have snoc : ∀ y : S61, OkI y → ∀ x ∈ acc ++ [y], OkI x := fun y hy x hx => by
      rcases List.mem_append.1 hx with hx | hx
      · exact hA x hx
      · rw [List.mem_singleton.1 hx]; exact hy
    by_cases c : kind = 2
    · obtain ⟨x1, i1, h1, e1, p1, q1, r1⟩ := dBelow b i h 300 hb hi (by omega)
      obtain ⟨L, ev, hL⟩ := dCut_go b hb kind P hP hO d (j + 1) (acc ++ [⟨P[j].f0, ⟨#[]⟩, x1⟩]) i1 h1 (by omega) (by rw [List.length_append]; simp; omega) r1 (snoc _ ⟨by have := hx.1; simp only; omega, Nat.le_trans emp100 (by decide)⟩)
      refine ⟨L, ev.to fun k => ?_, hL⟩
      simp only [spec_DrawCutItems.l0, w, e1, Option.bind_some]
      clear w
      rw [if_pos (by omega), if_pos (by omega), if_pos c, if_pos (by omega), hri]
    · obtain ⟨L, ev, hL⟩ := dCut_go b hb kind P hP hO d (j + 1) (acc ++ [⟨P[j].f0, P[j].f1, 0⟩]) i h (by omega) (by rw [List.length_append]; simp; omega) hi (snoc _ ⟨by have := hx.1; simp only; omega, by have := hx.2; simp only; omega⟩)
      refine ⟨L, ev.to fun k => ?_, hL⟩
      simp only [spec_DrawCutItems.l0, w]
      clear w
      rw [if_pos (by omega), if_pos (by omega), if_neg c, if_pos (by omega), hri]
theorem dCutX (b : List Int) (x1 : Int) (l : List S116) (L : List S61) (i1 h1 i2 h2 : Int) (ev2 : Ev (fun k => spec_l05AnyMap.f k b i1 h1 b) (l, i2, h2)) (ev3 : Ev (fun k => spec_DrawCutItems.l0 k ([] : List S61) x1 l 0 b i2 h2) (x1, L)) : Ev (fun k => (spec_l05AnyMap.f k b i1 h1 b).bind fun bt => spec_DrawCutItems.l0 k ([] : List S61) x1 bt.1 0 b bt.2.1 bt.2.2) (x1, L) := ev2.bind ev3
theorem dCutY (b : List Int) (hb : b.length ≤ 140737488351232) (x1 i1 h1 : Int) (r1 : 0 ≤ i1) : ∃ l i2 h2 L, Ev (fun k => spec_l05AnyMap.f k b i1 h1 b) (l, i2, h2) ∧ Ev (fun k => spec_DrawCutItems.l0 k ([] : List S61) x1 l ((0 : Nat) : Int) b i2 h2) (x1, L) ∧ L.length ≤ 200 ∧ ∀ x ∈ L, OkI x := by
  obtain ⟨l, i2, h2, ev2, hl, hO, r2⟩ := dAny b hb i1 h1 r1
  obtain ⟨L, ev3, hL⟩ := dCut_go b hb x1 l hl hO l.length 0 [] i2 h2 (Nat.zero_add _) rfl r2 (fun _ h => by simp at h)
  exact ⟨l, i2, h2, L, ev2, ev3, hL⟩
theorem dCut1 (b : List Int) (hb : b.length ≤ 140737488351232) (x1 i1 h1 : Int) (r1 : 0 ≤ i1) : ∃ L, Ev (fun k => (spec_l05AnyMap.f k b i1 h1 b).bind fun bt => spec_DrawCutItems.l0 k ([] : List S61) x1 bt.1 0 b bt.2.1 bt.2.2) (x1, L) ∧ L.length ≤ 200 ∧ ∀ x ∈ L, OkI x := by
  obtain ⟨l, i2, h2, L, ev2, ev3, hL⟩ := dCutY b hb x1 i1 h1 r1
  exact ⟨L, dCutX b x1 l L i1 h1 i2 h2 ev2 ev3, hL⟩
def dF (b : List Int) (k : Nat) (bt : Int × Int × Int) : Option (Int × List S61) := (spec_l05AnyMap.f k b bt.2.1 bt.2.2 b).bind fun bt3 => spec_DrawCutItems.l0 k ([] : List S61) bt.1 bt3.1 0 b bt3.2.1 bt3.2.2
-- (step by step: the kernel must not compare what is behind the draw with what the draw gives)
theorem dCut (b : List Int) (hb : b.length ≤ 140737488351232) : ∃ kind L, Ev (fun k => spec_DrawCutItems.f k b) (kind, L) ∧ L.length ≤ 200 ∧ ∀ x ∈ L, OkI x := by
  obtain ⟨h, ev⟩ := dNew b hb
  obtain ⟨x1, i1, h1, e1, p1, q1, r1⟩ := dBelow b 0 h 4 hb (by omega) (by omega)
  obtain ⟨L, ev3, hL⟩ := dCut1 b hb x1 i1 h1 r1
  refine ⟨x1, L, ?_, hL⟩
  unfold spec_DrawCutItems.f
  refine ev.bind (f := fun k bt => (spec_l01Below.f bt.1 bt.2.1 bt.2.2 4).bind fun bt2 => (spec_l05AnyMap.f k bt.1 bt2.2.1 bt2.2.2 b).bind fun bt3 => spec_DrawCutItems.l0 k ([] : List S61) bt2.1 bt3.1 0 bt.1 bt3.2.1 bt3.2.2) ?_
  have step : ∀ k, (spec_l01Below.f b 0 h 4).bind (dF b k) = dF b k (x1, i1, h1) := fun k => (congrArg (fun o => Option.bind o (dF b k)) e1).trans (Option.bind_some _ _)
  exact Ev.cg (f := fun k => dF b k (x1, i1, h1)) ev3 step
theorem lCut_l1 (kind : Int) (L : List S61) (hL : L.length ≤ 200) (hO : ∀ x ∈ L, OkI x) (G : List (List S61)) (gi : Nat) (hgi : gi < G.length) (hG : okG kind G[gi]) (r : Bool) : ∀ (d j at_ : Nat), j + d = G[gi].length → j ≤ at_ → at_ + d ≤ L.length → (L.drop at_).take d = G[gi].drop j → Ev (fun k => laws_FnCuts.l0 k kind L G ((at_ + d : Nat) : Int) (wrap64 ((gi : Int) + 1))) r → Ev (fun k => laws_FnCuts.l1 k kind L G (at_ : Int) (gi : Int) (sumI kind (G[gi].take j)) (j : Int)) r
  | 0, j, at_, hj, hjt, ha, hs, hr => by
    have hrd : rd_L5 G (gi : Int) = G[gi] := getD_at _ hgi
    have htk : G[gi].take j = G[gi] := List.take_of_length_le (by omega)
    rw [htk]
    refine hr.to fun k => ?_
    simp only [laws_FnCuts.l1, hrd]
    have h0 := hG.1
    have h1 := hG.2
    rw [if_pos (by omega), if_pos (by omega), if_neg (by omega), if_neg (by omega)]
    by_cases c : (G[gi].length : Int) > 1
    · have h1 := h1 (by omega)
      rw [if_pos c, if_neg (by omega)]
      rfl
    · rw [if_neg c]
      rfl
  | d + 1, j, at_, hj, hjt, ha, hs, hr => by
    have hrd : rd_L5 G (gi : Int) = G[gi] := getD_at _ hgi
    have hja : j < G[gi].length := by omega
    have hla : at_ < L.length := by omega
    have r1 := ri_Item hja
    have r2 := ri_Item hla
    rw [List.drop_eq_getElem_cons hla, List.take_succ_cons, List.drop_eq_getElem_cons hja] at hs
    obtain ⟨e, hs⟩ := List.cons.inj hs
    have hx := hO L[at_] (List.getElem_mem hla)
    have hsz := szI_bd kind L[at_]
    have hsm := sumI_bd kind (G[gi].take j)
    have hjl : (G[gi].take j).length ≤ 200 := Nat.le_trans (List.length_take_le _ _) (by omega)
    have ih := lCut_l1 kind L hL hO G gi hgi hG r d (j + 1) (at_ + 1) (by omega) (by omega) (by omega) hs (by rw [show at_ + 1 + d = at_ + (d + 1) by omega]; exact hr)
    have wj : wrap64 ((j : Int) + 1) = ((j + 1 : Nat) : Int) := by rw [wid (by omega) (by omega)]; rfl
    have wa : wrap64 ((at_ : Int) + 1) = ((at_ + 1 : Nat) : Int) := by rw [wid (by omega) (by omega)]; rfl
    have ws : wrap64 (sumI kind (G[gi].take j) + szI kind L[at_]) = sumI kind (G[gi].take (j + 1)) := by
      rw [wid (by omega) (by omega), List.take_succ_eq_append_getElem hja, sumI_app, sumI_one, e]
    refine Ev.to (f := fun k => (spec_ItemSize.f k kind L[at_].f0 L[at_].f1 L[at_].f2).bind fun t => laws_FnCuts.l1 k kind L G ((at_ + 1 : Nat) : Int) (gi : Int) (wrap64 (sumI kind (G[gi].take j) + t)) ((j + 1 : Nat) : Int)) ((sItemSize kind L[at_] hx.1 hx.2).bind ?_) fun k => ?_
    · rw [ws]; exact ih
    · simp only [laws_FnCuts.l1, hrd, wj, wa]
      clear wj wa ws ih
      rw [if_pos (by omega), if_pos (by omega), if_pos (by omega), if_neg (by omega), if_pos (by omega), if_pos (by omega), if_pos (by omega), r1, r2, ← e]
      simp
theorem lCut_l0 (kind : Int) (L : List S61) (hL : L.length ≤ 200) (hO : ∀ x ∈ L, OkI x) (G : List (List S61)) (hGl : G.length ≤ 200) (hG : ∀ g ∈ G, okG kind g) : ∀ (d gi at_ : Nat), gi + d = G.length → at_ ≤ L.length → L.drop at_ = (G.drop gi).flatten → Ev (fun k => laws_FnCuts.l0 k kind L G (at_ : Int) (gi : Int)) true
  | 0, gi, at_, hd, ha, hs => by
    rw [List.drop_of_length_le (by omega : G.length ≤ gi)] at hs
    have : L.length ≤ at_ := List.drop_eq_nil_iff.1 hs
    refine (Ev.now _).to fun k => ?_
    simp only [laws_FnCuts.l0]
    rw [if_neg (by omega)]
    have e : (at_ : Int) = (L.length : Int) := by omega
    simp [e]
  | d + 1, gi, at_, hd, ha, hs => by
    have hgi : gi < G.length := by omega
    rw [List.drop_eq_getElem_cons hgi, List.flatten_cons] at hs
    have hlen := congrArg List.length hs
    rw [List.length_drop, List.length_append] at hlen
    have w : wrap64 ((gi : Int) + 1) = ((gi + 1 : Nat) : Int) := by rw [wid (by omega) (by omega)]; rfl
    have ih := lCut_l0 kind L hL hO G hGl hG d (gi + 1) (at_ + G[gi].length) (by omega) (by omega) (by
      rw [← List.drop_drop, hs, List.drop_left])
    rw [← w] at ih
    have h1 := lCut_l1 kind L hL hO G gi hgi (hG _ (List.getElem_mem hgi)) true G[gi].length 0 at_ (by omega) (by omega) (by omega) (by rw [hs, List.take_left]; rfl) ih
    refine h1.to fun k => ?_
    simp only [laws_FnCuts.l0]
    rw [if_pos (by omega)]
    rfl
theorem cutP_len (kind : Int) : ∀ (l g : List S61), (∀ h ∈ cutP kind g l, okG kind h) → (cutP kind g l).length ≤ (cutP kind g l).flatten.length
  | l, g, h => by
    generalize cutP kind g l = G at *
    induction G with
    | nil => simp
    | cons a G ih =>
      have h0 := (h a (List.mem_cons_self ..)).1
      have := ih (fun x hx => h x (List.mem_cons_of_mem _ hx))
      rw [List.flatten_cons, List.length_append, List.length_cons]
      omega
theorem FnCuts : laws_FnCuts.Pure := by
  intro b _ hb _
  refine Ev.rounds (g := fun k => laws_FnCuts.f k b) ?_
  unfold laws_FnCuts.f laws_big.f
  simp only [Option.bind_some]
  by_cases hbig : (b.length : Int) > 1048576
  · exact Ev.ifp (by simpa using hbig) (Ev.now _)
  refine Ev.ifn (by simpa using hbig) ?_
  obtain ⟨kind, L, ev, hL, hO⟩ := dCut b (by omega)
  have hc := cutP_ok kind L [] (fun h => by simp at h)
  rw [List.nil_append] at hc
  have hl := cutP_len kind L [] hc.2
  rw [hc.1] at hl
  refine ev.bind ((iCutItems kind L (by omega) hO).bind ?_)
  exact lCut_l0 kind L hL hO (cutP kind [] L) (by omega) hc.2 _ 0 0 (Nat.zero_add _) (by omega) (by rw [List.drop_zero, List.drop_zero, hc.1])

end Go.Proofs.Ytfmemcffbfahhaa.Pure
