/- The program's ReadShort and the reference's ReadShort return the same text, place and flag, for every text and every place. -/
import Derived.Test.YtjhgcdjpabhifaaPFnExactReadShortx2
import Derived.Laws.BitsAllLaws
namespace Go.Proofs.Ytjhgcdjpabhifaa.Pure
open Go.RowKit Go.Proofs.Ytjhgcdjpabhifaa.PFnExactReadShort Go.Proofs.YtjhgcdjpabhifaaW.PrintWords Go.Proofs.YtjhgcdjpabhifaaW.PrintLast
set_option linter.unusedVariables false
set_option linter.unusedSimpArgs false
set_option maxHeartbeats 4000000

theorem wid {n : Int} (h0 : -9223372036854775808 ≤ n) (h1 : n < 9223372036854775808) : wrap64 n = n := by unfold wrap64; omega
theorem _root_.Go.Proofs.YtjhgcdjpabhifaaW.PrintWords.Ev.ofEq {α : Type} {g : Nat → Option α} {r q : α} (h : Ev g r) (e : r = q) : Ev g q := e ▸ h
theorem _root_.Go.Proofs.YtjhgcdjpabhifaaW.PrintWords.Ev.same {α : Type} {o : Option α} {r : α} (h : o = some r) : Ev (fun _ => o) r := ⟨0, fun _ _ => h⟩
theorem _root_.Go.Proofs.YtjhgcdjpabhifaaW.PrintWords.Ev.to {α : Type} {g f : Nat → Option α} {r : α} (k : Ev f r) (h : ∀ k, g (k + 1) = f k) : Ev g r := Ev.step h k
theorem _root_.Go.Proofs.YtjhgcdjpabhifaaW.PrintWords.Ev.cg {α : Type} {g f : Nat → Option α} {r : α} (k : Ev f r) (h : ∀ k, g k = f k) : Ev g r := Ev.congr h k
/-- The bytes of a string, as numbers. -/
def bl (s : ByteArray) : List Int := s.data.toList.map fun b => (b.toNat : Int)
theorem bl_len (s : ByteArray) : (bl s).length = s.size := by unfold bl; rw [List.length_map]; rfl
def Byt (xs : List Int) : Prop := ∀ x ∈ xs, 0 ≤ x ∧ x < 256
theorem Byt.nil : Byt [] := fun _ h => by simp at h
theorem Byt.cons {x : Int} {xs : List Int} (h : 0 ≤ x ∧ x < 256) (h' : Byt xs) : Byt (x :: xs) := fun y hy => by
  rcases List.mem_cons.1 hy with rfl | hy
  · exact h
  · exact h' y hy
theorem Byt.app {xs ys : List Int} (h : Byt xs) (h' : Byt ys) : Byt (xs ++ ys) := fun y hy => by
  rcases List.mem_append.1 hy with hy | hy
  · exact h y hy
  · exact h' y hy
theorem Byt.left {xs ys : List Int} (h : Byt (xs ++ ys)) : Byt xs := fun y hy => h y (List.mem_append_left _ hy)
theorem Byt.right {xs ys : List Int} (h : Byt (xs ++ ys)) : Byt ys := fun y hy => h y (List.mem_append_right _ hy)
theorem Byt.tail {x : Int} {xs : List Int} (h : Byt (x :: xs)) : Byt xs := fun y hy => h y (List.mem_cons_of_mem _ hy)
theorem Byt.head {x : Int} {xs : List Int} (h : Byt (x :: xs)) : 0 ≤ x ∧ x < 256 := h x (List.mem_cons_self ..)
theorem Byt.drop {xs : List Int} (h : Byt xs) (n : Nat) : Byt (xs.drop n) := fun y hy => h y (List.mem_of_mem_drop hy)
theorem Byt.take {xs : List Int} (h : Byt xs) (n : Nat) : Byt (xs.take n) := fun y hy => h y (List.mem_of_mem_take hy)
theorem bl_byt (s : ByteArray) : Byt (bl s) := fun x hx => by
  obtain ⟨b, _, rfl⟩ := List.mem_map.1 hx
  have := b.toNat_lt
  omega
theorem u8_back (b : UInt8) : UInt8.ofNat ((b.toNat : Int)).toNat = b := by simp
theorem bl_str {xs : List Int} (h : Byt xs) : bl (strOfNums xs) = xs := by
  unfold bl
  rw [strOfNums_data, List.map_map]
  conv => rhs; rw [← List.map_id xs]
  apply List.map_congr_left
  intro x hx
  have := h x hx
  simp only [Function.comp, id]
  obtain ⟨n, rfl⟩ := Int.eq_ofNat_of_zero_le this.1
  simp
  omega
theorem str_bl (s : ByteArray) : strOfNums (bl s) = s := by
  unfold strOfNums bl
  rw [List.map_map]
  have : ((fun n : Int => UInt8.ofNat n.toNat) ∘ fun b : UInt8 => (b.toNat : Int)) = id := by
    funext b
    simp
  rw [this, List.map_id]
theorem bl_inj {a b : ByteArray} (h : bl a = bl b) : a = b := by rw [← str_bl a, ← str_bl b, h]
theorem bt_bl (s : ByteArray) (i : Int) : bt s i = (bl s).getD i.toNat 0 := by
  unfold bt
  split
  · rename_i h
    have hl : i.toNat < s.data.toList.length := h
    simp only [bl, List.getD_eq_getElem?_getD, List.getElem?_map, List.getElem?_eq_getElem hl, Option.map_some, Option.getD_some]
    rfl
  · rename_i h
    rw [List.getD_eq_getElem?_getD, List.getElem?_eq_none (by rw [bl_len]; omega)]
    rfl
theorem bl_app (a b : ByteArray) : bl (a ++ b) = bl a ++ bl b := by
  unfold bl
  rw [ByteArray.data_append, Array.toList_append, List.map_append]
theorem bl_ext (a : ByteArray) (i j : Nat) : bl (a.extract i j) = ((bl a).take j).drop i := by
  unfold bl
  rw [ByteArray.data_extract, Array.toList_extract, List.extract_eq_take_drop, List.map_take, List.map_drop, List.drop_take]
theorem bl_emp : bl (⟨#[]⟩ : ByteArray) = [] := rfl
theorem bl_cons {s : ByteArray} {i : Nat} (h : i < s.size) : (bl s).drop i = bt s (i : Int) :: (bl s).drop (i + 1) := by
  have hl : i < (bl s).length := by rw [bl_len]; exact h
  rw [List.drop_eq_getElem_cons hl, bt_bl, List.getD_eq_getElem?_getD, Int.toNat_natCast, List.getElem?_eq_getElem hl]
  rfl
theorem bl_end {s : ByteArray} {i : Nat} (h : s.size ≤ i) : (bl s).drop i = [] := List.drop_of_length_le (by rw [bl_len]; exact h)
theorem tl_inj {a b : ByteArray} : a.toList = b.toList ↔ a = b := by
  constructor
  · intro h
    rw [ByteArray.toList_eq, ByteArray.toList_eq] at h
    apply ByteArray.ext
    exact Array.toList_inj.1 h
  · rintro rfl; rfl
theorem tl_bl {a b : ByteArray} : a.toList = b.toList ↔ bl a = bl b := tl_inj.trans ⟨fun h => h ▸ rfl, bl_inj⟩
theorem tdiv_pos {a b : Int} (h : 0 ≤ a) : Int.tdiv a b = a / b := Int.tdiv_eq_ediv_of_nonneg h
theorem tmod_pos {a b : Int} (h : 0 ≤ a) : Int.tmod a b = a % b := Int.tmod_eq_emod_of_nonneg h
theorem bne_rfl_bool (b : Bool) : (b != b) = false := by cases b <;> rfl
theorem wf_u32 {n : Int} (h : (Lit.int .u32 n).wf = true) : 0 ≤ n ∧ n < 4294967296 := by
  have h1 : IntKind.u32.min = 0 := by decide +kernel
  have h2 : IntKind.u32.max = 4294967295 := by decide +kernel
  simp only [Lit.wf, h1, h2, Bool.and_eq_true, decide_eq_true_eq] at h
  omega
theorem wf_i64 {n : Int} (h : (Lit.int .i64 n).wf = true) : -9223372036854775808 ≤ n ∧ n < 9223372036854775808 := by
  have h1 : IntKind.i64.min = -9223372036854775808 := by decide +kernel
  have h2 : IntKind.i64.max = 9223372036854775807 := by decide +kernel
  simp only [Lit.wf, h1, h2, Bool.and_eq_true, decide_eq_true_eq] at h
  omega
theorem Byt.one {x : Int} (h : 0 ≤ x ∧ x < 256) : Byt [x] := Byt.nil.cons h
theorem bl_size (s : ByteArray) : s.size = (bl s).length := (bl_len s).symm
theorem str_len (xs : List Int) : (strOfNums xs).size = xs.length := strOfNums_size xs

/-! Numbers in bytes -/
def varB (n : Nat) : List Int := if h : n > 127 then (((n % 128 + 128 : Nat) : Int)) :: varB (n / 128) else [(n : Int)]
termination_by n
decreasing_by omega
theorem varB_big {n : Nat} (h : n > 127) : varB n = (((n % 128 + 128 : Nat) : Int)) :: varB (n / 128) := by rw [varB, dif_pos h]
theorem varB_small {n : Nat} (h : ¬ n > 127) : varB n = [(n : Int)] := by rw [varB, dif_neg h]
theorem varB_byt (n : Nat) : Byt (varB n) := by
  induction n using Nat.strongRecOn with
  | _ n ih =>
    by_cases h : n > 127
    · rw [varB_big h]; exact (ih _ (by omega)).cons ⟨by omega, by omega⟩
    · rw [varB_small h]; exact Byt.one ⟨by omega, by omega⟩
theorem varB_pos (n : Nat) : 1 ≤ (varB n).length := by
  by_cases h : n > 127
  · rw [varB_big h]; simp
  · rw [varB_small h]; simp
theorem varB_len (n : Nat) : (varB n).length ≤ n + 1 := by
  induction n using Nat.strongRecOn with
  | _ n ih =>
    by_cases h : n > 127
    · rw [varB_big h]; have := ih (n / 128) (by omega); simp only [List.length_cons]; omega
    · rw [varB_small h]; simp
theorem varB_len1 {n : Nat} (h : n < 128) : (varB n).length = 1 := by rw [varB_small (by omega)]; rfl
theorem varB_len2 {n : Nat} (h : n < 16384) : (varB n).length ≤ 2 := by
  by_cases h1 : n > 127
  · rw [varB_big h1, List.length_cons, varB_len1 (by omega)]; omega
  · rw [varB_small h1]; simp
theorem varB_len5 {n : Nat} (h : n ≤ 1000000000) : (varB n).length ≤ 5 := by
  by_cases h1 : n > 127
  · rw [varB_big h1, List.length_cons]
    by_cases h2 : n / 128 > 127
    · rw [varB_big h2, List.length_cons]
      by_cases h3 : n / 128 / 128 > 127
      · rw [varB_big h3, List.length_cons]
        have := varB_len2 (n := n / 128 / 128 / 128) (by omega)
        omega
      · rw [varB_small h3]; simp
    · rw [varB_small h2]; simp
  · rw [varB_small h1]; simp
/-- The number that bytes tell, the first the lowest. -/
def dec : List Int → Int
  | [] => 0
  | c :: l => c % 128 + 128 * dec l
theorem dec_nonneg : ∀ l : List Int, 0 ≤ dec l
  | [] => by simp [dec]
  | c :: l => by have := dec_nonneg l; simp only [dec]; omega
theorem dec_snoc : ∀ (l : List Int) (c : Int), dec (l ++ [c]) = dec l + c % 128 * 128 ^ l.length
  | [], c => by simp [dec]
  | a :: l, c => by
    have := dec_snoc l c
    simp only [List.cons_append, dec, this, List.length_cons, Int.pow_succ]
    rw [Int.mul_add]
    have : 128 * (c % 128 * 128 ^ l.length) = c % 128 * (128 ^ l.length * 128) := by rw [Int.mul_comm 128, Int.mul_assoc]
    omega
/-- Bytes above 127, and one more. -/
def Hi (l : List Int) : Prop := ∀ x ∈ l, 128 ≤ x ∧ x < 256
theorem dec_pos : ∀ (l : List Int) (c : Int), 0 < c → c < 128 → 1 ≤ dec (l ++ [c])
  | [], c, h, h' => by simp only [List.nil_append, dec]; omega
  | a :: l, c, h, h' => by have := dec_pos l c h h'; simp only [List.cons_append, dec]; omega
theorem varB_dec : ∀ (l : List Int) (c : Int), Hi l → 0 ≤ c → c < 128 → (l = [] ∨ c ≠ 0) → varB (dec (l ++ [c])).toNat = l ++ [c]
  | [], c, _, h, h', _ => by
    simp only [List.nil_append, dec]
    rw [varB_small (by omega)]
    congr 1
    omega
  | a :: l, c, hl, h, h', hc => by
    have ha := hl a (List.mem_cons_self ..)
    have hp := dec_pos l c (by rcases hc with h | h <;> simp_all <;> omega) h'
    have ih := varB_dec l c (fun x hx => hl x (List.mem_cons_of_mem _ hx)) h h' (by rcases hc with h | h <;> simp_all)
    simp only [List.cons_append, dec]
    rw [varB_big (by omega)]
    have e : (a % 128 + 128 * dec (l ++ [c])).toNat / 128 = (dec (l ++ [c])).toNat := by omega
    rw [e, ih]
    congr 1
    omega
theorem varB_last (n : Nat) : ∃ l c, varB n = l ++ [c] ∧ Hi l ∧ 0 ≤ c ∧ c < 128 ∧ (l = [] ∨ c ≠ 0) ∧ dec (l ++ [c]) = n := by
  induction n using Nat.strongRecOn with
  | _ n ih =>
    by_cases h : n > 127
    · obtain ⟨l, c, e, hl, h0, h1, hc, hd⟩ := ih (n / 128) (by omega)
      refine ⟨((n % 128 + 128 : Nat) : Int) :: l, c, by rw [varB_big h, e]; rfl, fun x hx => ?_, h0, h1, Or.inr ?_, ?_⟩
      · rcases List.mem_cons.1 hx with rfl | hx
        · omega
        · exact hl x hx
      · rintro rfl
        have : l = [] := by simpa using hc
        subst this
        simp [dec] at hd
        omega
      · simp only [List.cons_append, dec, hd]; omega
    · exact ⟨[], n, by rw [varB_small h]; rfl, fun _ hx => by simp at hx, by omega, by omega, .inl rfl, by simp only [List.nil_append, dec]; omega⟩
/-- What is read off bytes: the number, and how many bytes it took. -/
def rvGo : Nat → Int → Int → Nat → List Int → Option (Int × Nat)
  | 0, _, _, _, _ => none
  | _ + 1, _, _, _, [] => none
  | f + 1, n, sc, c, b :: l => if b < 128 then (if (b = 0 ∧ 0 < c) ∨ n + b % 128 * sc > 1000000000 then none else some (n + b % 128 * sc, c + 1)) else rvGo f (n + b % 128 * sc) (sc * 128) (c + 1) l
def rv (l : List Int) : Option (Int × Nat) := rvGo 5 0 1 0 l
theorem rvGo_some : ∀ (f : Nat) (P l : List Int), P.length + f = 5 → Byt l → Hi P → ∀ n c, rvGo f (dec P) (128 ^ P.length) P.length l = some (n, c) →
    ∃ rest, P ++ l = varB n.toNat ++ rest ∧ c = (varB n.toNat).length ∧ 0 ≤ n ∧ n ≤ 1000000000
  | 0, P, l, _, _, _, n, c, h => by simp [rvGo] at h
  | f + 1, P, [], _, _, _, n, c, h => by simp [rvGo] at h
  | f + 1, P, b :: l, hf, hb, hP, n, c, h => by
    have hbb := hb.head
    simp only [rvGo] at h
    by_cases h1 : b < 128
    · rw [if_pos h1] at h
      split at h
      · cases h
      · rename_i h2
        simp only [Option.some.injEq, Prod.mk.injEq] at h
        obtain ⟨rfl, rfl⟩ := h
        have hd := dec_snoc P b
        have hv := varB_dec P b hP hbb.1 h1 (by
          rcases P with _ | ⟨a, P⟩
          · exact .inl rfl
          · refine .inr fun e => h2 (.inl ⟨e, by simp⟩))
        rw [hd] at hv
        have hnn := dec_nonneg (P ++ [b])
        rw [hd] at hnn
        refine ⟨l, by rw [hv]; simp, by rw [hv]; simp, hnn, by omega⟩
    · rw [if_neg h1] at h
      have := rvGo_some f (P ++ [b]) l (by simp; omega) hb.tail (fun x hx => by
        rcases List.mem_append.1 hx with hx | hx
        · exact hP x hx
        · simp at hx; subst hx; omega) n c (by rw [dec_snoc, List.length_append, Int.pow_add]; simpa using h)
      obtain ⟨rest, e, r⟩ := this
      exact ⟨rest, by rw [← e]; simp, r⟩
theorem rvGo_hi : ∀ (Q : List Int) (f : Nat) (P l : List Int), Hi Q → rvGo (f + Q.length) (dec P) (128 ^ P.length) P.length (Q ++ l) = rvGo f (dec (P ++ Q)) (128 ^ (P ++ Q).length) (P ++ Q).length l
  | [], f, P, l, _ => by simp
  | b :: Q, f, P, l, h => by
    have hb := h b (List.mem_cons_self ..)
    have := rvGo_hi Q f (P ++ [b]) l (fun x hx => h x (List.mem_cons_of_mem _ hx))
    rw [show f + (b :: Q).length = (f + Q.length) + 1 by simp; omega, List.cons_append]
    simp only [rvGo]
    rw [if_neg (by omega)]
    rw [dec_snoc, List.length_append, Int.pow_add] at this
    simp only [List.append_assoc, List.singleton_append, List.length_cons, List.length_nil] at this
    rw [← this]
    simp
theorem rv_var (n : Nat) (h : n ≤ 1000000000) (rest : List Int) : rv (varB n ++ rest) = some ((n : Int), (varB n).length) := by
  obtain ⟨l, c, e, hl, h0, h1, hc, hd⟩ := varB_last n
  have h5 := varB_len5 h
  rw [e] at h5
  have hlen : l.length ≤ 4 := by simpa using h5
  unfold rv
  have := rvGo_hi l (5 - l.length) [] ([c] ++ rest) hl
  simp only [dec, List.nil_append, List.length_nil] at this
  rw [show 5 - l.length + l.length = 5 by omega] at this
  rw [e, List.append_assoc]
  refine Eq.trans this ?_
  obtain ⟨f, hf⟩ : ∃ f, 5 - l.length = f + 1 := ⟨4 - l.length, by omega⟩
  rw [hf, List.singleton_append]
  simp only [rvGo]
  rw [if_pos h1, if_neg, ← dec_snoc, hd]
  · simp
  · rintro (⟨h2, h3⟩ | h2)
    · rcases hc with rfl | hc
      · simp at h3
      · exact hc h2
    · rw [← dec_snoc, hd] at h2
      omega
theorem rv_some {l : List Int} (hl : Byt l) {n : Int} {c : Nat} (h : rv l = some (n, c)) : ∃ rest, l = varB n.toNat ++ rest ∧ c = (varB n.toNat).length ∧ 0 ≤ n ∧ n ≤ 1000000000 := by
  have := rvGo_some 5 [] l rfl hl (fun _ hx => by simp at hx) n c h
  simpa using this
theorem varB_dec_iff (P : List Int) (b : Int) (hP : Hi P) (h0 : 0 ≤ b) (h1 : b < 128) : varB (dec (P ++ [b])).toNat = P ++ [b] ↔ ¬ (b = 0 ∧ 0 < P.length) := by
  constructor
  · rintro h ⟨rfl, hp⟩
    obtain ⟨l, c, e, _, _, _, hc, _⟩ := varB_last (dec (P ++ [0])).toNat
    rw [h] at e
    obtain ⟨e1, e2⟩ := List.append_inj' e rfl
    subst e1
    simp only [List.cons.injEq, and_true] at e2
    rcases hc with hc | hc
    · rw [hc] at hp; simp at hp
    · exact hc e2.symm
  · intro h
    refine varB_dec P b hP h0 h1 ?_
    rcases P with _ | ⟨a, P⟩
    · exact .inl rfl
    · exact .inr fun e => h ⟨e, by simp⟩
theorem dec_lt : ∀ l : List Int, dec l < 128 ^ l.length
  | [] => by simp [dec]
  | c :: l => by
    have := dec_lt l
    simp only [dec, List.length_cons, Int.pow_succ]
    omega
theorem pow128 {c : Nat} (h : c ≤ 4) : 1 ≤ (128 : Int) ^ c ∧ (128 : Int) ^ c ≤ 268435456 := by
  rcases (by omega : c = 0 ∨ c = 1 ∨ c = 2 ∨ c = 3 ∨ c = 4) with rfl | rfl | rfl | rfl | rfl <;> decide
def rvRes (at_ : Int) : Option (Int × Nat) → Int × Int × Bool
  | some (n, c) => (n, at_ + c, true)
  | none => (0, 0, false)
def pReadVar (s : ByteArray) (a : Int) : Int × Int × Bool := if 0 ≤ a ∧ a ≤ s.size then rvRes a (rv ((bl s).drop a.toNat)) else (0, 0, false)

theorem pReadVar_some {s : ByteArray} {a n next : Int} (h : pReadVar s a = (n, next, true)) : ∃ c : Nat, 0 ≤ a ∧ next = a + c ∧ (bl s).drop a.toNat = varB n.toNat ++ (bl s).drop next.toNat ∧ c = (varB n.toNat).length ∧ a + c ≤ s.size ∧ 0 ≤ n ∧ n ≤ 1000000000 := by
  unfold pReadVar at h
  by_cases h0 : 0 ≤ a ∧ a ≤ s.size
  · rw [if_pos h0] at h
    cases hr : rv ((bl s).drop a.toNat) with
    | none => rw [hr] at h; simp [rvRes] at h
    | some p =>
      obtain ⟨m, c⟩ := p
      rw [hr] at h
      simp only [rvRes, Prod.mk.injEq, and_true] at h
      obtain ⟨rfl, rfl⟩ := h
      obtain ⟨rest, e, hc, h1, h2⟩ := rv_some ((bl_byt s).drop _) hr
      have hl := congrArg List.length e
      rw [List.length_drop, List.length_append, bl_len] at hl
      refine ⟨c, h0.1, rfl, ?_, hc, by omega, h1, h2⟩
      have hd : rest = (bl s).drop (a + c).toNat := by
        have := congrArg (List.drop c) e
        rw [List.drop_drop, hc, List.drop_left] at this
        rw [← this]
        congr 1
        omega
      rw [e, hd]
  · rw [if_neg h0] at h; simp at h
theorem pReadVar_cases (s : ByteArray) (a : Int) : pReadVar s a = (0, 0, false) ∨ ∃ n next, pReadVar s a = (n, next, true) := by
  unfold pReadVar
  split
  · cases rv ((bl s).drop a.toNat) with
    | none => exact .inl rfl
    | some p => exact .inr ⟨_, _, rfl⟩
  · exact .inl rfl
def pReadShort (s : ByteArray) (a : Int) : ByteArray × Int × Bool :=
  if (pReadVar s a).2.2 = true ∧ (pReadVar s a).1 ≤ 8000 ∧ (pReadVar s a).1 ≤ s.size - (pReadVar s a).2.1 then (s.extract (pReadVar s a).2.1.toNat ((pReadVar s a).2.1 + (pReadVar s a).1).toNat, (pReadVar s a).2.1 + (pReadVar s a).1, true) else (⟨#[]⟩, 0, false)

theorem l01Var_go (n : Nat) : ∀ acc : List Int, acc.length + n ≤ 100000000000 → Ev (fun k => spec_l01Var.l0 k (n : Int) acc) (strOfNums (acc ++ varB n)) := by
  induction n using Nat.strongRecOn with
  | _ n ih =>
    intro acc hacc
    by_cases h : n > 127
    · have := ih (n / 128) (by omega) (acc ++ [((n % 128 + 128 : Nat) : Int)]) (by simp; omega)
      rw [varB_big h]
      rw [List.append_assoc, List.singleton_append] at this
      refine this.to fun k => ?_
      simp only [spec_l01Var.l0]
      rw [if_pos (by omega), if_pos (by omega), tdiv_pos (by omega), tmod_pos (by omega), wid (by omega) (by omega), wid (by omega) (by omega)]
      congr 3
      omega
    · rw [varB_small h]
      refine (Ev.now _).to fun k => ?_
      simp only [spec_l01Var.l0]
      rw [if_neg (by omega), if_pos (by omega), show (n : Int) % 256 = n by omega]
theorem l01Var_ev (n : Nat) (h : n ≤ 10000000000) : Ev (fun k => spec_l01Var.f k (n : Int)) (strOfNums (varB n)) := l01Var_go n [] (by simp; omega)

theorem s_in (a b c : Int) : spec_l01In.f a b c = some (decide (b ≤ a ∧ a ≤ c)) := by
  unfold spec_l01In.f
  by_cases h : a ≥ b
  · rw [if_pos h]; simp [show b ≤ a from h]
  · rw [if_neg h]; simp [show ¬ b ≤ a from h]
theorem s_in_t {a b c : Int} (h : b ≤ a ∧ a ≤ c) : spec_l01In.f a b c = some true := by rw [s_in, decide_eq_true h]
theorem s_in_f {a b c : Int} (h : ¬ (b ≤ a ∧ a ≤ c)) : spec_l01In.f a b c = some false := by rw [s_in, decide_eq_false h]

theorem sRV_go (s : ByteArray) (hs : s.size ≤ 140737488351232) (a : Nat) : ∀ (f : Nat) (P : List Int), P.length + f = 5 → a + P.length ≤ s.size → Hi P → (bl s).drop a = P ++ (bl s).drop (a + P.length) →
    Ev (fun k => spec_ReadVar.l0 k s a (dec P) (128 ^ P.length) ((a + P.length : Nat) : Int)) (rvRes a (rvGo f (dec P) (128 ^ P.length) P.length ((bl s).drop (a + P.length))))
  | 0, P, hf, hc, hP, hd => by
    have h5 : Aside0 (¬ ((a + P.length : Nat) : Int) < wrap64 ((a : Int) + 5)) := ⟨by rw [wid (by omega) (by omega)]; omega⟩
    simp only [rvGo, rvRes]
    have : Ev (fun k => spec_ReadVar.j1 k s a (dec P) (128 ^ P.length) ((a + P.length : Nat) : Int) false) (0, 0, false) := (Ev.now _).to fun k => by simp only [spec_ReadVar.j1]; rw [if_neg (by decide)]
    refine this.to fun k => ?_
    simp only [spec_ReadVar.l0]
    rw [decide_eq_false h5.out, ite_self]
  | f + 1, P, hf, hc, hP, hd => by
    have h5 : Aside0 (((a + P.length : Nat) : Int) < wrap64 ((a : Int) + 5)) := ⟨by rw [wid (by omega) (by omega)]; omega⟩
    by_cases hi : a + P.length < s.size
    · have hb := bt_range s ((a + P.length : Nat) : Int)
      have hp := pow128 (c := P.length) (by omega)
      have h0 := dec_nonneg P
      have h1 := dec_lt P
      have hcons := bl_cons hi
      rw [hcons]
      generalize hB : bt s ((a + P.length : Nat) : Int) = b at *
      have hx0 : 0 ≤ b % 128 * 128 ^ P.length := Int.mul_nonneg (by omega) (by omega)
      have hx1 : b % 128 * 128 ^ P.length ≤ 127 * 128 ^ P.length := Int.mul_le_mul_of_nonneg_right (by omega) (by omega)
      have e1 : Aside0 (wrap64 (dec P + wrap64 (Int.tmod (wrap64 b) 128 * 128 ^ P.length)) = dec (P ++ [b])) := ⟨by
        rw [dec_snoc, wid (n := b) (by omega) (by omega), tmod_pos hb.1, wid (n := b % 128 * 128 ^ P.length) (by omega) (by omega), wid (by omega) (by omega)]⟩
      have e2 : Aside0 (wrap64 (((a + P.length : Nat) : Int) + 1) = ((a + (P.length + 1) : Nat) : Int)) := ⟨by rw [wid (by omega) (by omega)]; omega⟩
      have hsn := dec_snoc P b
      by_cases h8 : b < 128
      · simp only [rvGo]
        rw [if_pos h8, ← hsn]
        have : Ev (fun k => spec_ReadVar.j1 k s a (dec P) (128 ^ P.length) ((a + P.length : Nat) : Int) true) (rvRes a (if (b = 0 ∧ 0 < P.length) ∨ dec (P ++ [b]) > 1000000000 then none else some (dec (P ++ [b]), P.length + 1))) := by
          by_cases hm : dec (P ++ [b]) > 1000000000
          · rw [if_pos (.inr hm)]
            refine (Ev.now _).to fun k => ?_
            simp only [spec_ReadVar.j1, if_true]
            rw [if_pos (by omega), if_pos (by omega), hB, e1.out, if_pos h8, if_pos hm]
            rfl
          · have hv := l01Var_ev (dec (P ++ [b])).toNat (by omega)
            rw [Int.toNat_of_nonneg (dec_nonneg _)] at hv
            have hx : bl (s.extract a (a + (P.length + 1))) = P ++ [b] := by
              have hsz := bl_len s
              rw [bl_ext, List.drop_take, hd, hcons, show a + (P.length + 1) - a = P.length + 1 by omega]
              rw [List.take_append, List.take_of_length_le (by omega), show P.length + 1 - P.length = 1 by omega]
              rfl
            refine Ev.to (Ev.bind (f := fun _ t => if t.toList = (s.extract a (a + (P.length + 1))).toList then some (dec (P ++ [b]), ((a + (P.length + 1) : Nat) : Int), true) else some (0, 0, false)) hv ?_) fun k => ?_
            · have hiff : ((strOfNums (varB (dec (P ++ [b])).toNat)).toList = (s.extract a (a + (P.length + 1))).toList) ↔ ¬ (b = 0 ∧ 0 < P.length) := by
                rw [tl_bl, hx, bl_str (varB_byt _), varB_dec_iff P b hP hb.1 h8]
              by_cases hz : b = 0 ∧ 0 < P.length
              · have e3 : rvRes a (if (b = 0 ∧ 0 < P.length) ∨ dec (P ++ [b]) > 1000000000 then none else some (dec (P ++ [b]), P.length + 1)) = (0, 0, false) := by rw [if_pos (.inl hz)]; rfl
                rw [e3]
                exact Ev.same (if_neg (fun h => hiff.1 h hz))
              · have e3 : rvRes a (if (b = 0 ∧ 0 < P.length) ∨ dec (P ++ [b]) > 1000000000 then none else some (dec (P ++ [b]), P.length + 1)) = (dec (P ++ [b]), ((a + (P.length + 1) : Nat) : Int), true) := by rw [if_neg (by omega)]; simp only [rvRes]; congr 2
                rw [e3]
                exact Ev.same (if_pos (hiff.2 hz))
            · simp only [spec_ReadVar.j1, if_true]
              rw [if_pos (by omega), if_pos (by omega), hB, e1.out, e2.out, if_pos h8, if_neg hm]
              congr 1
              funext t
              rw [if_pos (by omega), if_pos (by omega), if_pos (by omega)]
              rfl
        refine this.to fun k => ?_
        simp only [spec_ReadVar.l0]
        rw [if_pos (by omega), decide_eq_true h5.out]
      · simp only [rvGo]
        rw [if_neg h8]
        have ih := sRV_go s hs a f (P ++ [b]) (by simp; omega) (by simp; omega) (fun x hx => by
          rcases List.mem_append.1 hx with hx | hx
          · exact hP x hx
          · simp at hx; subst hx; omega) (by rw [hd, hcons, List.length_append]; simp [Nat.add_assoc])
        rw [List.length_append, List.length_singleton, Int.pow_succ, hsn] at ih
        have : Ev (fun k => spec_ReadVar.j1 k s a (dec P) (128 ^ P.length) ((a + P.length : Nat) : Int) true) (rvRes a (rvGo f (dec P + b % 128 * 128 ^ P.length) (128 ^ P.length * 128) (P.length + 1) ((bl s).drop (a + (P.length + 1))))) := by
          refine ih.to fun k => ?_
          simp only [spec_ReadVar.j1, if_true]
          rw [if_pos (by omega), if_pos (by omega), hB, e1.out, e2.out, if_neg h8, wid (n := 128 ^ P.length * 128) (by omega) (by omega), hsn]
        refine this.to fun k => ?_
        simp only [spec_ReadVar.l0]
        rw [if_pos (by omega), decide_eq_true h5.out]
    · rw [bl_end (by omega)]
      simp only [rvGo, rvRes]
      have : Ev (fun k => spec_ReadVar.j1 k s a (dec P) (128 ^ P.length) ((a + P.length : Nat) : Int) false) (0, 0, false) := (Ev.now _).to fun k => by simp only [spec_ReadVar.j1]; rw [if_neg (by decide)]
      refine this.to fun k => ?_
      simp only [spec_ReadVar.l0]
      rw [if_neg (by omega)]
theorem sReadVar (s : ByteArray) (hs : s.size ≤ 140737488351232) (a : Int) : Ev (fun k => spec_ReadVar.f k s a) (pReadVar s a) := by
  unfold spec_ReadVar.f pReadVar
  by_cases h : 0 ≤ a ∧ a ≤ s.size
  · rw [s_in_t h, if_pos h]
    simp only [Option.bind_some, if_true]
    have := sRV_go s hs a.toNat 5 [] rfl (by simp; omega) (fun _ hx => by simp at hx) (by simp)
    simp only [List.length_nil, Nat.add_zero, Int.pow_zero, Int.toNat_of_nonneg h.1, dec] at this
    exact this
  · rw [s_in_f h, if_neg h]
    simp only [Option.bind_some, Bool.false_eq_true, if_false]
    exact Ev.now _

theorem sReadShort (s : ByteArray) (hs : s.size ≤ 140737488351232) (a : Int) : Ev (fun k => spec_ReadShort.f k s a) (pReadShort s a) := by
  unfold spec_ReadShort.f
  refine (sReadVar s hs a).bind ?_
  unfold pReadShort
  rcases pReadVar_cases s a with e | ⟨n, next, e⟩
  · rw [e]
    simp only [Bool.false_eq_true, false_and, if_false]
    exact Ev.now _
  · obtain ⟨c, h0, hn, _, _, hc, h1, h2⟩ := pReadVar_some e
    rw [e]
    simp only [true_and, if_true]
    have w1 : wrap64 ((s.size : Int) - next) = (s.size : Int) - next := wid (by omega) (by omega)
    have w2 : wrap64 (next + n) = next + n := wid (by omega) (by omega)
    rw [w1, w2]; clear w1 w2
    by_cases h8 : n ≤ 8000
    · by_cases h9 : n ≤ (s.size : Int) - next
      · rw [if_neg (by omega), if_neg (by omega), if_pos (by omega), if_pos (by omega), if_pos (by omega), if_pos ⟨h8, h9⟩]
        exact Ev.now _
      · rw [if_neg (by omega), if_pos (by omega), if_neg (fun h => h9 h.2)]
        exact Ev.now _
    · rw [if_pos (by omega), if_neg (fun h => h8 h.1)]
      exact Ev.now _

theorem i_in (a b c : Int) : impl_in.f a b c = some (decide (b ≤ a ∧ a ≤ c)) := by
  unfold impl_in.f
  by_cases h : a ≥ b
  · rw [if_pos h]; simp [show b ≤ a from h]
  · rw [if_neg h]; simp [show ¬ b ≤ a from h]
theorem i_in_t {a b c : Int} (h : b ≤ a ∧ a ≤ c) : impl_in.f a b c = some true := by rw [i_in, decide_eq_true h]
theorem i_in_f {a b c : Int} (h : ¬ (b ≤ a ∧ a ≤ c)) : impl_in.f a b c = some false := by rw [i_in, decide_eq_false h]

theorem iRV_go (s : ByteArray) (hs : s.size ≤ 140737488351232) (a : Nat) : ∀ (f c : Nat) (n : Int), c + f = 5 → a + c ≤ s.size → 0 ≤ n → n < 128 ^ c →
    Ev (fun k => impl_ReadVar.l0 k s a n (128 ^ c) ((a + c : Nat) : Int)) (rvRes a (rvGo f n (128 ^ c) c ((bl s).drop (a + c))))
  | 0, c, n, hf, hc, h0, h1 => by
    have h5 : Aside0 (¬ ((a + c : Nat) : Int) < wrap64 ((a : Int) + 5)) := ⟨by rw [wid (by omega) (by omega)]; omega⟩
    simp only [rvGo, rvRes]
    have : Ev (fun k => impl_ReadVar.j1 k s a n (128 ^ c) ((a + c : Nat) : Int) false) (0, 0, false) := (Ev.now _).to fun k => by simp only [impl_ReadVar.j1]; rw [if_neg (by decide)]
    refine this.to fun k => ?_
    simp only [impl_ReadVar.l0]
    rw [decide_eq_false h5.out, ite_self]
  | f + 1, c, n, hf, hc, h0, h1 => by
    have h5 : Aside0 (((a + c : Nat) : Int) < wrap64 ((a : Int) + 5)) := ⟨by rw [wid (by omega) (by omega)]; omega⟩
    by_cases hi : a + c < s.size
    · have hb := bt_range s ((a + c : Nat) : Int)
      have hp := pow128 (c := c) (by omega)
      rw [bl_cons hi]
      generalize hB : bt s ((a + c : Nat) : Int) = b at *
      have hx0 : 0 ≤ b % 128 * 128 ^ c := Int.mul_nonneg (by omega) (by omega)
      have hx1 : b % 128 * 128 ^ c ≤ 127 * 128 ^ c := Int.mul_le_mul_of_nonneg_right (by omega) (by omega)
      have e1 : Aside0 (wrap64 (n + wrap64 (Int.tmod (wrap64 b) 128 * 128 ^ c)) = n + b % 128 * 128 ^ c) := ⟨by
        rw [wid (n := b) (by omega) (by omega), tmod_pos hb.1, wid (n := b % 128 * 128 ^ c) (by omega) (by omega), wid (by omega) (by omega)]⟩
      have e2 : Aside0 (wrap64 (((a + c : Nat) : Int) + 1) = ((a + (c + 1) : Nat) : Int)) := ⟨by rw [wid (by omega) (by omega)]; omega⟩
      by_cases h8 : b < 128
      · simp only [rvGo]
        rw [if_pos h8]
        have : Ev (fun k => impl_ReadVar.j1 k s a n (128 ^ c) ((a + c : Nat) : Int) true) (rvRes a (if (b = 0 ∧ 0 < c) ∨ n + b % 128 * 128 ^ c > 1000000000 then none else some (n + b % 128 * 128 ^ c, c + 1))) := by
          refine (Ev.now _).to fun k => ?_
          simp only [impl_ReadVar.j1, if_true]
          rw [if_pos (by omega), if_pos (by omega), hB, e1.out, e2.out, wid (n := b) (by omega) (by omega), if_pos h8]
          by_cases hz : b = 0
          · rw [if_pos hz]
            by_cases hc0 : 0 < c
            · rw [if_pos (by omega), if_pos (.inl ⟨hz, hc0⟩)]; rfl
            · rw [if_neg (by omega)]
              by_cases hm : n + b % 128 * 128 ^ c > 1000000000
              · rw [if_pos hm, if_pos (.inr hm)]; rfl
              · rw [if_neg hm, if_neg (by omega)]; simp only [rvRes]; congr 3
          · rw [if_neg hz]
            by_cases hm : n + b % 128 * 128 ^ c > 1000000000
            · rw [if_pos hm, if_pos (.inr hm)]; rfl
            · rw [if_neg hm, if_neg (by omega)]; simp only [rvRes]; congr 3
        refine this.to fun k => ?_
        simp only [impl_ReadVar.l0]
        rw [if_pos (by omega), decide_eq_true h5.out]
      · simp only [rvGo]
        rw [if_neg h8]
        have ih := iRV_go s hs a f (c + 1) (n + b % 128 * 128 ^ c) (by omega) (by omega) (by omega) (by rw [Int.pow_succ]; omega)
        rw [Int.pow_succ] at ih
        have : Ev (fun k => impl_ReadVar.j1 k s a n (128 ^ c) ((a + c : Nat) : Int) true) (rvRes a (rvGo f (n + b % 128 * 128 ^ c) (128 ^ c * 128) (c + 1) ((bl s).drop (a + (c + 1))))) := by
          refine ih.to fun k => ?_
          simp only [impl_ReadVar.j1, if_true]
          rw [if_pos (by omega), if_pos (by omega), hB, e1.out, e2.out, wid (n := b) (by omega) (by omega), if_neg h8, wid (n := 128 ^ c * 128) (by omega) (by omega)]
        refine this.to fun k => ?_
        simp only [impl_ReadVar.l0]
        rw [if_pos (by omega), decide_eq_true h5.out]
    · rw [bl_end (by omega)]
      simp only [rvGo, rvRes]
      have : Ev (fun k => impl_ReadVar.j1 k s a n (128 ^ c) ((a + c : Nat) : Int) false) (0, 0, false) := (Ev.now _).to fun k => by simp only [impl_ReadVar.j1]; rw [if_neg (by decide)]
      refine this.to fun k => ?_
      simp only [impl_ReadVar.l0]
      rw [if_neg (by omega)]
theorem iReadVar (s : ByteArray) (hs : s.size ≤ 140737488351232) (a : Int) : Ev (fun k => impl_ReadVar.f k s a) (pReadVar s a) := by
  unfold impl_ReadVar.f pReadVar
  by_cases h : 0 ≤ a ∧ a ≤ s.size
  · rw [i_in_t h, if_pos h]
    simp only [Option.bind_some, if_true]
    have := iRV_go s hs a.toNat 5 0 0 rfl (by omega) (by omega) (by decide)
    simp only [Nat.add_zero, Int.pow_zero, Int.toNat_of_nonneg h.1] at this
    exact this
  · rw [i_in_f h, if_neg h]
    simp only [Option.bind_some, Bool.false_eq_true, if_false]
    exact Ev.now _

theorem iReadShort (s : ByteArray) (hs : s.size ≤ 140737488351232) (a : Int) : Ev (fun k => impl_ReadShort.f k s a) (pReadShort s a) := by
  unfold impl_ReadShort.f
  refine (iReadVar s hs a).bind ?_
  unfold pReadShort
  rcases pReadVar_cases s a with e | ⟨n, next, e⟩
  · rw [e]
    simp only [Bool.false_eq_true, false_and, if_false]
    exact Ev.now _
  · obtain ⟨c, h0, hn, _, _, hc, h1, h2⟩ := pReadVar_some e
    rw [e]
    simp only [true_and, if_true]
    have w1 : wrap64 ((s.size : Int) - next) = (s.size : Int) - next := wid (by omega) (by omega)
    have w2 : wrap64 (next + n) = next + n := wid (by omega) (by omega)
    rw [w1, w2]; clear w1 w2
    by_cases h8 : n ≤ 8000
    · by_cases h9 : n ≤ (s.size : Int) - next
      · rw [if_neg (by omega), if_neg (by omega), if_pos (by omega), if_pos (by omega), if_pos (by omega), if_pos ⟨h8, h9⟩]
        exact Ev.now _
      · rw [if_neg (by omega), if_pos (by omega), if_neg (fun h => h9 h.2)]
        exact Ev.now _
    · rw [if_pos (by omega), if_neg (fun h => h8 h.1)]
      exact Ev.now _

theorem FnExactReadShort : laws_FnExactReadShort.Pure := by
  intro a0 a1 hs _
  by_cases hb : (a0.size : Int) > 1048576
  · exact ⟨0, by unfold laws_FnExactReadShort.f; rw [if_pos hb]⟩
  · refine Ev.rounds (g := fun k => laws_FnExactReadShort.f k a0 a1) ?_
    unfold laws_FnExactReadShort.f
    simp only [if_neg hb]
    refine (sReadShort a0 hs a1).bind ((iReadShort a0 hs a1).bind ?_)
    simp only [if_true, bne_rfl_bool, Bool.false_eq_true, if_false]
    exact Ev.now _

end Go.Proofs.Ytjhgcdjpabhifaa.Pure
