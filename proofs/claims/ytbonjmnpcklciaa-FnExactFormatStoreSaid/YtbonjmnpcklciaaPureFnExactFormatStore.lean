/- The program's FormatStore and the reference's FormatStore return the same store and flag, for every number; the answer owns its memory. -/
import Derived.Test.YtbonjmnpcklciaaQFnExactFormatStorex7
import Derived.Laws.BitsAllLaws
namespace Go.Proofs.Ytbonjmnpcklciaa.Pure
open Go.RowKit Go.Proofs.Ytbonjmnpcklciaa.QFnExactFormatStore Go.Proofs.YtbonjmnpcklciaaW.PrintWords Go.Proofs.YtbonjmnpcklciaaW.PrintLast
set_option linter.unusedVariables false
set_option linter.unusedSimpArgs false
set_option maxHeartbeats 4000000

theorem wid {n : Int} (h0 : -9223372036854775808 ≤ n) (h1 : n < 9223372036854775808) : wrap64 n = n := by unfold wrap64; omega
theorem _root_.Go.Proofs.YtbonjmnpcklciaaW.PrintWords.Ev.ofEq {α : Type} {g : Nat → Option α} {r q : α} (h : Ev g r) (e : r = q) : Ev g q := e ▸ h
theorem _root_.Go.Proofs.YtbonjmnpcklciaaW.PrintWords.Ev.same {α : Type} {o : Option α} {r : α} (h : o = some r) : Ev (fun _ => o) r := ⟨0, fun _ _ => h⟩
theorem _root_.Go.Proofs.YtbonjmnpcklciaaW.PrintWords.Ev.to {α : Type} {g f : Nat → Option α} {r : α} (k : Ev f r) (h : ∀ k, g (k + 1) = f k) : Ev g r := Ev.step h k
theorem _root_.Go.Proofs.YtbonjmnpcklciaaW.PrintWords.Ev.cg {α : Type} {g f : Nat → Option α} {r : α} (k : Ev f r) (h : ∀ k, g k = f k) : Ev g r := Ev.congr h k
theorem _root_.Go.Proofs.YtbonjmnpcklciaaW.PrintWords.Ev.ifp {α : Type} {c : Prop} [Decidable c] {g f : Nat → Option α} {r : α} (h : c) (e : Ev g r) : Ev (fun k => if c then g k else f k) r := by simp only [if_pos h]; exact e
theorem _root_.Go.Proofs.YtbonjmnpcklciaaW.PrintWords.Ev.ifn {α : Type} {c : Prop} [Decidable c] {g f : Nat → Option α} {r : α} (h : ¬ c) (e : Ev f r) : Ev (fun k => if c then g k else f k) r := by simp only [if_neg h]; exact e
/-- The bytes of a string, as numbers. -/
def bl (s : ByteArray) : List Int := s.data.toList.map fun b => (b.toNat : Int)
theorem bl_len (s : ByteArray) : (bl s).length = s.size := by unfold bl; rw [List.length_map]; rfl
def Byt (xs : List Int) : Prop := ∀ x ∈ xs, 0 ≤ x ∧ x < 256
theorem Byt.nil : Byt [] := fun _ h => by simp at h
theorem Byt.cons {x : Int} {xs : List Int} (h : 0 ≤ x ∧ x < 256) (h' : Byt xs) : Byt (x :: xs) := fun y hy => by
  rcases List.mem_cons.1 hy with rfl | hy
  · exact h
  · exact h' y hy
theorem Byt.app {xs ys : List Int} (h : Byt xs) (h' : Byt ys) : Byt (xs ++ ys) := fun y hy => by
  rcases List.mem_append.1 hy with hy | hy
  · exact h y hy
  · exact h' y hy
theorem Byt.left {xs ys : List Int} (h : Byt (xs ++ ys)) : Byt xs := fun y hy => h y (List.mem_append_left _ hy)
theorem Byt.right {xs ys : List Int} (h : Byt (xs ++ ys)) : Byt ys := fun y hy => h y (List.mem_append_right _ hy)
theorem Byt.tail {x : Int} {xs : List Int} (h : Byt (x :: xs)) : Byt xs := fun y hy => h y (List.mem_cons_of_mem _ hy)
theorem Byt.head {x : Int} {xs : List Int} (h : Byt (x :: xs)) : 0 ≤ x ∧ x < 256 := h x (List.mem_cons_self ..)
theorem Byt.drop {xs : List Int} (h : Byt xs) (n : Nat) : Byt (xs.drop n) := fun y hy => h y (List.mem_of_mem_drop hy)
theorem Byt.take {xs : List Int} (h : Byt xs) (n : Nat) : Byt (xs.take n) := fun y hy => h y (List.mem_of_mem_take hy)
theorem bl_byt (s : ByteArray) : Byt (bl s) := fun x hx => by
  obtain ⟨b, _, rfl⟩ := List.mem_map.1 hx
  have := b.toNat_lt
  omega
theorem u8_back (b : UInt8) : UInt8.ofNat ((b.toNat : Int)).toNat = b := by simp
theorem bl_str {xs : List Int} (h : Byt xs) : bl (strOfNums xs) = xs := by
  unfold bl
  rw [strOfNums_data, List.map_map]
  conv => rhs; rw [← List.map_id xs]
  apply List.map_congr_left
  intro x hx
  have := h x hx
  simp only [Function.comp, id]
  obtain ⟨n, rfl⟩ := Int.eq_ofNat_of_zero_le this.1
  simp
  omega
theorem str_bl (s : ByteArray) : strOfNums (bl s) = s := by
  unfold strOfNums bl
  rw [List.map_map]
  have : ((fun n : Int => UInt8.ofNat n.toNat) ∘ fun b : UInt8 => (b.toNat : Int)) = id := by
    funext b
    simp
  rw [this, List.map_id]
theorem bl_inj {a b : ByteArray} (h : bl a = bl b) : a = b := by rw [← str_bl a, ← str_bl b, h]
theorem bt_bl (s : ByteArray) (i : Int) : bt s i = (bl s).getD i.toNat 0 := by
  unfold bt
  split
  · rename_i h
    have hl : i.toNat < s.data.toList.length := h
    simp only [bl, List.getD_eq_getElem?_getD, List.getElem?_map, List.getElem?_eq_getElem hl, Option.map_some, Option.getD_some]
    rfl
  · rename_i h
    rw [List.getD_eq_getElem?_getD, List.getElem?_eq_none (by rw [bl_len]; omega)]
    rfl
theorem bl_app (a b : ByteArray) : bl (a ++ b) = bl a ++ bl b := by
  unfold bl
  rw [ByteArray.data_append, Array.toList_append, List.map_append]
theorem bl_ext (a : ByteArray) (i j : Nat) : bl (a.extract i j) = ((bl a).take j).drop i := by
  unfold bl
  rw [ByteArray.data_extract, Array.toList_extract, List.extract_eq_take_drop, List.map_take, List.map_drop, List.drop_take]
theorem bl_emp : bl (⟨#[]⟩ : ByteArray) = [] := rfl
theorem bl_cons {s : ByteArray} {i : Nat} (h : i < s.size) : (bl s).drop i = bt s (i : Int) :: (bl s).drop (i + 1) := by
  have hl : i < (bl s).length := by rw [bl_len]; exact h
  rw [List.drop_eq_getElem_cons hl, bt_bl, List.getD_eq_getElem?_getD, Int.toNat_natCast, List.getElem?_eq_getElem hl]
  rfl
theorem bl_end {s : ByteArray} {i : Nat} (h : s.size ≤ i) : (bl s).drop i = [] := List.drop_of_length_le (by rw [bl_len]; exact h)
theorem tl_inj {a b : ByteArray} : a.toList = b.toList ↔ a = b := by
  constructor
  · intro h
    rw [ByteArray.toList_eq, ByteArray.toList_eq] at h
    apply ByteArray.ext
    exact Array.toList_inj.1 h
  · rintro rfl; rfl
theorem tl_bl {a b : ByteArray} : a.toList = b.toList ↔ bl a = bl b := tl_inj.trans ⟨fun h => h ▸ rfl, bl_inj⟩
theorem tdiv_pos {a b : Int} (h : 0 ≤ a) : Int.tdiv a b = a / b := Int.tdiv_eq_ediv_of_nonneg h
theorem tmod_pos {a b : Int} (h : 0 ≤ a) : Int.tmod a b = a % b := Int.tmod_eq_emod_of_nonneg h
theorem bne_rfl_bool (b : Bool) : (b != b) = false := by cases b <;> rfl
theorem wf_u32 {n : Int} (h : (Lit.int .u32 n).wf = true) : 0 ≤ n ∧ n < 4294967296 := by
  have h1 : IntKind.u32.min = 0 := by decide +kernel
  have h2 : IntKind.u32.max = 4294967295 := by decide +kernel
  simp only [Lit.wf, h1, h2, Bool.and_eq_true, decide_eq_true_eq] at h
  omega
theorem wf_i64 {n : Int} (h : (Lit.int .i64 n).wf = true) : -9223372036854775808 ≤ n ∧ n < 9223372036854775808 := by
  have h1 : IntKind.i64.min = -9223372036854775808 := by decide +kernel
  have h2 : IntKind.i64.max = 9223372036854775807 := by decide +kernel
  simp only [Lit.wf, h1, h2, Bool.and_eq_true, decide_eq_true_eq] at h
  omega
theorem Byt.one {x : Int} (h : 0 ≤ x ∧ x < 256) : Byt [x] := Byt.nil.cons h
theorem bl_size (s : ByteArray) : s.size = (bl s).length := (bl_len s).symm
theorem str_len (xs : List Int) : (strOfNums xs).size = xs.length := strOfNums_size xs

theorem set_take {α : Type} (xs : List α) {i : Nat} (v : α) (h : i < xs.length) : (xs.set i v).take (i + 1) = xs.take i ++ [v] := by
  rw [List.take_succ_eq_append_getElem (by rw [List.length_set]; exact h), List.getElem_set_self, List.take_set_of_le (Nat.le_refl _)]
theorem getD_at {α : Type} {xs : List α} {i : Nat} (z : α) (h : i < xs.length) : xs.getD ((i : Int)).toNat z = xs[i] := by
  rw [Int.toNat_natCast, List.getD_eq_getElem?_getD, List.getElem?_eq_getElem h]; rfl
theorem rdOf_at {α : Type} {xs : List α} {i : Nat} (z : α) (h : i < xs.length) : rdOf z xs (i : Int) = xs[i] := getD_at z h
theorem rd_at {xs : List Int} {i : Nat} (h : i < xs.length) : rd xs (i : Int) = xs[i] := getD_at 0 h
theorem toNat_len (n : Nat) : ((n : Int) : Int).toNat = n := Int.toNat_natCast n

/-! Marks -/
def digL (n : Nat) : List Int := if h : n > 0 then digL (n / 10) ++ [48 + ((n % 10 : Nat) : Int)] else []
termination_by n
decreasing_by omega
theorem digL_pos {n : Nat} (h : n > 0) : digL n = digL (n / 10) ++ [48 + ((n % 10 : Nat) : Int)] := by rw [digL, dif_pos h]
theorem digL_zero : digL 0 = [] := by rw [digL, dif_neg (by omega)]
theorem digL_byt (n : Nat) : Byt (digL n) := by
  induction n using Nat.strongRecOn with
  | _ n ih =>
    by_cases h : n > 0
    · rw [digL_pos h]; exact (ih _ (by omega)).app (Byt.one ⟨by omega, by omega⟩)
    · obtain rfl : n = 0 := by omega
      rw [digL_zero]; exact Byt.nil
def MB : ByteArray := ⟨#[109]⟩
def mText (m : Int) : ByteArray := if m ≤ 0 then ⟨#[109, 48]⟩ else MB ++ strOfNums (digL m.toNat)
theorem str_app {xs ys : List Int} : strOfNums (xs ++ ys) = strOfNums xs ++ strOfNums ys := by
  apply ByteArray.ext
  unfold strOfNums
  rw [ByteArray.data_append]
  simp
theorem ba_assoc (a b c : ByteArray) : a ++ b ++ c = a ++ (b ++ c) := by
  apply bl_inj
  simp only [bl_app, List.append_assoc]
theorem mText_go (n : Nat) : ∀ acc : ByteArray, acc.size + n ≤ 1000000000000 → Ev (fun k => laws_markText.l0 k (n : Int) acc) (MB ++ (strOfNums (digL n) ++ acc)) := by
  induction n using Nat.strongRecOn with
  | _ n ih =>
    intro acc ha
    by_cases h : n > 0
    · have h1 : (strOfNums [48 + ((n % 10 : Nat) : Int)] ++ acc).size = 1 + acc.size := by rw [bl_size, bl_app, List.length_append, bl_len, bl_len, str_len]; rfl
      have := ih (n / 10) (by omega) (strOfNums [48 + ((n % 10 : Nat) : Int)] ++ acc) (by omega)
      rw [← ba_assoc (strOfNums (digL (n / 10))), ← str_app, ← digL_pos h] at this
      refine this.to fun k => ?_
      have w : wrap64 (48 + Int.tmod (n : Int) 10) % 256 = 48 + ((n % 10 : Nat) : Int) := by rw [tmod_pos (by omega), wid (by omega) (by omega)]; omega
      simp only [laws_markText.l0, w, Option.bind_some]
      clear w
      rw [if_pos (by omega), if_pos (by rw [str_len, List.length_singleton]; omega), tdiv_pos (by omega), wid (by omega) (by omega)]
      congr 1
    · obtain rfl : n = 0 := by omega
      rw [digL_zero]
      refine (Ev.now _).to fun k => ?_
      simp only [laws_markText.l0]
      rw [if_neg (by omega), if_pos (by omega)]
      have e : strOfNums [] ++ acc = acc := by apply bl_inj; rw [bl_app]; rfl
      rw [e]
      rfl
theorem markText (m : Int) (h : m ≤ 100000000000) : Ev (fun k => laws_markText.f k m) (mText m) := by
  unfold laws_markText.f mText
  by_cases h0 : m ≤ 0
  · rw [if_pos h0]; exact Ev.ifp h0 (Ev.now _)
  · rw [if_neg h0]
    refine Ev.ifn h0 ?_
    have := mText_go m.toNat (⟨#[]⟩ : ByteArray) (by show 0 + m.toNat ≤ _; omega)
    rw [Int.toNat_of_nonneg (by omega)] at this
    refine Ev.ofEq this ?_
    congr 1
    apply bl_inj
    rw [bl_app, bl_emp, List.append_nil]
theorem take_set_drop {α : Type} (xs : List α) {i : Nat} (v : α) (h : i < xs.length) : (xs.set i v).drop (i + 1) = xs.drop (i + 1) := by
  rw [List.drop_set_of_lt (by omega)]

def mkS : Int → List ByteArray → List ByteArray
  | _, [] => []
  | m, _ :: l => mText m :: mkS (m + 1) l
theorem mkS_len : ∀ (l : List ByteArray) (m : Int), (mkS m l).length = l.length
  | [], _ => rfl
  | _ :: l, m => by simp only [mkS, List.length_cons, mkS_len l]
theorem markStringS_go : ∀ (d i : Nat) (x0 : List ByteArray) (m : Int), i + d = x0.length → x0.length ≤ 100000000 → 0 ≤ m → m + d ≤ 10000000000 → Ev (fun k => laws_markStringS.l0 k x0 m (i : Int)) (m + d, x0.take i ++ mkS m (x0.drop i))
  | 0, i, x0, m, hi, hl, h0, h1 => by
    rw [List.drop_of_length_le (by omega), List.take_of_length_le (by omega)]
    refine Ev.ofEq ((Ev.now (m, x0)).to fun k => ?_) (by simp [mkS])
    simp only [laws_markStringS.l0]; rw [if_neg (by omega)]
  | d + 1, i, x0, m, hi, hl, h0, h1 => by
    have hlt : i < x0.length := by omega
    have ih := markStringS_go d (i + 1) (x0.set i (mText m)) (m + 1) (by rw [List.length_set]; omega) (by rw [List.length_set]; omega) (by omega) (by omega)
    rw [set_take _ _ hlt, take_set_drop _ _ hlt, List.append_assoc] at ih
    rw [List.drop_eq_getElem_cons hlt, mkS]
    have e : ((m + 1) + (d : Int), x0.take i ++ ([mText m] ++ mkS (m + 1) (x0.drop (i + 1)))) = (m + ((d + 1 : Nat) : Int), x0.take i ++ mText m :: mkS (m + 1) (x0.drop (i + 1))) := by
      rw [List.singleton_append]; congr 1; omega
    rw [e] at ih
    refine Ev.to (f := fun k => (laws_markText.f k m).bind fun t => laws_markStringS.l0 k (x0.set i t) (m + 1) ((i + 1 : Nat) : Int)) ((markText m (by omega)).bind ih) fun k => ?_
    have w1 : wrap64 (m + 1) = m + 1 := wid (by omega) (by omega)
    have w2 : wrap64 ((i : Int) + 1) = ((i + 1 : Nat) : Int) := by rw [wid (by omega) (by omega)]; rfl
    simp only [laws_markStringS.l0, w1, w2, Int.toNat_natCast, if_pos (show (0 : Int) ≤ (i : Int) by omega), if_pos (show (i : Int) < x0.length by omega)]
theorem markStringS (x0 : List ByteArray) (m : Int) (hl : x0.length ≤ 100000000) (h0 : 0 ≤ m) (h1 : m ≤ 1000000000) : Ev (fun k => laws_markStringS.f k x0 m) (m + x0.length, mkS m x0) := by
  unfold laws_markStringS.f
  have := markStringS_go x0.length 0 x0 m (by omega) hl h0 (by omega)
  simpa using this
theorem heldStringS_go (z : List ByteArray) (hl : z.length ≤ 100000000) : ∀ (d i : Nat) (l : List ByteArray) (m : Int), l.length = d → i + d = z.length → z.drop i = mkS m l → 0 ≤ m → m + d ≤ 10000000000 → Ev (fun k => laws_heldStringS.l0 k z m (i : Int)) (m + d)
  | 0, i, l, m, hd, hi, hz, h0, h1 => by
    refine Ev.ofEq ((Ev.now m).to fun k => ?_) (by omega)
    simp only [laws_heldStringS.l0]; rw [if_neg (by omega)]
  | d + 1, i, [], m, hd, hi, hz, h0, h1 => by simp at hd
  | d + 1, i, x :: l, m, hd, hi, hz, h0, h1 => by
    have hlt : i < z.length := by omega
    rw [List.drop_eq_getElem_cons hlt, mkS, List.cons.injEq] at hz
    have ih := heldStringS_go z hl d (i + 1) l (m + 1) (by simpa using hd) (by omega) hz.2 (by omega) (by omega)
    refine Ev.ofEq (r := m + 1 + d) ?_ (by omega)
    refine Ev.to (f := fun k => (laws_markText.f k m).bind fun t => if z[i].toList = t.toList then laws_heldStringS.l0 k z (m + 1) ((i + 1 : Nat) : Int) else some (-1)) (r := m + 1 + d) ?_ fun k => ?_
    · refine (markText m (by omega)).bind ?_
      refine Ev.ifp ?_ ih
      rw [hz.1]
    have w1 : wrap64 (m + 1) = m + 1 := wid (by omega) (by omega)
    have w2 : wrap64 ((i : Int) + 1) = ((i + 1 : Nat) : Int) := by rw [wid (by omega) (by omega)]; rfl
    simp only [laws_heldStringS.l0, w1, w2]
    clear w1 w2
    rw [if_pos (by omega), if_pos (by omega), rdOf_at _ hlt]
theorem heldStringS (l : List ByteArray) (m : Int) (hl : l.length ≤ 100000000) (h0 : 0 ≤ m) (h1 : m ≤ 1000000000) : Ev (fun k => laws_heldStringS.f k (mkS m l) m) (m + l.length) := by
  unfold laws_heldStringS.f
  exact heldStringS_go (mkS m l) (by rw [mkS_len]; exact hl) l.length 0 l m rfl (by rw [mkS_len]; omega) (by simp) h0 (by omega)

theorem ri_Put {xs : List S143} {i : Nat} (h : i < xs.length) : rd_T143 xs (i : Int) = xs[i] := getD_at _ h

def mkPut : Int → List S143 → List S143
  | _, [] => []
  | m, _ :: l => ⟨m, mText (m + 1)⟩ :: mkPut (m + 2) l
theorem mkPut_len : ∀ (l : List S143) (m : Int), (mkPut m l).length = l.length
  | [], _ => rfl
  | _ :: l, m => by simp only [mkPut, List.length_cons, mkPut_len l]
theorem ri_set_Put {xs : List S143} {i : Nat} (v : S143) (h : i < xs.length) : rd_T143 (xs.set i v) (i : Int) = v := by
  rw [ri_Put (by rw [List.length_set]; exact h), List.getElem_set_self]
theorem markPutS_go : ∀ (d i : Nat) (x0 : List S143) (m : Int), i + d = x0.length → x0.length ≤ 100000000 → 0 ≤ m → m + 2 * d ≤ 10000000000 → Ev (fun k => laws_markPutS.l0 k x0 m (i : Int)) (m + 2 * d, x0.take i ++ mkPut m (x0.drop i))
  | 0, i, x0, m, hi, hl, h0, h1 => by
    rw [List.drop_of_length_le (by omega), List.take_of_length_le (by omega)]
    refine Ev.ofEq ((Ev.now (m, x0)).to fun k => ?_) (by simp [mkPut])
    simp only [laws_markPutS.l0]; rw [if_neg (by omega)]
  | d + 1, i, x0, m, hi, hl, h0, h1 => by
    have hlt : i < x0.length := by omega
    have ih := markPutS_go d (i + 1) (x0.set i ⟨m, mText (m + 1)⟩) (m + 2) (by rw [List.length_set]; omega) (by rw [List.length_set]; omega) (by omega) (by omega)
    rw [set_take _ _ hlt, take_set_drop _ _ hlt, List.append_assoc] at ih
    rw [List.drop_eq_getElem_cons hlt, mkPut]
    have e : ((m + 2) + 2 * (d : Int), x0.take i ++ ([⟨m, mText (m + 1)⟩] ++ mkPut (m + 2) (x0.drop (i + 1)))) = (m + 2 * ((d + 1 : Nat) : Int), x0.take i ++ ⟨m, mText (m + 1)⟩ :: mkPut (m + 2) (x0.drop (i + 1))) := by
      rw [List.singleton_append]; congr 1; omega
    rw [e] at ih
    refine Ev.to (f := fun k => (laws_markText.f k (m + 1)).bind fun t1 => laws_markPutS.l0 k (x0.set i ⟨m, t1⟩) (m + 2) ((i + 1 : Nat) : Int)) (r := (m + 2 * ((d + 1 : Nat) : Int), x0.take i ++ ⟨m, mText (m + 1)⟩ :: mkPut (m + 2) (x0.drop (i + 1)))) ?_ fun k => ?_
    · skip
      refine (markText _ (by omega)).bind ?_
      exact ih
    have w0 : wrap64 (m + 1) = m + 1 := wid (by omega) (by omega)
    have w1 : wrap64 (m + 1 + 1) = m + 2 := by rw [wid (by omega) (by omega)]; omega
    have w_ : wrap64 ((i : Int) + 1) = ((i + 1 : Nat) : Int) := by rw [wid (by omega) (by omega)]; rfl
    simp only [laws_markPutS.l0, w0, w1, w_, Int.toNat_natCast, Option.bind_some, ri_Put hlt, ri_set_Put _ hlt, List.set_set, if_pos (show (i : Int) < (x0.length : Int) by omega), if_pos (show (0 : Int) ≤ (i : Int) by omega)]
theorem markPutS (x0 : List S143) (m : Int) (hl : x0.length ≤ 100000000) (h0 : 0 ≤ m) (h1 : m ≤ 1000000000) : Ev (fun k => laws_markPutS.f k x0 m) (m + 2 * x0.length, mkPut m x0) := by
  unfold laws_markPutS.f
  have := markPutS_go x0.length 0 x0 m (by omega) hl h0 (by omega)
  simpa using this
theorem heldPutS_go (z : List S143) (hl : z.length ≤ 100000000) : ∀ (d i : Nat) (l : List S143) (m : Int), l.length = d → i + d = z.length → z.drop i = mkPut m l → 0 ≤ m → m + 2 * d ≤ 10000000000 → Ev (fun k => laws_heldPutS.l0 k z m (i : Int)) (m + 2 * d)
  | 0, i, l, m, hd, hi, hz, h0, h1 => by
    refine Ev.ofEq ((Ev.now m).to fun k => ?_) (by omega)
    simp only [laws_heldPutS.l0]; rw [if_neg (by omega)]
  | d + 1, i, [], m, hd, hi, hz, h0, h1 => by simp at hd
  | d + 1, i, x :: l, m, hd, hi, hz, h0, h1 => by
    have hlt : i < z.length := by omega
    rw [List.drop_eq_getElem_cons hlt, mkPut, List.cons.injEq] at hz
    have ih := heldPutS_go z hl d (i + 1) l (m + 2) (by simpa using hd) (by omega) hz.2 (by omega) (by omega)
    refine Ev.ofEq (r := m + 2 + 2 * d) ?_ (by omega)
    refine Ev.to (f := fun k => if z[i].f0 = m then (laws_markText.f k (m + 1)).bind fun t1 => if z[i].f1.toList = t1.toList then laws_heldPutS.l0 k z (m + 2) ((i + 1 : Nat) : Int) else some (-1) else some (-1)) (r := m + 2 + 2 * d) ?_ fun k => ?_
    · skip
      refine Ev.ifp (by rw [hz.1]) ?_
      refine (markText _ (by omega)).bind ?_
      refine Ev.ifp (by rw [hz.1]) ?_
      exact ih
    have w0 : wrap64 (m + 1) = m + 1 := wid (by omega) (by omega)
    have w1 : wrap64 (m + 1 + 1) = m + 2 := by rw [wid (by omega) (by omega)]; omega
    have w_ : wrap64 ((i : Int) + 1) = ((i + 1 : Nat) : Int) := by rw [wid (by omega) (by omega)]; rfl
    simp only [laws_heldPutS.l0, w0, w1, w_, ri_Put hlt]
    clear w_ w0 w1
    rw [if_pos (by omega), if_pos (by omega)]
theorem heldPutS (l : List S143) (m : Int) (hl : l.length ≤ 100000000) (h0 : 0 ≤ m) (h1 : m ≤ 1000000000) : Ev (fun k => laws_heldPutS.f k (mkPut m l) m) (m + 2 * l.length) := by
  unfold laws_heldPutS.f
  exact heldPutS_go (mkPut m l) (by rw [mkPut_len]; exact hl) l.length 0 l m rfl (by rw [mkPut_len]; omega) (by simp) h0 (by omega)

theorem markDevice (s : List ByteArray) (p : List S143) (m : Int) (hs : s.length ≤ 1000000) (hp : p.length ≤ 1000000) (h0 : 0 ≤ m) (h1 : m ≤ 10000000) : Ev (fun k => laws_markDevice.f k s p m) (m + s.length + 2 * p.length, mkS m s, mkPut (m + s.length) p) := by
  unfold laws_markDevice.f
  exact (markStringS s m (by omega) h0 (by omega)).bind ((markPutS p (m + s.length) (by omega) (by omega) (by omega)).bind (Ev.now _))
theorem heldDevice (s : List ByteArray) (p : List S143) (m : Int) (hs : s.length ≤ 1000000) (hp : p.length ≤ 1000000) (h0 : 0 ≤ m) (h1 : m ≤ 10000000) : Ev (fun k => laws_heldDevice.f k (mkS m s) (mkPut (m + s.length) p) m) (m + s.length + 2 * p.length) := by
  unfold laws_heldDevice.f
  refine (heldStringS s m (by omega) h0 (by omega)).bind (Ev.ifn (by omega) ((heldPutS p (m + s.length) (by omega) (by omega) (by omega)).bind (Ev.ifn (by omega) (Ev.now _))))
theorem mark0 (s : List ByteArray) (p : List S143) (hs : s.length ≤ 1048576) (hp : p.length ≤ 1048576) : Ev (fun k => laws_markDevice.f k s p 1) (1 + s.length + 2 * p.length, mkS 1 s, mkPut (1 + s.length) p) := by
  unfold laws_markDevice.f
  exact (markStringS s 1 (by omega) (by omega) (by omega)).bind ((markPutS p (1 + s.length) (by omega) (by omega) (by omega)).bind (Ev.now _))

theorem eqPut_self (x : S143) : laws_eqPut.f x.f0 x.f1 x.f0 x.f1 = some true := by unfold laws_eqPut.f; simp
theorem eqPutS_go (x0 : List S143) (hl : x0.length ≤ 100000000) : ∀ (d i : Nat), i + d = x0.length → Ev (fun k => laws_eqPutS.l0 k x0 x0 (i : Int)) true
  | 0, i, hi => (Ev.now _).to fun k => by simp only [laws_eqPutS.l0]; rw [if_neg (by omega)]
  | d + 1, i, hi => by
    refine (eqPutS_go x0 hl d (i + 1) (by omega)).to fun k => ?_
    simp only [laws_eqPutS.l0]
    rw [if_pos (by omega), if_pos (by omega), if_pos (by omega), eqPut_self]
    simp only [Option.bind_some, if_true]
    rw [wid (by omega) (by omega)]
    rfl
theorem eqPutS (x0 : List S143) (hl : x0.length ≤ 100000000) : Ev (fun k => laws_eqPutS.f k x0 x0) true := by
  unfold laws_eqPutS.f
  exact Ev.ifp rfl (eqPutS_go x0 hl x0.length 0 (by omega))

theorem eqStringS_go (x0 : List ByteArray) (hl : x0.length ≤ 100000000) : ∀ (d i : Nat), i + d = x0.length → Ev (fun k => laws_eqStringS.l0 k x0 x0 (i : Int)) true
  | 0, i, hi => (Ev.now _).to fun k => by simp only [laws_eqStringS.l0]; rw [if_neg (by omega)]
  | d + 1, i, hi => by
    refine (eqStringS_go x0 hl d (i + 1) (by omega)).to fun k => ?_
    simp only [laws_eqStringS.l0, if_true]
    rw [if_pos (by omega), if_pos (by omega), if_pos (by omega), wid (by omega) (by omega)]
    rfl
theorem eqStringS (x0 : List ByteArray) (hl : x0.length ≤ 100000000) : Ev (fun k => laws_eqStringS.f k x0 x0) true := by
  unfold laws_eqStringS.f
  exact Ev.ifp rfl (eqStringS_go x0 hl x0.length 0 (by omega))

theorem eqDevice (s : List ByteArray) (p : List S143) (hs : s.length ≤ 100000000) (hp : p.length ≤ 100000000) : Ev (fun k => laws_eqDevice.f k s p s p) true := by
  unfold laws_eqDevice.f
  refine (eqStringS s hs).bind (Ev.ifp rfl ((eqPutS p hp).bind (Ev.ifp rfl (Ev.now _))))

theorem ri_Pair {xs : List S195} {i : Nat} (h : i < xs.length) : rd_T195 xs (i : Int) = xs[i] := getD_at _ h

def mkPair : Int → List S195 → List S195
  | _, [] => []
  | m, _ :: l => ⟨mText m, mText (m + 1)⟩ :: mkPair (m + 2) l
theorem mkPair_len : ∀ (l : List S195) (m : Int), (mkPair m l).length = l.length
  | [], _ => rfl
  | _ :: l, m => by simp only [mkPair, List.length_cons, mkPair_len l]
theorem ri_set_Pair {xs : List S195} {i : Nat} (v : S195) (h : i < xs.length) : rd_T195 (xs.set i v) (i : Int) = v := by
  rw [ri_Pair (by rw [List.length_set]; exact h), List.getElem_set_self]
theorem markPairS_go : ∀ (d i : Nat) (x0 : List S195) (m : Int), i + d = x0.length → x0.length ≤ 100000000 → 0 ≤ m → m + 2 * d ≤ 10000000000 → Ev (fun k => laws_markPairS.l0 k x0 m (i : Int)) (m + 2 * d, x0.take i ++ mkPair m (x0.drop i))
  | 0, i, x0, m, hi, hl, h0, h1 => by
    rw [List.drop_of_length_le (by omega), List.take_of_length_le (by omega)]
    refine Ev.ofEq ((Ev.now (m, x0)).to fun k => ?_) (by simp [mkPair])
    simp only [laws_markPairS.l0]; rw [if_neg (by omega)]
  | d + 1, i, x0, m, hi, hl, h0, h1 => by
    have hlt : i < x0.length := by omega
    have ih := markPairS_go d (i + 1) (x0.set i ⟨mText m, mText (m + 1)⟩) (m + 2) (by rw [List.length_set]; omega) (by rw [List.length_set]; omega) (by omega) (by omega)
    rw [set_take _ _ hlt, take_set_drop _ _ hlt, List.append_assoc] at ih
    rw [List.drop_eq_getElem_cons hlt, mkPair]
    have e : ((m + 2) + 2 * (d : Int), x0.take i ++ ([⟨mText m, mText (m + 1)⟩] ++ mkPair (m + 2) (x0.drop (i + 1)))) = (m + 2 * ((d + 1 : Nat) : Int), x0.take i ++ ⟨mText m, mText (m + 1)⟩ :: mkPair (m + 2) (x0.drop (i + 1))) := by
      rw [List.singleton_append]; congr 1; omega
    rw [e] at ih
    refine Ev.to (f := fun k => (laws_markText.f k (m)).bind fun t0 => (laws_markText.f k (m + 1)).bind fun t1 => laws_markPairS.l0 k (x0.set i ⟨t0, t1⟩) (m + 2) ((i + 1 : Nat) : Int)) (r := (m + 2 * ((d + 1 : Nat) : Int), x0.take i ++ ⟨mText m, mText (m + 1)⟩ :: mkPair (m + 2) (x0.drop (i + 1)))) ?_ fun k => ?_
    · skip
      refine (markText _ (by omega)).bind ?_
      refine (markText _ (by omega)).bind ?_
      exact ih
    have w0 : wrap64 (m + 1) = m + 1 := wid (by omega) (by omega)
    have w1 : wrap64 (m + 1 + 1) = m + 2 := by rw [wid (by omega) (by omega)]; omega
    have w_ : wrap64 ((i : Int) + 1) = ((i + 1 : Nat) : Int) := by rw [wid (by omega) (by omega)]; rfl
    simp only [laws_markPairS.l0, w0, w1, w_, Int.toNat_natCast, Option.bind_some, ri_Pair hlt, ri_set_Pair _ hlt, List.set_set, if_pos (show (i : Int) < (x0.length : Int) by omega), if_pos (show (0 : Int) ≤ (i : Int) by omega)]
theorem markPairS (x0 : List S195) (m : Int) (hl : x0.length ≤ 100000000) (h0 : 0 ≤ m) (h1 : m ≤ 1000000000) : Ev (fun k => laws_markPairS.f k x0 m) (m + 2 * x0.length, mkPair m x0) := by
  unfold laws_markPairS.f
  have := markPairS_go x0.length 0 x0 m (by omega) hl h0 (by omega)
  simpa using this
theorem heldPairS_go (z : List S195) (hl : z.length ≤ 100000000) : ∀ (d i : Nat) (l : List S195) (m : Int), l.length = d → i + d = z.length → z.drop i = mkPair m l → 0 ≤ m → m + 2 * d ≤ 10000000000 → Ev (fun k => laws_heldPairS.l0 k z m (i : Int)) (m + 2 * d)
  | 0, i, l, m, hd, hi, hz, h0, h1 => by
    refine Ev.ofEq ((Ev.now m).to fun k => ?_) (by omega)
    simp only [laws_heldPairS.l0]; rw [if_neg (by omega)]
  | d + 1, i, [], m, hd, hi, hz, h0, h1 => by simp at hd
  | d + 1, i, x :: l, m, hd, hi, hz, h0, h1 => by
    have hlt : i < z.length := by omega
    rw [List.drop_eq_getElem_cons hlt, mkPair, List.cons.injEq] at hz
    have ih := heldPairS_go z hl d (i + 1) l (m + 2) (by simpa using hd) (by omega) hz.2 (by omega) (by omega)
    refine Ev.ofEq (r := m + 2 + 2 * d) ?_ (by omega)
    refine Ev.to (f := fun k => (laws_markText.f k (m)).bind fun t0 => if z[i].f0.toList = t0.toList then (laws_markText.f k (m + 1)).bind fun t1 => if z[i].f1.toList = t1.toList then laws_heldPairS.l0 k z (m + 2) ((i + 1 : Nat) : Int) else some (-1) else some (-1)) (r := m + 2 + 2 * d) ?_ fun k => ?_
    · skip
      refine (markText _ (by omega)).bind ?_
      refine Ev.ifp (by rw [hz.1]) ?_
      refine (markText _ (by omega)).bind ?_
      refine Ev.ifp (by rw [hz.1]) ?_
      exact ih
    have w0 : wrap64 (m + 1) = m + 1 := wid (by omega) (by omega)
    have w1 : wrap64 (m + 1 + 1) = m + 2 := by rw [wid (by omega) (by omega)]; omega
    have w_ : wrap64 ((i : Int) + 1) = ((i + 1 : Nat) : Int) := by rw [wid (by omega) (by omega)]; rfl
    simp only [laws_heldPairS.l0, w0, w1, w_, ri_Pair hlt]
    clear w_ w0 w1
    rw [if_pos (by omega), if_pos (by omega)]
theorem heldPairS (l : List S195) (m : Int) (hl : l.length ≤ 100000000) (h0 : 0 ≤ m) (h1 : m ≤ 1000000000) : Ev (fun k => laws_heldPairS.f k (mkPair m l) m) (m + 2 * l.length) := by
  unfold laws_heldPairS.f
  exact heldPairS_go (mkPair m l) (by rw [mkPair_len]; exact hl) l.length 0 l m rfl (by rw [mkPair_len]; omega) (by simp) h0 (by omega)

theorem eqPair_self (x : S195) : laws_eqPair.f x.f0 x.f1 x.f0 x.f1 = some true := by unfold laws_eqPair.f; simp
theorem eqPairS_go (x0 : List S195) (hl : x0.length ≤ 100000000) : ∀ (d i : Nat), i + d = x0.length → Ev (fun k => laws_eqPairS.l0 k x0 x0 (i : Int)) true
  | 0, i, hi => (Ev.now _).to fun k => by simp only [laws_eqPairS.l0]; rw [if_neg (by omega)]
  | d + 1, i, hi => by
    refine (eqPairS_go x0 hl d (i + 1) (by omega)).to fun k => ?_
    simp only [laws_eqPairS.l0]
    rw [if_pos (by omega), if_pos (by omega), if_pos (by omega), eqPair_self]
    simp only [Option.bind_some, if_true]
    rw [wid (by omega) (by omega)]
    rfl
theorem eqPairS (x0 : List S195) (hl : x0.length ≤ 100000000) : Ev (fun k => laws_eqPairS.f k x0 x0) true := by
  unfold laws_eqPairS.f
  exact Ev.ifp rfl (eqPairS_go x0 hl x0.length 0 (by omega))

theorem eqRoot (a b : Int) : laws_eqRoot.f a b a b = some true := by unfold laws_eqRoot.f; simp
theorem eqStore (s : List ByteArray) (p : List S143) (m : List S195) (a b : Int) (hs : s.length ≤ 100000000) (hp : p.length ≤ 100000000) (hm : m.length ≤ 100000000) : Ev (fun k => laws_eqStore.f k s p m a b s p m a b) true := by
  unfold laws_eqStore.f
  refine (eqDevice s p hs hp).bind (Ev.ifp rfl ((eqPairS m hm).bind (Ev.ifp rfl ?_)))
  rw [eqRoot]
  exact Ev.now _
theorem markStore (s : List ByteArray) (p : List S143) (m : List S195) (a b n : Int) (hs : s.length ≤ 1000000) (hp : p.length ≤ 1000000) (hm : m.length ≤ 1000000) (h0 : 0 ≤ n) (h1 : n ≤ 10000000) : Ev (fun k => laws_markStore.f k s p m a b n) (n + s.length + 2 * p.length + 2 * m.length, mkS n s, mkPut (n + s.length) p, mkPair (n + s.length + 2 * p.length) m) := by
  unfold laws_markStore.f
  exact (markDevice s p n hs hp h0 h1).bind ((markPairS m _ (by omega) (by omega) (by omega)).bind (Ev.now _))
theorem heldStore (s : List ByteArray) (p : List S143) (m : List S195) (a b n : Int) (hs : s.length ≤ 1000000) (hp : p.length ≤ 1000000) (hm : m.length ≤ 1000000) (h0 : 0 ≤ n) (h1 : n ≤ 10000000) : Ev (fun k => laws_heldStore.f k (mkS n s) (mkPut (n + s.length) p) (mkPair (n + s.length + 2 * p.length) m) a b n) (n + s.length + 2 * p.length + 2 * m.length) := by
  unfold laws_heldStore.f
  exact (heldDevice s p n hs hp h0 h1).bind (Ev.ifn (by omega) ((heldPairS m _ (by omega) (by omega) (by omega)).bind (Ev.ifn (by omega) (Ev.now _))))

/-! Sums -/
def U32 (s : Int) : Prop := 0 ≤ s ∧ s < 4294967296
theorem xor_u32 {a b : Int} (h : U32 a) (h' : U32 b) : U32 (Go.bits .xor .u32 a b) := by
  rw [Go.u32_xor a b h.1 h.2 h'.1 h'.2]
  have : a.toNat ^^^ b.toNat < 2 ^ 32 := Nat.xor_lt_two_pow (by have := h.2; have := h.1; omega) (by have := h'.2; have := h'.1; omega)
  exact ⟨by omega, by omega⟩
theorem and1_u32 {a : Int} (h : U32 a) : Go.bits .and .u32 a 1 = a % 2 := by
  rw [Go.u32_and a 1 h.1 h.2 (by decide) (by decide)]
  have : (1 : Int).toNat = 1 := rfl
  rw [this, Nat.and_one_is_mod]
  have := h.1
  omega
def crcBit (s : Int) : Int := if s % 2 = 1 then Go.bits .xor .u32 (s / 2) 3558460437 else s / 2
def crcN : Nat → Int → Int
  | 0, s => s
  | n + 1, s => crcN n (crcBit s)
def crcByte (s b : Int) : Int := crcN 8 (Go.bits .xor .u32 s b)
def crcL (s : Int) (l : List Int) : Int := l.foldl crcByte s
theorem crcBit_u32 {s : Int} (h : U32 s) : U32 (crcBit s) := by
  unfold crcBit
  have : U32 (s / 2) := ⟨by have := h.1; omega, by have := h.2; omega⟩
  split
  · exact xor_u32 this ⟨by decide, by decide⟩
  · exact this
theorem crcN_u32 : ∀ (n : Nat) {s : Int}, U32 s → U32 (crcN n s)
  | 0, _, h => h
  | n + 1, _, h => crcN_u32 n (crcBit_u32 h)
theorem crcByte_u32 {s b : Int} (h : U32 s) (hb : 0 ≤ b ∧ b < 256) : U32 (crcByte s b) := crcN_u32 8 (xor_u32 h ⟨hb.1, by omega⟩)
theorem crcL_cons (s b : Int) (l : List Int) : crcL s (b :: l) = crcL (crcByte s b) l := by unfold crcL; rw [List.foldl_cons]
theorem crcL_u32 : ∀ (l : List Int) {s : Int}, U32 s → Byt l → U32 (crcL s l)
  | [], _, h, _ => h
  | b :: l, s, h, hb => by rw [crcL_cons]; exact crcL_u32 l (crcByte_u32 h hb.head) hb.tail
theorem crcL_app (s : Int) (l l' : List Int) : crcL s (l ++ l') = crcL (crcL s l) l' := by unfold crcL; rw [List.foldl_append]

theorem u32_top : U32 4294967295 := ⟨by decide, by decide⟩
def sumB (s : ByteArray) : Int := crcL 4294967295 (bl s)
theorem sumB_u32 (s : ByteArray) : U32 (sumB s) := crcL_u32 _ u32_top (bl_byt s)
def four (n : Int) : List Int := [(n / 16777216) % 256, (n / 65536) % 256, (n / 256) % 256, n % 256]
theorem four_byt (n : Int) : Byt (four n) := (((Byt.one ⟨by omega, by omega⟩).cons ⟨by omega, by omega⟩).cons ⟨by omega, by omega⟩).cons ⟨by omega, by omega⟩
theorem four_len (n : Int) : (four n).length = 4 := rfl
def pSealed (s : ByteArray) : ByteArray × Bool := if s.size > 8000 then (⟨#[]⟩, false) else (s ++ strOfNums (four (sumB s)), true)

def cutB (s : ByteArray) : ByteArray := s.extract 0 (s.size - 4)
def pUnsealed (s : ByteArray) : ByteArray × Bool := if 4 ≤ s.size ∧ s.size - 4 ≤ 8000 ∧ (bl s).drop (s.size - 4) = four (sumB (cutB s)) then (cutB s, true) else (⟨#[]⟩, false)
theorem cutB_bl (s : ByteArray) : bl (cutB s) = (bl s).take (s.size - 4) := by unfold cutB; rw [bl_ext, List.drop_zero]
theorem cutB_size (s : ByteArray) : (cutB s).size = s.size - 4 := by rw [bl_size, cutB_bl, List.length_take, bl_len]; omega

/-! Roots -/
def two (n : Int) : List Int := [(n / 256) % 256, n % 256]
theorem two_byt (n : Int) : Byt (two n) := (Byt.one ⟨by omega, by omega⟩).cons ⟨by omega, by omega⟩
def rootL (a b : Int) : List Int := 82 :: (four a ++ two (b + 1))
theorem rootL_byt (a b : Int) : Byt (rootL a b) := ((four_byt a).app (two_byt _)).cons ⟨by decide, by decide⟩
def rootB (a b : Int) : ByteArray := strOfNums (rootL a b)
theorem rootB_size (a b : Int) : (rootB a b).size = 7 := by unfold rootB; rw [str_len]; rfl
theorem rootB_bl (a b : Int) : bl (rootB a b) = rootL a b := bl_str (rootL_byt a b)
def pRootText (a b : Int) : ByteArray × Bool := if (0 ≤ a ∧ a ≤ 1000000000) ∧ (-1 ≤ b ∧ b ≤ 399) then (rootB a b ++ strOfNums (four (sumB (rootB a b))), true) else (⟨#[]⟩, false)
theorem pSealed_root (a b : Int) : pSealed (rootB a b) = (rootB a b ++ strOfNums (four (sumB (rootB a b))), true) := by
  unfold pSealed
  rw [if_neg (by rw [rootB_size]; omega)]

def pDeviceNew (n : Int) : List ByteArray × List S143 × Bool := if 1 ≤ n ∧ n ≤ 400 then (List.replicate n.toNat (⟨#[]⟩ : ByteArray), [], true) else ([], [], false)

def pFormat (n : Int) : List ByteArray × List S143 × List S195 × Int × Int × Bool := if 4 ≤ n ∧ n ≤ 400 then ((List.replicate n.toNat (⟨#[]⟩ : ByteArray)).set 0 (pRootText 0 (-1)).1, [], [], 0, -1, true) else ([], [], [], 0, 0, false)

theorem spec_sm_l1 (s : ByteArray) (i : Int) {r : Int} : ∀ (n : Nat) (x : Int), n ≤ 8 → U32 x → Ev (fun k => spec_SumMore.l0 k (crcN n x) s (wrap64 (i + 1))) r → Ev (fun k => spec_SumMore.l1 k x s i (8 - (n : Int))) r
  | 0, x, _, _, h => h.to fun k => by simp only [spec_SumMore.l1]; rw [if_neg (by omega)]; rfl
  | n + 1, x, hn, hx, h => by
    have h1 := hx.1
    have h2 := hx.2
    refine (spec_sm_l1 s i n (crcBit x) (by omega) (crcBit_u32 hx) h).to fun k => ?_
    simp only [spec_SumMore.l1]
    rw [if_pos (by omega), tmod_pos h1, tdiv_pos h1, wid (by omega) (by omega), show (x / 2) % 4294967296 = x / 2 by omega, show (8 - ((n + 1 : Nat) : Int) + 1) = 8 - (n : Int) by omega]
    unfold crcBit
    by_cases hb : x % 2 = 1
    · rw [if_pos hb, if_pos hb]
    · rw [if_neg hb, if_neg hb]
theorem spec_sm_l0 (s : ByteArray) (hs : s.size ≤ 140737488351232) : ∀ (d i : Nat) (x : Int), i + d = s.size → U32 x → Ev (fun k => spec_SumMore.l0 k x s (i : Int)) (crcL x ((bl s).drop i))
  | 0, i, x, hi, _ => by
    refine (Ev.now _).to fun k => ?_
    simp only [spec_SumMore.l0]
    rw [if_neg (by omega), bl_end (by omega)]
    rfl
  | d + 1, i, x, hi, hx => by
    have hb := bt_range s (i : Int)
    rw [bl_cons (by omega), crcL_cons]
    have hx' : U32 (Go.bits .xor .u32 x (bt s i)) := xor_u32 hx ⟨hb.1, by omega⟩
    have := spec_sm_l0 s hs d (i + 1) (crcByte x (bt s i)) (by omega) (crcByte_u32 hx ⟨hb.1, by omega⟩)
    refine (spec_sm_l1 s i 8 _ (Nat.le_refl _) hx' (by rw [wid (by omega) (by omega)]; exact this)).to fun k => ?_
    simp only [spec_SumMore.l0]
    rw [if_pos (by omega), if_pos (by omega), show bt s (i : Int) % 4294967296 = bt s i by omega]
    rfl
theorem spec_sm (x : Int) (s : ByteArray) (hs : s.size ≤ 140737488351232) (hx : U32 x) : Ev (fun k => spec_SumMore.f k x s) (crcL x (bl s)) := spec_sm_l0 s hs s.size 0 x (by omega) hx

theorem sSumOf (s : ByteArray) (hs : s.size ≤ 140737488351232) : Ev (fun k => spec_SumOf.f k s) (sumB s) := by
  unfold spec_SumOf.f
  exact (spec_sm _ s hs u32_top).bind (Ev.now _)

theorem sSealed (s : ByteArray) (hs : s.size ≤ 140737488351232) : Ev (fun k => spec_Sealed.f k s) (pSealed s) := by
  unfold spec_Sealed.f pSealed
  by_cases h : s.size > 8000
  · rw [if_pos h]
    simp only [if_pos (show (s.size : Int) > 8000 by omega)]
    exact Ev.now _
  · rw [if_neg h]
    simp only [if_neg (show ¬ (s.size : Int) > 8000 by omega)]
    refine (sSumOf s hs).bind ?_
    simp only [spec_l02Four.f, Option.bind_some]
    exact Ev.same (if_pos (by rw [str_len]; show s.size + 4 ≤ _; omega))

theorem s_in (a b c : Int) : spec_l01In.f a b c = some (decide (b ≤ a ∧ a ≤ c)) := by
  unfold spec_l01In.f
  by_cases h : a ≥ b
  · rw [if_pos h]; simp [show b ≤ a from h]
  · rw [if_neg h]; simp [show ¬ b ≤ a from h]
theorem s_in_t {a b c : Int} (h : b ≤ a ∧ a ≤ c) : spec_l01In.f a b c = some true := by rw [s_in, decide_eq_true h]
theorem s_in_f {a b c : Int} (h : ¬ (b ≤ a ∧ a ≤ c)) : spec_l01In.f a b c = some false := by rw [s_in, decide_eq_false h]

theorem sBig_step (sz n : Int) (acc : ByteArray) (i : Nat) {r : ByteArray} (hn : 0 ≤ n) (hn' : n ≤ 1000000000000) (hi : (i : Int) < sz) (ha : acc.size ≤ 1000) (hs : i ≤ 1000) (h : Ev (fun k => spec_l06Big.l0 k (n / 256) sz (strOfNums [n % 256] ++ acc) ((i + 1 : Nat) : Int)) r) : Ev (fun k => spec_l06Big.l0 k n sz acc (i : Int)) r := by
  refine h.to fun k => ?_
  have w1 : Int.tmod n 256 % 256 = n % 256 := by rw [tmod_pos hn]; omega
  have w2 : wrap64 (Int.tdiv n 256) = n / 256 := by rw [tdiv_pos hn, wid (by omega) (by omega)]
  have w3 : wrap64 ((i : Int) + 1) = ((i + 1 : Nat) : Int) := by rw [wid (by omega) (by omega)]; rfl
  simp only [spec_l06Big.l0, w1, w2, w3, Option.bind_some]
  clear w1 w2 w3
  rw [if_pos hi, if_pos (by rw [str_len, List.length_singleton]; omega)]
theorem sBig_end (sz n : Int) (acc : ByteArray) (i : Nat) (hi : ¬ (i : Int) < sz) : Ev (fun k => spec_l06Big.l0 k n sz acc (i : Int)) acc := (Ev.now _).to fun k => by simp only [spec_l06Big.l0]; rw [if_neg hi]
theorem str1_size (x : Int) (a : ByteArray) : (strOfNums [x] ++ a).size = 1 + a.size := by rw [bl_size, bl_app, List.length_append, bl_len, bl_len, str_len]; rfl
theorem sBig4 (n : Int) (h0 : 0 ≤ n) (h1 : n ≤ 1000000000) : Ev (fun k => spec_l06Big.f k n 4) (strOfNums (four n)) := by
  unfold spec_l06Big.f
  have e0 : (⟨#[]⟩ : ByteArray).size = 0 := rfl
  refine Ev.ofEq (sBig_step 4 n _ 0 h0 (by omega) (by decide) (by rw [e0]; omega) (by omega) (sBig_step 4 (n / 256) _ 1 (by omega) (by omega) (by decide) (by rw [str1_size, e0]; omega) (by omega) (sBig_step 4 (n / 256 / 256) _ 2 (by omega) (by omega) (by decide) (by rw [str1_size, str1_size, e0]; omega) (by omega) (sBig_step 4 (n / 256 / 256 / 256) _ 3 (by omega) (by omega) (by decide) (by rw [str1_size, str1_size, str1_size, e0]; omega) (by omega) (sBig_end 4 _ _ 4 (by decide)))))) ?_
  apply bl_inj
  rw [bl_str (four_byt n)]
  simp only [bl_app, bl_emp, List.append_nil]
  rw [bl_str (Byt.one ⟨by omega, by omega⟩), bl_str (Byt.one ⟨by omega, by omega⟩), bl_str (Byt.one ⟨by omega, by omega⟩), bl_str (Byt.one ⟨by omega, by omega⟩)]
  unfold four
  simp only [List.singleton_append, List.cons.injEq, and_true]
  refine ⟨by omega, by omega⟩
theorem sBig2 (n : Int) (h0 : 0 ≤ n) (h1 : n ≤ 1000000000) : Ev (fun k => spec_l06Big.f k n 2) (strOfNums (two n)) := by
  unfold spec_l06Big.f
  have e0 : (⟨#[]⟩ : ByteArray).size = 0 := rfl
  refine Ev.ofEq (sBig_step 2 n _ 0 h0 (by omega) (by decide) (by rw [e0]; omega) (by omega) (sBig_step 2 (n / 256) _ 1 (by omega) (by omega) (by decide) (by rw [str1_size, e0]; omega) (by omega) (sBig_end 2 _ _ 2 (by decide)))) ?_
  apply bl_inj
  rw [bl_str (two_byt n)]
  simp only [bl_app, bl_emp, List.append_nil]
  rw [bl_str (Byt.one ⟨by omega, by omega⟩), bl_str (Byt.one ⟨by omega, by omega⟩)]
  rfl
theorem sRootText (a b : Int) : Ev (fun k => spec_RootText.f k a b) (pRootText a b) := by
  unfold spec_RootText.f pRootText
  by_cases h1 : 0 ≤ a ∧ a ≤ 1000000000
  · rw [s_in_t h1]
    simp only [Option.bind_some, if_true]
    by_cases h2 : -1 ≤ b ∧ b ≤ 399
    · rw [s_in_t h2, if_pos ⟨h1, h2⟩]
      simp only [Option.bind_some, Bool.not_true]
      have w : wrap64 (b + 1) = b + 1 := wid (by omega) (by omega)
      have hc : ((⟨#[82]⟩ : ByteArray) ++ strOfNums (four a)) ++ strOfNums (two (b + 1)) = rootB a b := by
        apply bl_inj
        rw [rootB_bl, bl_app, bl_app, bl_str (four_byt _), bl_str (two_byt _)]
        rfl
      refine Ev.to (f := fun k => (spec_l06Big.f k a 4).bind fun t113 => if 1 + t113.size ≤ 9223372036854775807 then (spec_l06Big.f k (b + 1) 2).bind fun t114 => if ((⟨#[82]⟩ : ByteArray) ++ t113).size + t114.size ≤ 9223372036854775807 then (spec_Sealed.f k (((⟨#[82]⟩ : ByteArray) ++ t113) ++ t114)).bind fun bt115 => some (bt115.1, bt115.2) else none else none) (r := (rootB a b ++ strOfNums (four (sumB (rootB a b))), true)) ?_ fun k => by simp only [spec_RootText.j0, w]; rw [if_neg (by decide)]
      clear w
      refine (sBig4 a h1.1 h1.2).bind (Ev.ifp (by rw [str_len]; show 1 + 4 ≤ _; omega) ((sBig2 (b + 1) (by omega) (by omega)).bind (Ev.ifp (by rw [ByteArray.size_append, str_len, str_len]; show 1 + 4 + 2 ≤ _; omega) ?_)))
      rw [hc]
      refine (sSealed _ (by rw [rootB_size]; omega)).bind ?_
      rw [pSealed_root]
      exact Ev.now _
    · rw [s_in_f h2, if_neg (fun h => h2 h.2)]
      simp only [Option.bind_some, Bool.not_false]
      exact (Ev.now _).to fun k => by simp only [spec_RootText.j0, if_true]
  · rw [s_in_f h1, if_neg (fun h => h1 h.1)]
    simp only [Option.bind_some, Bool.false_eq_true, if_false]
    exact (Ev.now _).to fun k => by simp only [spec_RootText.j0, if_true]

theorem sDeviceNew (n : Int) : spec_DeviceNew.f n = some (pDeviceNew n) := by
  unfold spec_DeviceNew.f pDeviceNew
  by_cases h : 1 ≤ n ∧ n ≤ 400
  · rw [s_in_t h, if_pos h]
    simp only [Option.bind_some, if_true]
    rw [if_pos (by omega), if_pos (by omega)]
  · rw [s_in_f h, if_neg h]
    simp only [Option.bind_some, Bool.false_eq_true, if_false]

theorem sFormatStore (n : Int) : Ev (fun k => spec_FormatStore.f k n) (pFormat n) := by
  unfold spec_FormatStore.f pFormat
  rw [sDeviceNew]
  simp only [Option.bind_some]
  unfold pDeviceNew
  by_cases h : 1 ≤ n ∧ n ≤ 400
  · rw [if_pos h]
    refine Ev.ifp rfl ?_
    by_cases h4 : n < 4
    · rw [if_neg (by omega)]
      exact Ev.ifp h4 (Ev.now _)
    · rw [if_pos ⟨by omega, h.2⟩]
      refine Ev.ifn h4 ((sRootText 0 (-1)).bind (Ev.ifp ?_ (Ev.now _)))
      rw [List.length_replicate]
      omega
  · rw [if_neg h, if_neg (by omega)]
    exact Ev.ifn (by decide) (Ev.now _)

theorem impl_sm_l1 (s : ByteArray) (z i : Int) {r : Int} : ∀ (n : Nat) (x : Int), n ≤ 8 → U32 x → Ev (fun k => impl_SumMore.l0 k (crcN n x) s z (wrap64 (i + 1))) r → Ev (fun k => impl_SumMore.l1 k x s z i (8 - (n : Int))) r
  | 0, x, _, _, h => h.to fun k => by simp only [impl_SumMore.l1]; rw [if_neg (by omega)]; rfl
  | n + 1, x, hn, hx, h => by
    have h1 := hx.1
    have h2 := hx.2
    refine (impl_sm_l1 s z i n (crcBit x) (by omega) (crcBit_u32 hx) h).to fun k => ?_
    simp only [impl_SumMore.l1]
    rw [if_pos (by omega), and1_u32 hx, wid (by omega) (by omega), show (8 - ((n + 1 : Nat) : Int) + 1) = 8 - (n : Int) by omega]
    unfold crcBit
    by_cases hb : x % 2 = 1
    · rw [if_pos hb, if_pos hb]
    · rw [if_neg hb, if_neg hb]
theorem impl_sm_l0 (s : ByteArray) (hs : s.size ≤ 140737488351232) : ∀ (d i : Nat) (x : Int), i + d = s.size → U32 x → Ev (fun k => impl_SumMore.l0 k x s (s.size : Int) (i : Int)) (crcL x ((bl s).drop i))
  | 0, i, x, hi, _ => by
    refine (Ev.now _).to fun k => ?_
    simp only [impl_SumMore.l0]
    rw [if_neg (by omega), bl_end (by omega)]
    rfl
  | d + 1, i, x, hi, hx => by
    have hb := bt_range s (i : Int)
    rw [bl_cons (by omega), crcL_cons]
    have hx' : U32 (Go.bits .xor .u32 x (bt s i)) := xor_u32 hx ⟨hb.1, by omega⟩
    have := impl_sm_l0 s hs d (i + 1) (crcByte x (bt s i)) (by omega) (crcByte_u32 hx ⟨hb.1, by omega⟩)
    refine (impl_sm_l1 s _ i 8 _ (Nat.le_refl _) hx' (by rw [wid (by omega) (by omega)]; exact this)).to fun k => ?_
    simp only [impl_SumMore.l0]
    rw [if_pos (by omega), if_pos (by omega), if_pos (by omega), show bt s (i : Int) % 4294967296 = bt s i by omega]
    rfl
theorem impl_sm (x : Int) (s : ByteArray) (hs : s.size ≤ 140737488351232) (hx : U32 x) : Ev (fun k => impl_SumMore.f k x s) (crcL x (bl s)) := impl_sm_l0 s hs s.size 0 x (by omega) hx

theorem iSumOf (s : ByteArray) (hs : s.size ≤ 140737488351232) : Ev (fun k => impl_SumOf.f k s) (sumB s) := by
  unfold impl_SumOf.f
  exact (impl_sm _ s hs u32_top).bind (Ev.now _)

theorem iSealed (s : ByteArray) (hs : s.size ≤ 140737488351232) : Ev (fun k => impl_Sealed.f k s) (pSealed s) := by
  unfold impl_Sealed.f pSealed
  by_cases h : s.size > 8000
  · rw [if_pos h]
    simp only [if_pos (show (s.size : Int) > 8000 by omega)]
    exact Ev.now _
  · rw [if_neg h]
    simp only [if_neg (show ¬ (s.size : Int) > 8000 by omega)]
    refine (iSumOf s hs).bind ?_
    simp only [Option.bind_some]
    exact Ev.same (if_pos (by rw [str_len]; show s.size + 4 ≤ _; omega))

theorem i_in (a b c : Int) : impl_in.f a b c = some (decide (b ≤ a ∧ a ≤ c)) := by
  unfold impl_in.f
  by_cases h : a ≥ b
  · rw [if_pos h]; simp [show b ≤ a from h]
  · rw [if_neg h]; simp [show ¬ b ≤ a from h]
theorem i_in_t {a b c : Int} (h : b ≤ a ∧ a ≤ c) : impl_in.f a b c = some true := by rw [i_in, decide_eq_true h]
theorem i_in_f {a b c : Int} (h : ¬ (b ≤ a ∧ a ≤ c)) : impl_in.f a b c = some false := by rw [i_in, decide_eq_false h]

theorem iRootText (a b : Int) : Ev (fun k => impl_RootText.f k a b) (pRootText a b) := by
  unfold impl_RootText.f pRootText
  by_cases h1 : 0 ≤ a ∧ a ≤ 1000000000
  · rw [i_in_t h1]
    simp only [Option.bind_some, if_true]
    by_cases h2 : -1 ≤ b ∧ b ≤ 399
    · rw [i_in_t h2, if_pos ⟨h1, h2⟩]
      simp only [Option.bind_some, if_true]
      have w : wrap64 (b + 1) = b + 1 := wid (by omega) (by omega)
      rw [w]; clear w
      have hl : [a / 16777216 % 256, a / 65536 % 256, a / 256 % 256, a % 256, (b + 1) / 256 % 256, (b + 1) % 256] = four a ++ two (b + 1) := rfl
      have hc : (⟨#[82]⟩ : ByteArray) ++ strOfNums (four a ++ two (b + 1)) = rootB a b := by
        apply bl_inj
        rw [rootB_bl, bl_app, bl_str ((four_byt _).app (two_byt _))]
        rfl
      rw [hl, hc]
      refine Ev.ifp (by rw [str_len]; show 1 + 6 ≤ _; omega) ((iSealed _ (by rw [rootB_size]; omega)).bind ?_)
      rw [pSealed_root]
      exact Ev.now _
    · rw [i_in_f h2, if_neg (fun h => h2 h.2)]
      simp only [Option.bind_some, Bool.false_eq_true, if_false]
      exact Ev.now _
  · rw [i_in_f h1, if_neg (fun h => h1 h.1)]
    simp only [Option.bind_some, Bool.false_eq_true, if_false]
    exact Ev.now _

theorem iDeviceNew (n : Int) : impl_DeviceNew.f n = some (pDeviceNew n) := by
  unfold impl_DeviceNew.f pDeviceNew
  by_cases h : 1 ≤ n ∧ n ≤ 400
  · rw [i_in_t h, if_pos h]
    simp only [Option.bind_some, if_true]
    rw [if_pos (by omega), if_pos (by omega)]
  · rw [i_in_f h, if_neg h]
    simp only [Option.bind_some, Bool.false_eq_true, if_false]

theorem iFormatStore (n : Int) : Ev (fun k => impl_FormatStore.f k n) (pFormat n) := by
  unfold impl_FormatStore.f pFormat
  rw [i_in]
  simp only [Option.bind_some]
  by_cases h : 4 ≤ n ∧ n ≤ 400
  · rw [if_pos h]
    refine Ev.ifp (decide_eq_true h) ?_
    rw [iDeviceNew]
    unfold pDeviceNew
    rw [if_pos ⟨by omega, h.2⟩]
    simp only [Option.bind_some]
    refine (iRootText 0 (-1)).bind (Ev.ifp ?_ (Ev.now _))
    rw [List.length_replicate]
    omega
  · rw [if_neg h]
    exact Ev.ifn (by simpa using h) (Ev.now _)

theorem FnExactFormatStore : laws_FnExactFormatStore.Pure := by
  intro n _
  refine Ev.rounds (g := fun k => laws_FnExactFormatStore.f k n) ?_
  unfold laws_FnExactFormatStore.f
  have hS := sFormatStore n
  have hI := iFormatStore n
  obtain ⟨s, p, m, a, b, c, e, hs, hp, hm⟩ : ∃ s p m a b c, pFormat n = (s, p, m, a, b, c) ∧ s.length ≤ 400 ∧ p.length ≤ 400 ∧ m.length ≤ 400 := by
    unfold pFormat
    split
    · exact ⟨_, _, _, _, _, _, rfl, by rw [List.length_set, List.length_replicate]; omega, by simp, by simp⟩
    · exact ⟨_, _, _, _, _, _, rfl, by simp, by simp, by simp⟩
  rw [e] at hS hI
  have hE := eqStore s p m a b (by omega) (by omega) (by omega)
  have hM := markStore s p m a b 1 (by omega) (by omega) (by omega) (by omega) (by omega)
  have hH := heldStore s p m a b 1 (by omega) (by omega) (by omega) (by omega) (by omega)
  refine hS.bind (hI.bind (hE.bind (Ev.ifp rfl ?_)))
  simp only [bne_rfl_bool]
  refine Ev.to (f := fun k => (laws_markStore.f k s p m a b 1).bind fun bt253 => (laws_heldStore.f k bt253.2.1 bt253.2.2.1 bt253.2.2.2 a b 1).bind fun t257 => if t257 < 0 then some false else if t257 = bt253.1 then (impl_FormatStore.f k n).bind fun bt258 => (laws_eqStore.f k bt258.1 bt258.2.1 bt258.2.2.1 bt258.2.2.2.1 bt258.2.2.2.2.1 s p m a b).bind fun t271 => if t271 = true then laws_FnExactFormatStore.j1 k bt253.1 (bt258.2.2.2.2.2 != c) bt253.2.1 bt253.2.2.1 bt253.2.2.2 a b else laws_FnExactFormatStore.j1 k bt253.1 true bt253.2.1 bt253.2.2.1 bt253.2.2.2 a b else some false) (r := true) ?_ fun k => by simp only [laws_FnExactFormatStore.j0]; rw [if_neg (by decide)]
  refine hM.bind (hH.bind (Ev.ifn (by omega) (Ev.ifp rfl (hI.bind (hE.bind (Ev.ifp rfl ?_))))))
  simp only [bne_rfl_bool]
  refine Ev.to (f := fun k => (laws_heldStore.f k (mkS 1 s) (mkPut (1 + s.length) p) (mkPair (1 + s.length + 2 * p.length) m) a b 1).bind fun t272 => if t272 < 0 then some false else if t272 = 1 + (s.length : Int) + 2 * p.length + 2 * m.length then some true else some false) (r := true) ?_ fun k => by simp only [laws_FnExactFormatStore.j1]; rw [if_neg (by decide)]
  exact hH.bind (Ev.ifn (by omega) (Ev.ifp rfl (Ev.now _)))

end Go.Proofs.Ytbonjmnpcklciaa.Pure
