/- The program's PartsOf and the reference's PartsOf return the same parts, for every line; the answer owns its memory. -/
import Derived.Test.YtcmgaldejpkeaaaDoorQFnExactPartsOfx3
import Derived.Laws.BitsAllLaws
namespace Go.Proofs.YtcmgaldejpkeaaaDoor.Pure
open Go.RowKit Go.Proofs.YtcmgaldejpkeaaaDoor.QFnExactPartsOf Go.Proofs.YtcmgaldejpkeaaaDoorW.PrintWords Go.Proofs.YtcmgaldejpkeaaaDoorW.PrintLast
set_option linter.unusedVariables false
set_option linter.unusedSimpArgs false
set_option maxHeartbeats 4000000

theorem wid {n : Int} (h0 : -9223372036854775808 ≤ n) (h1 : n < 9223372036854775808) : wrap64 n = n := by unfold wrap64; omega
theorem _root_.Go.Proofs.YtcmgaldejpkeaaaDoorW.PrintWords.Ev.ofEq {α : Type} {g : Nat → Option α} {r q : α} (h : Ev g r) (e : r = q) : Ev g q := e ▸ h
theorem _root_.Go.Proofs.YtcmgaldejpkeaaaDoorW.PrintWords.Ev.same {α : Type} {o : Option α} {r : α} (h : o = some r) : Ev (fun _ => o) r := ⟨0, fun _ _ => h⟩
theorem _root_.Go.Proofs.YtcmgaldejpkeaaaDoorW.PrintWords.Ev.to {α : Type} {g f : Nat → Option α} {r : α} (k : Ev f r) (h : ∀ k, g (k + 1) = f k) : Ev g r := Ev.step h k
theorem _root_.Go.Proofs.YtcmgaldejpkeaaaDoorW.PrintWords.Ev.cg {α : Type} {g f : Nat → Option α} {r : α} (k : Ev f r) (h : ∀ k, g k = f k) : Ev g r := Ev.congr h k
theorem _root_.Go.Proofs.YtcmgaldejpkeaaaDoorW.PrintWords.Ev.ifp {α : Type} {c : Prop} [Decidable c] {g f : Nat → Option α} {r : α} (h : c) (e : Ev g r) : Ev (fun k => if c then g k else f k) r := by simp only [if_pos h]; exact e
theorem _root_.Go.Proofs.YtcmgaldejpkeaaaDoorW.PrintWords.Ev.ifn {α : Type} {c : Prop} [Decidable c] {g f : Nat → Option α} {r : α} (h : ¬ c) (e : Ev f r) : Ev (fun k => if c then g k else f k) r := by simp only [if_neg h]; exact e
/-- The bytes of a string, as numbers. -/
def bl (s : ByteArray) : List Int := s.data.toList.map fun b => (b.toNat : Int)
theorem bl_len (s : ByteArray) : (bl s).length = s.size := by unfold bl; rw [List.length_map]; rfl
def Byt (xs : List Int) : Prop := ∀ x ∈ xs, 0 ≤ x ∧ x < 256
theorem Byt.nil : Byt [] := fun _ h => by simp at h
theorem Byt.cons {x : Int} {xs : List Int} (h : 0 ≤ x ∧ x < 256) (h' : Byt xs) : Byt (x :: xs) := fun y hy => by
  rcases List.mem_cons.1 hy with rfl | hy
  · exact h
  · exact h' y hy
theorem Byt.app {xs ys : List Int} (h : Byt xs) (h' : Byt ys) : Byt (xs ++ ys) := fun y hy => by
  rcases List.mem_append.1 hy with hy | hy
  · exact h y hy
  · exact h' y hy
theorem Byt.left {xs ys : List Int} (h : Byt (xs ++ ys)) : Byt xs := fun y hy => h y (List.mem_append_left _ hy)
theorem Byt.right {xs ys : List Int} (h : Byt (xs ++ ys)) : Byt ys := fun y hy => h y (List.mem_append_right _ hy)
theorem Byt.tail {x : Int} {xs : List Int} (h : Byt (x :: xs)) : Byt xs := fun y hy => h y (List.mem_cons_of_mem _ hy)
theorem Byt.head {x : Int} {xs : List Int} (h : Byt (x :: xs)) : 0 ≤ x ∧ x < 256 := h x (List.mem_cons_self ..)
theorem Byt.drop {xs : List Int} (h : Byt xs) (n : Nat) : Byt (xs.drop n) := fun y hy => h y (List.mem_of_mem_drop hy)
theorem Byt.take {xs : List Int} (h : Byt xs) (n : Nat) : Byt (xs.take n) := fun y hy => h y (List.mem_of_mem_take hy)
theorem bl_byt (s : ByteArray) : Byt (bl s) := fun x hx => by
  obtain ⟨b, _, rfl⟩ := List.mem_map.1 hx
  have := b.toNat_lt
  omega
theorem u8_back (b : UInt8) : UInt8.ofNat ((b.toNat : Int)).toNat = b := by simp
theorem bl_str {xs : List Int} (h : Byt xs) : bl (strOfNums xs) = xs := by
  unfold bl
  rw [strOfNums_data, List.map_map]
  conv => rhs; rw [← List.map_id xs]
  apply List.map_congr_left
  intro x hx
  have := h x hx
  simp only [Function.comp, id]
  obtain ⟨n, rfl⟩ := Int.eq_ofNat_of_zero_le this.1
  simp
  omega
theorem str_bl (s : ByteArray) : strOfNums (bl s) = s := by
  unfold strOfNums bl
  rw [List.map_map]
  have : ((fun n : Int => UInt8.ofNat n.toNat) ∘ fun b : UInt8 => (b.toNat : Int)) = id := by
    funext b
    simp
  rw [this, List.map_id]
theorem bl_inj {a b : ByteArray} (h : bl a = bl b) : a = b := by rw [← str_bl a, ← str_bl b, h]
theorem bt_bl (s : ByteArray) (i : Int) : bt s i = (bl s).getD i.toNat 0 := by
  unfold bt
  split
  · rename_i h
    have hl : i.toNat < s.data.toList.length := h
    simp only [bl, List.getD_eq_getElem?_getD, List.getElem?_map, List.getElem?_eq_getElem hl, Option.map_some, Option.getD_some]
    rfl
  · rename_i h
    rw [List.getD_eq_getElem?_getD, List.getElem?_eq_none (by rw [bl_len]; omega)]
    rfl
theorem bl_app (a b : ByteArray) : bl (a ++ b) = bl a ++ bl b := by
  unfold bl
  rw [ByteArray.data_append, Array.toList_append, List.map_append]
theorem bl_ext (a : ByteArray) (i j : Nat) : bl (a.extract i j) = ((bl a).take j).drop i := by
  unfold bl
  rw [ByteArray.data_extract, Array.toList_extract, List.extract_eq_take_drop, List.map_take, List.map_drop, List.drop_take]
theorem bl_emp : bl (⟨#[]⟩ : ByteArray) = [] := rfl
theorem bl_cons {s : ByteArray} {i : Nat} (h : i < s.size) : (bl s).drop i = bt s (i : Int) :: (bl s).drop (i + 1) := by
  have hl : i < (bl s).length := by rw [bl_len]; exact h
  rw [List.drop_eq_getElem_cons hl, bt_bl, List.getD_eq_getElem?_getD, Int.toNat_natCast, List.getElem?_eq_getElem hl]
  rfl
theorem bl_end {s : ByteArray} {i : Nat} (h : s.size ≤ i) : (bl s).drop i = [] := List.drop_of_length_le (by rw [bl_len]; exact h)
theorem tl_inj {a b : ByteArray} : a.toList = b.toList ↔ a = b := by
  constructor
  · intro h
    rw [ByteArray.toList_eq, ByteArray.toList_eq] at h
    apply ByteArray.ext
    exact Array.toList_inj.1 h
  · rintro rfl; rfl
theorem tl_bl {a b : ByteArray} : a.toList = b.toList ↔ bl a = bl b := tl_inj.trans ⟨fun h => h ▸ rfl, bl_inj⟩
theorem tdiv_pos {a b : Int} (h : 0 ≤ a) : Int.tdiv a b = a / b := Int.tdiv_eq_ediv_of_nonneg h
theorem tmod_pos {a b : Int} (h : 0 ≤ a) : Int.tmod a b = a % b := Int.tmod_eq_emod_of_nonneg h
theorem bne_rfl_bool (b : Bool) : (b != b) = false := by cases b <;> rfl
theorem wf_u32 {n : Int} (h : (Lit.int .u32 n).wf = true) : 0 ≤ n ∧ n < 4294967296 := by
  have h1 : IntKind.u32.min = 0 := by decide +kernel
  have h2 : IntKind.u32.max = 4294967295 := by decide +kernel
  simp only [Lit.wf, h1, h2, Bool.and_eq_true, decide_eq_true_eq] at h
  omega
theorem wf_i64 {n : Int} (h : (Lit.int .i64 n).wf = true) : -9223372036854775808 ≤ n ∧ n < 9223372036854775808 := by
  have h1 : IntKind.i64.min = -9223372036854775808 := by decide +kernel
  have h2 : IntKind.i64.max = 9223372036854775807 := by decide +kernel
  simp only [Lit.wf, h1, h2, Bool.and_eq_true, decide_eq_true_eq] at h
  omega
theorem Byt.one {x : Int} (h : 0 ≤ x ∧ x < 256) : Byt [x] := Byt.nil.cons h
theorem bl_size (s : ByteArray) : s.size = (bl s).length := (bl_len s).symm
theorem str_len (xs : List Int) : (strOfNums xs).size = xs.length := strOfNums_size xs

theorem set_take {α : Type} (xs : List α) {i : Nat} (v : α) (h : i < xs.length) : (xs.set i v).take (i + 1) = xs.take i ++ [v] := by
  rw [List.take_succ_eq_append_getElem (by rw [List.length_set]; exact h), List.getElem_set_self, List.take_set_of_le (Nat.le_refl _)]
theorem take_set_drop {α : Type} (xs : List α) {i : Nat} (v : α) (h : i < xs.length) : (xs.set i v).drop (i + 1) = xs.drop (i + 1) := by
  rw [List.drop_set_of_lt (by omega)]
theorem getD_at {α : Type} {xs : List α} {i : Nat} (z : α) (h : i < xs.length) : xs.getD ((i : Int)).toNat z = xs[i] := by
  rw [Int.toNat_natCast, List.getD_eq_getElem?_getD, List.getElem?_eq_getElem h]; rfl
theorem rdOf_at {α : Type} {xs : List α} {i : Nat} (z : α) (h : i < xs.length) : rdOf z xs (i : Int) = xs[i] := getD_at z h
theorem rd_at {xs : List Int} {i : Nat} (h : i < xs.length) : rd xs (i : Int) = xs[i] := getD_at 0 h
theorem toNat_len (n : Nat) : ((n : Int) : Int).toNat = n := Int.toNat_natCast n

theorem index_cons_ne (b : UInt8) (l : List UInt8) (h : b ≠ 32) : Go.Lib.index (b :: l) [32] = if Go.Lib.index l [32] == -1 then -1 else Go.Lib.index l [32] + 1 := by
  have hp : ([32] : List UInt8).isPrefixOf (b :: l) = false := by simp [List.isPrefixOf, Ne.symm h]
  rw [Go.Lib.index, hp]; simp
theorem index_cons_eq (l : List UInt8) : Go.Lib.index ((32 : UInt8) :: l) [32] = 0 := by
  rw [Go.Lib.index]; simp [List.isPrefixOf]
/-- The pieces between spaces. -/
def piecesU : List UInt8 → List UInt8 → List (List UInt8)
  | cur, [] => [cur]
  | cur, c :: l => if c = 32 then cur :: piecesU [] l else piecesU (cur ++ [c]) l
def onHead (b : UInt8) : List (List UInt8) → List (List UInt8)
  | [] => []
  | h :: t => (b :: h) :: t
theorem pieces_head (b : UInt8) : ∀ (l cur : List UInt8), piecesU (b :: cur) l = onHead b (piecesU cur l)
  | [], _ => rfl
  | c :: l, cur => by
    unfold piecesU
    by_cases h : c = 32
    · rw [if_pos h, if_pos h]; rfl
    · rw [if_neg h, if_neg h, List.cons_append]; exact pieces_head b l _
theorem splitK_cons (b : UInt8) (h : b ≠ 32) : ∀ (k : Nat) (l : List UInt8), Go.Lib.splitK [32] 0 k (b :: l) = onHead b (Go.Lib.splitK [32] 0 k l)
  | 0, _ => rfl
  | k + 1, l => by
    unfold Go.Lib.splitK
    rw [index_cons_ne b l h]
    by_cases hm : Go.Lib.index l [32] = -1
    · rw [hm]; rfl
    · have hge := Go.Lib.index_ge l [32]
      obtain ⟨j, hj⟩ : ∃ j : Nat, Go.Lib.index l [32] = j := ⟨(Go.Lib.index l [32]).toNat, by omega⟩
      have c1 : ¬ (Go.Lib.index l [32] == -1) = true := fun e => hm (beq_iff_eq.1 e)
      rw [if_neg c1, if_neg c1, hj, if_neg (fun e => by have := beq_iff_eq.1 e; omega)]
      have e1 : ((j : Int) + 1).toNat = j + 1 := by omega
      rw [e1, Int.toNat_natCast]
      rfl
theorem split_pieces : ∀ l : List UInt8, Go.Lib.splitK [32] 0 (Go.Lib.count l [32]) l = piecesU [] l
  | [] => by rw [Go.Lib.count_miss (by simp [Go.Lib.index])]; rfl
  | b :: l => by
    by_cases h : b = 32
    · subst h
      rw [Go.Lib.count_cons_eq, Nat.add_comm]
      unfold Go.Lib.splitK
      rw [index_cons_eq]
      rw [if_neg (by decide)]
      show [] :: Go.Lib.splitK [32] 0 (Go.Lib.count l [32]) l = _
      rw [split_pieces l]
      unfold piecesU
      rw [if_pos rfl]
      cases l <;> rfl
    · rw [Go.Lib.count_cons_ne b 32 l h, splitK_cons b h, split_pieces l, ← pieces_head]
      conv => rhs; unfold piecesU
      rw [if_neg h]; rfl
/-- The words. -/
def wordsU : List UInt8 → List UInt8 → List (List UInt8)
  | cur, [] => if cur = [] then [] else [cur]
  | cur, c :: l => if c = 32 then (if cur = [] then wordsU [] l else cur :: wordsU [] l) else wordsU (cur ++ [c]) l
theorem words_pieces : ∀ (l cur : List UInt8), (piecesU cur l).filter (fun p => !p.isEmpty) = wordsU cur l
  | [], cur => by unfold piecesU wordsU; cases cur <;> rfl
  | c :: l, cur => by
    unfold piecesU wordsU
    by_cases h : c = 32
    · rw [if_pos h, if_pos h]
      cases cur with
      | nil => rw [if_pos rfl]; exact words_pieces l []
      | cons x cur => rw [if_neg (by simp), List.filter_cons, if_pos (by rfl), words_pieces l []]
    · rw [if_neg h, if_neg h]; exact words_pieces l _
def mkB (l : List UInt8) : ByteArray := ⟨l.toArray⟩
theorem mkB_list (s : ByteArray) : mkB s.data.toList = s := rfl
theorem splitB_pieces (s : ByteArray) : Go.Lib.splitB (⟨#[32]⟩ : ByteArray) 0 (Go.Lib.countB s (⟨#[32]⟩ : ByteArray)) s = (piecesU [] s.data.toList).map mkB := by
  rw [← split_pieces]
  have h := Go.Lib.splitB_data (⟨#[32]⟩ : ByteArray) 0 (Go.Lib.countB s (⟨#[32]⟩ : ByteArray)) s
  have e : ((⟨#[32]⟩ : ByteArray).data.toList) = [32] := rfl
  rw [e] at h
  have h2 := congrArg (List.map mkB) h
  rw [List.map_map] at h2
  have h3 : (mkB ∘ fun x : ByteArray => x.data.toList) = id := by funext x; rfl
  rw [h3, List.map_id] at h2
  exact h2
def gd (c : UInt8) : Bool := decide (32 ≤ c.toNat) && decide (c.toNat ≤ 126)
theorem gd_t {c : UInt8} (h : gd c = true) : 32 ≤ c.toNat ∧ c.toNat ≤ 126 := by simpa [gd] using h
theorem gd_f {c : UInt8} (h : ¬ gd c = true) : c.toNat < 32 ∨ 126 < c.toNat := by
  have : ¬ (32 ≤ c.toNat ∧ c.toNat ≤ 126) := fun e => h (by simpa [gd] using e)
  omega
def fin (w : List ByteArray) : List ByteArray × Bool := if (w.length : Int) > 8 then ([], false) else (w, true)
def pParts (s : ByteArray) : List ByteArray × Bool := if (s.size : Int) > 400 then ([], false) else if s.data.toList.all gd = true then fin ((wordsU [] s.data.toList).map mkB) else ([], false)
theorem bt_u (s : ByteArray) {i : Nat} (h : i < s.data.toList.length) : bt s (i : Int) = (s.data.toList[i].toNat : Int) := by
  have h' : i < s.data.toList.length := h
  rw [bt_bl, Int.toNat_natCast, List.getD_eq_getElem?_getD]
  unfold bl
  rw [List.getElem?_map, List.getElem?_eq_getElem h']
  rfl
theorem ext_u (s : ByteArray) (b i : Nat) : s.extract b i = mkB ((s.data.toList.take i).drop b) := by
  apply bl_inj
  rw [bl_ext]
  show _ = ((s.data.toList.take i).drop b).map _
  rw [List.map_drop, List.map_take]
  rfl
theorem u32 {c : UInt8} : (c.toNat : Int) = 32 ↔ c = 32 := by
  constructor
  · intro h
    apply UInt8.toNat_inj.1
    have : c.toNat = 32 := by omega
    rw [this]; rfl
  · rintro rfl; rfl

theorem eqStringS_go (x0 : List ByteArray) (hl : x0.length ≤ 100000000) : ∀ (d i : Nat), i + d = x0.length → Ev (fun k => laws_eqStringS.l0 k x0 x0 (i : Int)) true
  | 0, i, hi => (Ev.now _).to fun k => by simp only [laws_eqStringS.l0]; rw [if_neg (by omega)]
  | d + 1, i, hi => by
    refine (eqStringS_go x0 hl d (i + 1) (by omega)).to fun k => ?_
    simp only [laws_eqStringS.l0, if_true]
    rw [if_pos (by omega), if_pos (by omega), if_pos (by omega), wid (by omega) (by omega)]
    rfl
theorem eqStringS (x0 : List ByteArray) (hl : x0.length ≤ 100000000) : Ev (fun k => laws_eqStringS.f k x0 x0) true := by
  unfold laws_eqStringS.f
  exact Ev.ifp rfl (eqStringS_go x0 hl x0.length 0 (by omega))

/-! Marks -/
def digL (n : Nat) : List Int := if h : n > 0 then digL (n / 10) ++ [48 + ((n % 10 : Nat) : Int)] else []
termination_by n
decreasing_by omega
theorem digL_pos {n : Nat} (h : n > 0) : digL n = digL (n / 10) ++ [48 + ((n % 10 : Nat) : Int)] := by rw [digL, dif_pos h]
theorem digL_zero : digL 0 = [] := by rw [digL, dif_neg (by omega)]
theorem digL_byt (n : Nat) : Byt (digL n) := by
  induction n using Nat.strongRecOn with
  | _ n ih =>
    by_cases h : n > 0
    · rw [digL_pos h]; exact (ih _ (by omega)).app (Byt.one ⟨by omega, by omega⟩)
    · obtain rfl : n = 0 := by omega
      rw [digL_zero]; exact Byt.nil
def MB : ByteArray := ⟨#[109]⟩
def mText (m : Int) : ByteArray := if m ≤ 0 then ⟨#[109, 48]⟩ else MB ++ strOfNums (digL m.toNat)
theorem str_app {xs ys : List Int} : strOfNums (xs ++ ys) = strOfNums xs ++ strOfNums ys := by
  apply ByteArray.ext
  unfold strOfNums
  rw [ByteArray.data_append]
  simp
theorem ba_assoc (a b c : ByteArray) : a ++ b ++ c = a ++ (b ++ c) := by
  apply bl_inj
  simp only [bl_app, List.append_assoc]
theorem mText_go (n : Nat) : ∀ acc : ByteArray, acc.size + n ≤ 1000000000000 → Ev (fun k => laws_markText.l0 k (n : Int) acc) (MB ++ (strOfNums (digL n) ++ acc)) := by
  induction n using Nat.strongRecOn with
  | _ n ih =>
    intro acc ha
    by_cases h : n > 0
    · have h1 : (strOfNums [48 + ((n % 10 : Nat) : Int)] ++ acc).size = 1 + acc.size := by rw [bl_size, bl_app, List.length_append, bl_len, bl_len, str_len]; rfl
      have := ih (n / 10) (by omega) (strOfNums [48 + ((n % 10 : Nat) : Int)] ++ acc) (by omega)
      rw [← ba_assoc (strOfNums (digL (n / 10))), ← str_app, ← digL_pos h] at this
      refine this.to fun k => ?_
      have w : wrap64 (48 + Int.tmod (n : Int) 10) % 256 = 48 + ((n % 10 : Nat) : Int) := by rw [tmod_pos (by omega), wid (by omega) (by omega)]; omega
      simp only [laws_markText.l0, w, Option.bind_some]
      clear w
      rw [if_pos (by omega), if_pos (by rw [str_len, List.length_singleton]; omega), tdiv_pos (by omega), wid (by omega) (by omega)]
      congr 1
    · obtain rfl : n = 0 := by omega
      rw [digL_zero]
      refine (Ev.now _).to fun k => ?_
      simp only [laws_markText.l0]
      rw [if_neg (by omega), if_pos (by omega)]
      have e : strOfNums [] ++ acc = acc := by apply bl_inj; rw [bl_app]; rfl
      rw [e]
      rfl
theorem markText (m : Int) (h : m ≤ 100000000000) : Ev (fun k => laws_markText.f k m) (mText m) := by
  unfold laws_markText.f mText
  by_cases h0 : m ≤ 0
  · rw [if_pos h0]; exact Ev.ifp h0 (Ev.now _)
  · rw [if_neg h0]
    refine Ev.ifn h0 ?_
    have := mText_go m.toNat (⟨#[]⟩ : ByteArray) (by show 0 + m.toNat ≤ _; omega)
    rw [Int.toNat_of_nonneg (by omega)] at this
    refine Ev.ofEq this ?_
    congr 1
    apply bl_inj
    rw [bl_app, bl_emp, List.append_nil]

def mkS : Int → List ByteArray → List ByteArray
  | _, [] => []
  | m, _ :: l => mText m :: mkS (m + 1) l
theorem mkS_len : ∀ (l : List ByteArray) (m : Int), (mkS m l).length = l.length
  | [], _ => rfl
  | _ :: l, m => by simp only [mkS, List.length_cons, mkS_len l]
theorem markStringS_go : ∀ (d i : Nat) (x0 : List ByteArray) (m : Int), i + d = x0.length → x0.length ≤ 100000000 → 0 ≤ m → m + d ≤ 10000000000 → Ev (fun k => laws_markStringS.l0 k x0 m (i : Int)) (m + d, x0.take i ++ mkS m (x0.drop i))
  | 0, i, x0, m, hi, hl, h0, h1 => by
    rw [List.drop_of_length_le (by omega), List.take_of_length_le (by omega)]
    refine Ev.ofEq ((Ev.now (m, x0)).to fun k => ?_) (by simp [mkS])
    simp only [laws_markStringS.l0]; rw [if_neg (by omega)]
  | d + 1, i, x0, m, hi, hl, h0, h1 => by
    have hlt : i < x0.length := by omega
    have ih := markStringS_go d (i + 1) (x0.set i (mText m)) (m + 1) (by rw [List.length_set]; omega) (by rw [List.length_set]; omega) (by omega) (by omega)
    rw [set_take _ _ hlt, take_set_drop _ _ hlt, List.append_assoc] at ih
    rw [List.drop_eq_getElem_cons hlt, mkS]
    have e : ((m + 1) + (d : Int), x0.take i ++ ([mText m] ++ mkS (m + 1) (x0.drop (i + 1)))) = (m + ((d + 1 : Nat) : Int), x0.take i ++ mText m :: mkS (m + 1) (x0.drop (i + 1))) := by
      rw [List.singleton_append]; congr 1; omega
    rw [e] at ih
    refine Ev.to (f := fun k => (laws_markText.f k m).bind fun t => laws_markStringS.l0 k (x0.set i t) (m + 1) ((i + 1 : Nat) : Int)) ((markText m (by omega)).bind ih) fun k => ?_
    have w1 : wrap64 (m + 1) = m + 1 := wid (by omega) (by omega)
    have w2 : wrap64 ((i : Int) + 1) = ((i + 1 : Nat) : Int) := by rw [wid (by omega) (by omega)]; rfl
    simp only [laws_markStringS.l0, w1, w2, Int.toNat_natCast, if_pos (show (0 : Int) ≤ (i : Int) by omega), if_pos (show (i : Int) < x0.length by omega)]
theorem markStringS (x0 : List ByteArray) (m : Int) (hl : x0.length ≤ 100000000) (h0 : 0 ≤ m) (h1 : m ≤ 1000000000) : Ev (fun k => laws_markStringS.f k x0 m) (m + x0.length, mkS m x0) := by
  unfold laws_markStringS.f
  have := markStringS_go x0.length 0 x0 m (by omega) hl h0 (by omega)
  simpa using this

theorem heldStringS_go (z : List ByteArray) (hl : z.length ≤ 100000000) : ∀ (d i : Nat) (l : List ByteArray) (m : Int), l.length = d → i + d = z.length → z.drop i = mkS m l → 0 ≤ m → m + d ≤ 10000000000 → Ev (fun k => laws_heldStringS.l0 k z m (i : Int)) (m + d)
  | 0, i, l, m, hd, hi, hz, h0, h1 => by
    refine Ev.ofEq ((Ev.now m).to fun k => ?_) (by omega)
    simp only [laws_heldStringS.l0]; rw [if_neg (by omega)]
  | d + 1, i, [], m, hd, hi, hz, h0, h1 => by simp at hd
  | d + 1, i, x :: l, m, hd, hi, hz, h0, h1 => by
    have hlt : i < z.length := by omega
    rw [List.drop_eq_getElem_cons hlt, mkS, List.cons.injEq] at hz
    have ih := heldStringS_go z hl d (i + 1) l (m + 1) (by simpa using hd) (by omega) hz.2 (by omega) (by omega)
    refine Ev.ofEq (r := m + 1 + d) ?_ (by omega)
    refine Ev.to (f := fun k => (laws_markText.f k m).bind fun t => if z[i].toList = t.toList then laws_heldStringS.l0 k z (m + 1) ((i + 1 : Nat) : Int) else some (-1)) (r := m + 1 + d) ?_ fun k => ?_
    · refine (markText m (by omega)).bind ?_
      refine Ev.ifp ?_ ih
      rw [hz.1]
    have w1 : wrap64 (m + 1) = m + 1 := wid (by omega) (by omega)
    have w2 : wrap64 ((i : Int) + 1) = ((i + 1 : Nat) : Int) := by rw [wid (by omega) (by omega)]; rfl
    simp only [laws_heldStringS.l0, w1, w2]
    clear w1 w2
    rw [if_pos (by omega), if_pos (by omega), rdOf_at _ hlt]
theorem heldStringS (l : List ByteArray) (m : Int) (hl : l.length ≤ 100000000) (h0 : 0 ≤ m) (h1 : m ≤ 1000000000) : Ev (fun k => laws_heldStringS.f k (mkS m l) m) (m + l.length) := by
  unfold laws_heldStringS.f
  exact heldStringS_go (mkS m l) (by rw [mkS_len]; exact hl) l.length 0 l m rfl (by rw [mkS_len]; omega) (by simp) h0 (by omega)

theorem sParts_end (s : ByteArray) (i : Nat) (hi : i = s.size) (hs : s.size ≤ 400) (o : List ByteArray) (b' : Int) : Ev (fun k => spec_PartsOf.l0 k s o b' ((i + 1 : Nat) : Int)) (fin o) := by
  unfold fin
  by_cases c : (o.length : Int) > 8
  · rw [if_pos c]
    refine (Ev.now _).to fun k => ?_
    simp only [spec_PartsOf.l0]
    rw [if_neg (by omega), if_pos c]
  · rw [if_neg c]
    refine (Ev.now _).to fun k => ?_
    simp only [spec_PartsOf.l0]
    rw [if_neg (by omega), if_neg c]
theorem sParts_j2 (s : ByteArray) (hs : s.size ≤ 400) (i b : Nat) (out : List ByteArray) (hi : i ≤ s.size) (ho : out.length ≤ i) {r : List ByteArray × Bool}
    (h : Ev (fun k => spec_PartsOf.l0 k s (out ++ if b < i then [mkB ((s.data.toList.take i).drop b)] else []) ((i + 1 : Nat) : Int) ((i + 1 : Nat) : Int)) r) : Ev (fun k => spec_PartsOf.j2 k s out (b : Int) (i : Int) false) r := by
  have w1 : wrap64 ((i : Int) + 1) = ((i + 1 : Nat) : Int) := by rw [wid (by omega) (by omega)]; rfl
  by_cases c : b < i
  · rw [if_pos c] at h
    refine h.to fun k => ?_
    simp only [spec_PartsOf.j2, w1]
    rw [if_neg (by decide), if_pos (by omega), if_pos (by omega), if_pos (by omega), if_pos (by omega), if_pos (by omega), Int.toNat_natCast, Int.toNat_natCast, ext_u]
  · rw [if_neg c, List.append_nil] at h
    refine h.to fun k => ?_
    simp only [spec_PartsOf.j2, w1]
    rw [if_neg (by decide), if_neg (by omega)]
theorem cur_nil (s : ByteArray) {b i : Nat} (hi : i ≤ s.size) : (s.data.toList.take i).drop b = [] ↔ ¬ b < i := by
  have hl : s.data.toList.length = s.size := rfl
  rw [List.drop_eq_nil_iff, List.length_take]
  omega
theorem sParts_go (s : ByteArray) (hs : s.size ≤ 400) : ∀ (d i : Nat), i + d = s.size → ∀ (out : List ByteArray) (b : Nat), b ≤ i → out.length ≤ i →
    Ev (fun k => spec_PartsOf.l0 k s out (b : Int) (i : Int)) (if (s.data.toList.drop i).all gd = true then fin (out ++ (wordsU ((s.data.toList.take i).drop b) (s.data.toList.drop i)).map mkB) else ([], false))
  | 0, i, hi, out, b, hb, ho => by
    have hl : s.data.toList.length = s.size := rfl
    rw [show s.data.toList.drop i = [] from List.drop_of_length_le (by omega), if_pos (by rfl)]
    refine Ev.to (f := fun k => spec_PartsOf.j1 k s out (b : Int) (i : Int) false) ?_ fun k => ?_
    · refine Ev.to (f := fun k => spec_PartsOf.j2 k s out (b : Int) (i : Int) false) ?_ fun k => ?_
      · refine sParts_j2 s hs i b out (by omega) ho ?_
        have e : (wordsU ((s.data.toList.take i).drop b) []).map mkB = if b < i then [mkB ((s.data.toList.take i).drop b)] else [] := by
          unfold wordsU
          by_cases c : b < i
          · rw [if_pos c, if_neg (fun h => (cur_nil s (by omega)).1 h c)]; rfl
          · rw [if_neg c, if_pos ((cur_nil s (by omega)).2 c)]; rfl
        rw [e]
        exact sParts_end s i (by omega) hs _ _
      · simp only [spec_PartsOf.j1]
        rw [if_neg (by decide), if_neg (by omega)]
    · simp only [spec_PartsOf.l0]
      rw [if_pos (by omega), if_neg (by omega)]
  | d + 1, i, hi, out, b, hb, ho => by
    have hl : s.data.toList.length = s.size := rfl
    have hlt : i < s.data.toList.length := by omega
    have hbt := bt_u s hlt
    have hdr : s.data.toList.drop i = s.data.toList[i] :: s.data.toList.drop (i + 1) := List.drop_eq_getElem_cons hlt
    have htk : s.data.toList.take (i + 1) = s.data.toList.take i ++ [s.data.toList[i]] := List.take_succ_eq_append_getElem hlt
    have ih := sParts_go s hs d (i + 1) (by omega)
    have w1 : wrap64 ((i : Int) + 1) = ((i + 1 : Nat) : Int) := by rw [wid (by omega) (by omega)]; rfl
    rw [hdr]
    generalize s.data.toList[i] = c at *
    rw [List.all_cons]
    by_cases hg : gd c = true
    · rw [hg, Bool.true_and]
      obtain ⟨g0, g1⟩ := gd_t hg
      refine Ev.to (f := fun k => spec_PartsOf.j1 k s out (b : Int) (i : Int) false) ?_ fun k => ?_
      · by_cases h32 : c = 32
        · refine Ev.to (f := fun k => spec_PartsOf.j2 k s out (b : Int) (i : Int) false) ?_ fun k => ?_
          · refine sParts_j2 s hs i b out (by omega) ho ?_
            refine Ev.ofEq (ih _ (i + 1) (Nat.le_refl _) ?_) ?_
            · by_cases hc : b < i
              · rw [if_pos hc, List.length_append]; simp; omega
              · rw [if_neg hc, List.append_nil]; omega
            · have e : (wordsU ((s.data.toList.take i).drop b) (c :: s.data.toList.drop (i + 1))).map mkB = (if b < i then [mkB ((s.data.toList.take i).drop b)] else []) ++ (wordsU [] (s.data.toList.drop (i + 1))).map mkB := by
                conv => lhs; unfold wordsU
                rw [if_pos h32]
                by_cases hc : b < i
                · rw [if_pos hc, if_neg (fun h => (cur_nil s (by omega)).1 h hc)]; rfl
                · rw [if_neg hc, if_pos ((cur_nil s (by omega)).2 hc)]; rfl
              rw [e, show (s.data.toList.take (i + 1)).drop (i + 1) = [] from List.drop_of_length_le (by rw [List.length_take]; omega), List.append_assoc]
          · simp only [spec_PartsOf.j1]
            rw [if_neg (by decide), if_pos (by omega), if_pos (by omega), hbt, u32.2 h32]
            rfl
        · refine Ev.to (f := fun k => spec_PartsOf.j2 k s out (b : Int) (i : Int) true) ?_ fun k => ?_
          · refine Ev.to (f := fun k => spec_PartsOf.l0 k s out (b : Int) ((i + 1 : Nat) : Int)) ?_ fun k => ?_
            · refine Ev.ofEq (ih out b (by omega) (by omega)) ?_
              have e : wordsU ((s.data.toList.take i).drop b) (c :: s.data.toList.drop (i + 1)) = wordsU ((s.data.toList.take (i + 1)).drop b) (s.data.toList.drop (i + 1)) := by
                conv => lhs; unfold wordsU
                rw [if_neg h32, htk, List.drop_append_of_le_length (by rw [List.length_take]; omega)]
              rw [e]
            · simp only [spec_PartsOf.j2, w1, if_true]
          · simp only [spec_PartsOf.j1]
            rw [if_neg (by decide), if_pos (by omega), if_pos (by omega), hbt, show ((c.toNat : Int) != 32) = true from bne_iff_ne.2 (fun h => h32 (u32.1 h))]
      · simp only [spec_PartsOf.l0]
        rw [if_pos (by omega), if_pos (by omega), if_pos (by omega), hbt, if_neg (by omega), show decide ((c.toNat : Int) > 126) = false from decide_eq_false (by omega)]
    · rw [show gd c = false from by simpa using hg, Bool.false_and, if_neg (by decide)]
      refine Ev.to (f := fun k => spec_PartsOf.j1 k s out (b : Int) (i : Int) true) ?_ fun k => ?_
      · refine (Ev.now _).to fun k => ?_
        simp only [spec_PartsOf.j1, if_true]
      · simp only [spec_PartsOf.l0]
        rw [if_pos (by omega), if_pos (by omega), if_pos (by omega), hbt]
        rcases gd_f hg with h | h
        · rw [if_pos (by omega)]
        · rw [if_neg (by omega), show decide ((c.toNat : Int) > 126) = true from decide_eq_true (by omega)]
theorem sParts (s : ByteArray) : Ev (fun k => spec_PartsOf.f k s) (pParts s) := by
  unfold spec_PartsOf.f pParts
  simp only [Option.bind_some]
  by_cases h : (s.size : Int) > 400
  · rw [if_pos h]; exact Ev.ifp h (Ev.now _)
  · rw [if_neg h]
    refine Ev.ifn h ?_
    exact sParts_go s (by omega) s.size 0 (by omega) [] 0 (Nat.le_refl _) (Nat.le_refl _)
theorem iParts_l1 (ps : List ByteArray) (hp : ps.length ≤ 1000000) : ∀ (d j : Nat), j + d = ps.length → ∀ acc : List ByteArray, acc.length ≤ j →
    Ev (fun k => impl_PartsOf.l1 k acc ps (ps.length : Int) (j : Int)) (fin (acc ++ (ps.drop j).filter (fun p => !p.data.toList.isEmpty)))
  | 0, j, hj, acc, ha => by
    rw [show ps.drop j = [] from List.drop_of_length_le (by omega), List.filter_nil, List.append_nil]
    unfold fin
    by_cases c : (acc.length : Int) > 8
    · rw [if_pos c]
      refine (Ev.now _).to fun k => ?_
      simp only [impl_PartsOf.l1]
      rw [if_neg (by omega), if_pos c]
    · rw [if_neg c]
      refine (Ev.now _).to fun k => ?_
      simp only [impl_PartsOf.l1]
      rw [if_neg (by omega), if_neg c]
  | d + 1, j, hj, acc, ha => by
    have hlt : j < ps.length := by omega
    have w1 : wrap64 ((j : Int) + 1) = ((j + 1 : Nat) : Int) := by rw [wid (by omega) (by omega)]; rfl
    have hr : rdOf ByteArray.empty ps (j : Int) = ps[j] := rdOf_at _ hlt
    have ih := iParts_l1 ps hp d (j + 1) (by omega)
    rw [List.drop_eq_getElem_cons hlt, List.filter_cons]
    generalize ps[j] = p at *
    have hE : (p.toList = ([] : List UInt8)) ↔ p.data.toList.isEmpty = true := by
      rw [ByteArray.toList_eq, List.isEmpty_iff]
    by_cases c : p.toList = []
    · rw [if_neg (by rw [hE.1 c]; decide)]
      refine (ih acc (by omega)).to fun k => ?_
      simp only [impl_PartsOf.l1, w1]
      rw [if_pos (by omega), if_pos (by omega), if_pos (by omega), hr, if_pos c]
    · rw [if_pos (by rw [Bool.not_eq_true', ← Bool.not_eq_true]; exact fun h => c (hE.2 h))]
      refine Ev.ofEq ((ih (acc ++ [p]) (by rw [List.length_append]; simp; omega)).to fun k => ?_) (by rw [List.append_assoc]; rfl)
      simp only [impl_PartsOf.l1, w1]
      rw [if_pos (by omega), if_pos (by omega), if_pos (by omega), hr, if_neg c, if_pos (by omega)]
theorem piecesU_len : ∀ (l cur : List UInt8), (piecesU cur l).length ≤ l.length + 1
  | [], _ => Nat.le_refl _
  | c :: l, cur => by
    unfold piecesU
    split
    · have := piecesU_len l []; simp only [List.length_cons]; omega
    · have := piecesU_len l (cur ++ [c]); simp only [List.length_cons]; omega
theorem iParts_tail (s : ByteArray) (hs : s.size ≤ 400) : Ev (fun k => (strings_Split.f s (⟨#[32]⟩ : ByteArray)).bind fun t => impl_PartsOf.l1 k [] t (t.length : Int) 0) (fin ((wordsU [] s.data.toList).map mkB)) := by
  have e1 : strings_Split.f s (⟨#[32]⟩ : ByteArray) = some ((piecesU [] s.data.toList).map mkB) := by
    unfold strings_Split.f
    rw [if_pos ⟨by omega, rfl⟩, splitB_pieces]
  simp only [e1, Option.bind_some]
  have hl : ((piecesU [] s.data.toList).map mkB).length ≤ 1000000 := by
    rw [List.length_map]
    have := piecesU_len s.data.toList []
    have h2 : s.data.toList.length = s.size := rfl
    omega
  have h := iParts_l1 ((piecesU [] s.data.toList).map mkB) hl _ 0 (Nat.zero_add _) [] (Nat.le_refl _)
  rw [List.drop_zero, List.nil_append, List.filter_map] at h
  rw [← words_pieces]
  exact h
theorem iParts_go (s : ByteArray) (hs : s.size ≤ 400) : ∀ (d i : Nat), i + d = s.size →
    Ev (fun k => impl_PartsOf.l0 k s (s.size : Int) (i : Int)) (if (s.data.toList.drop i).all gd = true then fin ((wordsU [] s.data.toList).map mkB) else ([], false))
  | 0, i, hi => by
    have hl : s.data.toList.length = s.size := rfl
    rw [show s.data.toList.drop i = [] from List.drop_of_length_le (by omega), if_pos (by rfl)]
    refine (iParts_tail s hs).to fun k => ?_
    simp only [impl_PartsOf.l0]
    rw [if_neg (by omega)]
  | d + 1, i, hi => by
    have hl : s.data.toList.length = s.size := rfl
    have hlt : i < s.data.toList.length := by omega
    have hbt := bt_u s hlt
    have ih := iParts_go s hs d (i + 1) (by omega)
    have w1 : wrap64 ((i : Int) + 1) = ((i + 1 : Nat) : Int) := by rw [wid (by omega) (by omega)]; rfl
    rw [List.drop_eq_getElem_cons hlt, List.all_cons]
    generalize s.data.toList[i] = c at *
    by_cases hg : gd c = true
    · rw [hg, Bool.true_and]
      obtain ⟨g0, g1⟩ := gd_t hg
      refine ih.to fun k => ?_
      simp only [impl_PartsOf.l0, w1]
      rw [if_pos (by omega), if_pos (by omega), if_pos (by omega), hbt, if_neg (by omega), if_neg (by omega)]
    · rw [show gd c = false from by simpa using hg, Bool.false_and, if_neg (by decide)]
      refine (Ev.now _).to fun k => ?_
      simp only [impl_PartsOf.l0]
      rw [if_pos (by omega), if_pos (by omega), if_pos (by omega), hbt]
      rcases gd_f hg with h | h
      · rw [if_pos (by omega)]
      · rw [if_neg (by omega), if_pos (by omega)]
theorem iParts (s : ByteArray) : Ev (fun k => impl_PartsOf.f k s) (pParts s) := by
  unfold impl_PartsOf.f pParts
  by_cases h : (s.size : Int) > 400
  · rw [if_pos h]; exact Ev.ifp h (Ev.now _)
  · rw [if_neg h]
    refine Ev.ifn h ?_
    exact iParts_go s (by omega) s.size 0 (by omega)
theorem pParts_len (s : ByteArray) : (pParts s).1.length ≤ 8 := by
  unfold pParts
  by_cases h : (s.size : Int) > 400
  · rw [if_pos h]; exact Nat.zero_le _
  · rw [if_neg h]
    by_cases h2 : s.data.toList.all gd = true
    · rw [if_pos h2]
      unfold fin
      by_cases h3 : (((wordsU [] s.data.toList).map mkB).length : Int) > 8
      · rw [if_pos h3]; exact Nat.zero_le _
      · rw [if_neg h3]
        show ((wordsU [] s.data.toList).map mkB).length ≤ 8
        omega
    · rw [if_neg h2]; exact Nat.zero_le _
theorem FnExactPartsOf : laws_FnExactPartsOf.Pure := by
  intro s hs
  refine Ev.rounds (g := fun k => laws_FnExactPartsOf.f k s) ?_
  unfold laws_FnExactPartsOf.f
  by_cases hb : (s.size : Int) > 1048576
  · exact Ev.ifp hb (Ev.now _)
  refine Ev.ifn hb ?_
  have hS := sParts s
  have hI := iParts s
  have hl := pParts_len s
  generalize pParts s = z at *
  obtain ⟨z, q⟩ := z
  simp only at hl
  have hE := eqStringS z (by omega)
  have hM := markStringS z 1 (by omega) (by omega) (by omega)
  have hH := heldStringS z 1 (by omega) (by omega) (by omega)
  refine hS.bind (hI.bind (hE.bind (Ev.ifp rfl ?_)))
  refine Ev.to (f := fun k => (laws_markStringS.f k z 1).bind fun bt144 => (laws_heldStringS.f k bt144.2 1).bind fun t146 => if t146 < 0 then some false else if t146 = bt144.1 then (impl_PartsOf.f k s).bind fun bt147 => (laws_eqStringS.f k bt147.1 z).bind fun t151 => if t151 = true then laws_FnExactPartsOf.j1 k bt144.2 bt144.1 (bt147.2 != q) else laws_FnExactPartsOf.j1 k bt144.2 bt144.1 true else some false) (r := true) ?_ fun k => by
    simp only [laws_FnExactPartsOf.j0]
    rw [show (q != q) = false from bne_self_eq_false' _, if_neg (by decide)]
  refine hM.bind (hH.bind (Ev.ifn (by omega) (Ev.ifp rfl (hI.bind (hE.bind (Ev.ifp rfl ?_))))))
  refine Ev.to (f := fun k => (laws_heldStringS.f k (mkS 1 z) 1).bind fun t152 => if t152 < 0 then some false else if t152 = 1 + (z.length : Int) then some true else some false) (r := true) ?_ fun k => by
    simp only [laws_FnExactPartsOf.j1]
    rw [show (q != q) = false from bne_self_eq_false' _, if_neg (by decide)]
  exact hH.bind (Ev.ifn (by omega) (Ev.ifp rfl (Ev.now _)))

end Go.Proofs.YtcmgaldejpkeaaaDoor.Pure
