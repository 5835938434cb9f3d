/- The program's DeviceNew and the reference's DeviceNew return the same device and flag, for every number; the answer owns its memory. -/
import Derived.Test.YtjhgcdjpabhifaaPFnExactDeviceNewx4
import Derived.Laws.BitsAllLaws
namespace Go.Proofs.Ytjhgcdjpabhifaa.Pure
open Go.RowKit Go.Proofs.Ytjhgcdjpabhifaa.PFnExactDeviceNew Go.Proofs.YtjhgcdjpabhifaaW.PrintWords Go.Proofs.YtjhgcdjpabhifaaW.PrintLast
set_option linter.unusedVariables false
set_option linter.unusedSimpArgs false
set_option maxHeartbeats 4000000

theorem wid {n : Int} (h0 : -9223372036854775808 ≤ n) (h1 : n < 9223372036854775808) : wrap64 n = n := by unfold wrap64; omega
theorem _root_.Go.Proofs.YtjhgcdjpabhifaaW.PrintWords.Ev.ofEq {α : Type} {g : Nat → Option α} {r q : α} (h : Ev g r) (e : r = q) : Ev g q := e ▸ h
theorem _root_.Go.Proofs.YtjhgcdjpabhifaaW.PrintWords.Ev.same {α : Type} {o : Option α} {r : α} (h : o = some r) : Ev (fun _ => o) r := ⟨0, fun _ _ => h⟩
theorem _root_.Go.Proofs.YtjhgcdjpabhifaaW.PrintWords.Ev.to {α : Type} {g f : Nat → Option α} {r : α} (k : Ev f r) (h : ∀ k, g (k + 1) = f k) : Ev g r := Ev.step h k
theorem _root_.Go.Proofs.YtjhgcdjpabhifaaW.PrintWords.Ev.cg {α : Type} {g f : Nat → Option α} {r : α} (k : Ev f r) (h : ∀ k, g k = f k) : Ev g r := Ev.congr h k
theorem _root_.Go.Proofs.YtjhgcdjpabhifaaW.PrintWords.Ev.ifp {α : Type} {c : Prop} [Decidable c] {g f : Nat → Option α} {r : α} (h : c) (e : Ev g r) : Ev (fun k => if c then g k else f k) r := by simp only [if_pos h]; exact e
theorem _root_.Go.Proofs.YtjhgcdjpabhifaaW.PrintWords.Ev.ifn {α : Type} {c : Prop} [Decidable c] {g f : Nat → Option α} {r : α} (h : ¬ c) (e : Ev f r) : Ev (fun k => if c then g k else f k) r := by simp only [if_neg h]; exact e
/-- The bytes of a string, as numbers. -/
def bl (s : ByteArray) : List Int := s.data.toList.map fun b => (b.toNat : Int)
theorem bl_len (s : ByteArray) : (bl s).length = s.size := by unfold bl; rw [List.length_map]; rfl
def Byt (xs : List Int) : Prop := ∀ x ∈ xs, 0 ≤ x ∧ x < 256
theorem Byt.nil : Byt [] := fun _ h => by simp at h
theorem Byt.cons {x : Int} {xs : List Int} (h : 0 ≤ x ∧ x < 256) (h' : Byt xs) : Byt (x :: xs) := fun y hy => by
  rcases List.mem_cons.1 hy with rfl | hy
  · exact h
  · exact h' y hy
theorem Byt.app {xs ys : List Int} (h : Byt xs) (h' : Byt ys) : Byt (xs ++ ys) := fun y hy => by
  rcases List.mem_append.1 hy with hy | hy
  · exact h y hy
  · exact h' y hy
theorem Byt.left {xs ys : List Int} (h : Byt (xs ++ ys)) : Byt xs := fun y hy => h y (List.mem_append_left _ hy)
theorem Byt.right {xs ys : List Int} (h : Byt (xs ++ ys)) : Byt ys := fun y hy => h y (List.mem_append_right _ hy)
theorem Byt.tail {x : Int} {xs : List Int} (h : Byt (x :: xs)) : Byt xs := fun y hy => h y (List.mem_cons_of_mem _ hy)
theorem Byt.head {x : Int} {xs : List Int} (h : Byt (x :: xs)) : 0 ≤ x ∧ x < 256 := h x (List.mem_cons_self ..)
theorem Byt.drop {xs : List Int} (h : Byt xs) (n : Nat) : Byt (xs.drop n) := fun y hy => h y (List.mem_of_mem_drop hy)
theorem Byt.take {xs : List Int} (h : Byt xs) (n : Nat) : Byt (xs.take n) := fun y hy => h y (List.mem_of_mem_take hy)
theorem bl_byt (s : ByteArray) : Byt (bl s) := fun x hx => by
  obtain ⟨b, _, rfl⟩ := List.mem_map.1 hx
  have := b.toNat_lt
  omega
theorem u8_back (b : UInt8) : UInt8.ofNat ((b.toNat : Int)).toNat = b := by simp
theorem bl_str {xs : List Int} (h : Byt xs) : bl (strOfNums xs) = xs := by
  unfold bl
  rw [strOfNums_data, List.map_map]
  conv => rhs; rw [← List.map_id xs]
  apply List.map_congr_left
  intro x hx
  have := h x hx
  simp only [Function.comp, id]
  obtain ⟨n, rfl⟩ := Int.eq_ofNat_of_zero_le this.1
  simp
  omega
theorem str_bl (s : ByteArray) : strOfNums (bl s) = s := by
  unfold strOfNums bl
  rw [List.map_map]
  have : ((fun n : Int => UInt8.ofNat n.toNat) ∘ fun b : UInt8 => (b.toNat : Int)) = id := by
    funext b
    simp
  rw [this, List.map_id]
theorem bl_inj {a b : ByteArray} (h : bl a = bl b) : a = b := by rw [← str_bl a, ← str_bl b, h]
theorem bt_bl (s : ByteArray) (i : Int) : bt s i = (bl s).getD i.toNat 0 := by
  unfold bt
  split
  · rename_i h
    have hl : i.toNat < s.data.toList.length := h
    simp only [bl, List.getD_eq_getElem?_getD, List.getElem?_map, List.getElem?_eq_getElem hl, Option.map_some, Option.getD_some]
    rfl
  · rename_i h
    rw [List.getD_eq_getElem?_getD, List.getElem?_eq_none (by rw [bl_len]; omega)]
    rfl
theorem bl_app (a b : ByteArray) : bl (a ++ b) = bl a ++ bl b := by
  unfold bl
  rw [ByteArray.data_append, Array.toList_append, List.map_append]
theorem bl_ext (a : ByteArray) (i j : Nat) : bl (a.extract i j) = ((bl a).take j).drop i := by
  unfold bl
  rw [ByteArray.data_extract, Array.toList_extract, List.extract_eq_take_drop, List.map_take, List.map_drop, List.drop_take]
theorem bl_emp : bl (⟨#[]⟩ : ByteArray) = [] := rfl
theorem bl_cons {s : ByteArray} {i : Nat} (h : i < s.size) : (bl s).drop i = bt s (i : Int) :: (bl s).drop (i + 1) := by
  have hl : i < (bl s).length := by rw [bl_len]; exact h
  rw [List.drop_eq_getElem_cons hl, bt_bl, List.getD_eq_getElem?_getD, Int.toNat_natCast, List.getElem?_eq_getElem hl]
  rfl
theorem bl_end {s : ByteArray} {i : Nat} (h : s.size ≤ i) : (bl s).drop i = [] := List.drop_of_length_le (by rw [bl_len]; exact h)
theorem tl_inj {a b : ByteArray} : a.toList = b.toList ↔ a = b := by
  constructor
  · intro h
    rw [ByteArray.toList_eq, ByteArray.toList_eq] at h
    apply ByteArray.ext
    exact Array.toList_inj.1 h
  · rintro rfl; rfl
theorem tl_bl {a b : ByteArray} : a.toList = b.toList ↔ bl a = bl b := tl_inj.trans ⟨fun h => h ▸ rfl, bl_inj⟩
theorem tdiv_pos {a b : Int} (h : 0 ≤ a) : Int.tdiv a b = a / b := Int.tdiv_eq_ediv_of_nonneg h
theorem tmod_pos {a b : Int} (h : 0 ≤ a) : Int.tmod a b = a % b := Int.tmod_eq_emod_of_nonneg h
theorem bne_rfl_bool (b : Bool) : (b != b) = false := by cases b <;> rfl
theorem wf_u32 {n : Int} (h : (Lit.int .u32 n).wf = true) : 0 ≤ n ∧ n < 4294967296 := by
  have h1 : IntKind.u32.min = 0 := by decide +kernel
  have h2 : IntKind.u32.max = 4294967295 := by decide +kernel
  simp only [Lit.wf, h1, h2, Bool.and_eq_true, decide_eq_true_eq] at h
  omega
theorem wf_i64 {n : Int} (h : (Lit.int .i64 n).wf = true) : -9223372036854775808 ≤ n ∧ n < 9223372036854775808 := by
  have h1 : IntKind.i64.min = -9223372036854775808 := by decide +kernel
  have h2 : IntKind.i64.max = 9223372036854775807 := by decide +kernel
  simp only [Lit.wf, h1, h2, Bool.and_eq_true, decide_eq_true_eq] at h
  omega
theorem Byt.one {x : Int} (h : 0 ≤ x ∧ x < 256) : Byt [x] := Byt.nil.cons h
theorem bl_size (s : ByteArray) : s.size = (bl s).length := (bl_len s).symm
theorem str_len (xs : List Int) : (strOfNums xs).size = xs.length := strOfNums_size xs

theorem set_take {α : Type} (xs : List α) {i : Nat} (v : α) (h : i < xs.length) : (xs.set i v).take (i + 1) = xs.take i ++ [v] := by
  rw [List.take_succ_eq_append_getElem (by rw [List.length_set]; exact h), List.getElem_set_self, List.take_set_of_le (Nat.le_refl _)]
theorem getD_at {α : Type} {xs : List α} {i : Nat} (z : α) (h : i < xs.length) : xs.getD ((i : Int)).toNat z = xs[i] := by
  rw [Int.toNat_natCast, List.getD_eq_getElem?_getD, List.getElem?_eq_getElem h]; rfl
theorem rdOf_at {α : Type} {xs : List α} {i : Nat} (z : α) (h : i < xs.length) : rdOf z xs (i : Int) = xs[i] := getD_at z h
theorem rd_at {xs : List Int} {i : Nat} (h : i < xs.length) : rd xs (i : Int) = xs[i] := getD_at 0 h
theorem toNat_len (n : Nat) : ((n : Int) : Int).toNat = n := Int.toNat_natCast n

/-! Marks -/
def digL (n : Nat) : List Int := if h : n > 0 then digL (n / 10) ++ [48 + ((n % 10 : Nat) : Int)] else []
termination_by n
decreasing_by omega
theorem digL_pos {n : Nat} (h : n > 0) : digL n = digL (n / 10) ++ [48 + ((n % 10 : Nat) : Int)] := by rw [digL, dif_pos h]
theorem digL_zero : digL 0 = [] := by rw [digL, dif_neg (by omega)]
theorem digL_byt (n : Nat) : Byt (digL n) := by
  induction n using Nat.strongRecOn with
  | _ n ih =>
    by_cases h : n > 0
    · rw [digL_pos h]; exact (ih _ (by omega)).app (Byt.one ⟨by omega, by omega⟩)
    · obtain rfl : n = 0 := by omega
      rw [digL_zero]; exact Byt.nil
def MB : ByteArray := ⟨#[109]⟩
def mText (m : Int) : ByteArray := if m ≤ 0 then ⟨#[109, 48]⟩ else MB ++ strOfNums (digL m.toNat)
theorem str_app {xs ys : List Int} : strOfNums (xs ++ ys) = strOfNums xs ++ strOfNums ys := by
  apply ByteArray.ext
  unfold strOfNums
  rw [ByteArray.data_append]
  simp
theorem ba_assoc (a b c : ByteArray) : a ++ b ++ c = a ++ (b ++ c) := by
  apply bl_inj
  simp only [bl_app, List.append_assoc]
theorem mText_go (n : Nat) : ∀ acc : ByteArray, acc.size + n ≤ 1000000000000 → Ev (fun k => laws_markText.l0 k (n : Int) acc) (MB ++ (strOfNums (digL n) ++ acc)) := by
  induction n using Nat.strongRecOn with
  | _ n ih =>
    intro acc ha
    by_cases h : n > 0
    · have h1 : (strOfNums [48 + ((n % 10 : Nat) : Int)] ++ acc).size = 1 + acc.size := by rw [bl_size, bl_app, List.length_append, bl_len, bl_len, str_len]; rfl
      have := ih (n / 10) (by omega) (strOfNums [48 + ((n % 10 : Nat) : Int)] ++ acc) (by omega)
      rw [← ba_assoc (strOfNums (digL (n / 10))), ← str_app, ← digL_pos h] at this
      refine this.to fun k => ?_
      have w : wrap64 (48 + Int.tmod (n : Int) 10) % 256 = 48 + ((n % 10 : Nat) : Int) := by rw [tmod_pos (by omega), wid (by omega) (by omega)]; omega
      simp only [laws_markText.l0, w, Option.bind_some]
      clear w
      rw [if_pos (by omega), if_pos (by rw [str_len, List.length_singleton]; omega), tdiv_pos (by omega), wid (by omega) (by omega)]
      congr 1
    · obtain rfl : n = 0 := by omega
      rw [digL_zero]
      refine (Ev.now _).to fun k => ?_
      simp only [laws_markText.l0]
      rw [if_neg (by omega), if_pos (by omega)]
      have e : strOfNums [] ++ acc = acc := by apply bl_inj; rw [bl_app]; rfl
      rw [e]
      rfl
theorem markText (m : Int) (h : m ≤ 100000000000) : Ev (fun k => laws_markText.f k m) (mText m) := by
  unfold laws_markText.f mText
  by_cases h0 : m ≤ 0
  · rw [if_pos h0]; exact Ev.ifp h0 (Ev.now _)
  · rw [if_neg h0]
    refine Ev.ifn h0 ?_
    have := mText_go m.toNat (⟨#[]⟩ : ByteArray) (by show 0 + m.toNat ≤ _; omega)
    rw [Int.toNat_of_nonneg (by omega)] at this
    refine Ev.ofEq this ?_
    congr 1
    apply bl_inj
    rw [bl_app, bl_emp, List.append_nil]
theorem take_set_drop {α : Type} (xs : List α) {i : Nat} (v : α) (h : i < xs.length) : (xs.set i v).drop (i + 1) = xs.drop (i + 1) := by
  rw [List.drop_set_of_lt (by omega)]

def mkS : Int → List ByteArray → List ByteArray
  | _, [] => []
  | m, _ :: l => mText m :: mkS (m + 1) l
theorem mkS_len : ∀ (l : List ByteArray) (m : Int), (mkS m l).length = l.length
  | [], _ => rfl
  | _ :: l, m => by simp only [mkS, List.length_cons, mkS_len l]
theorem markStringS_go : ∀ (d i : Nat) (x0 : List ByteArray) (m : Int), i + d = x0.length → x0.length ≤ 100000000 → 0 ≤ m → m + d ≤ 10000000000 → Ev (fun k => laws_markStringS.l0 k x0 m (i : Int)) (m + d, x0.take i ++ mkS m (x0.drop i))
  | 0, i, x0, m, hi, hl, h0, h1 => by
    rw [List.drop_of_length_le (by omega), List.take_of_length_le (by omega)]
    refine Ev.ofEq ((Ev.now (m, x0)).to fun k => ?_) (by simp [mkS])
    simp only [laws_markStringS.l0]; rw [if_neg (by omega)]
  | d + 1, i, x0, m, hi, hl, h0, h1 => by
    have hlt : i < x0.length := by omega
    have ih := markStringS_go d (i + 1) (x0.set i (mText m)) (m + 1) (by rw [List.length_set]; omega) (by rw [List.length_set]; omega) (by omega) (by omega)
    rw [set_take _ _ hlt, take_set_drop _ _ hlt, List.append_assoc] at ih
    rw [List.drop_eq_getElem_cons hlt, mkS]
    have e : ((m + 1) + (d : Int), x0.take i ++ ([mText m] ++ mkS (m + 1) (x0.drop (i + 1)))) = (m + ((d + 1 : Nat) : Int), x0.take i ++ mText m :: mkS (m + 1) (x0.drop (i + 1))) := by
      rw [List.singleton_append]; congr 1; omega
    rw [e] at ih
    refine Ev.to (f := fun k => (laws_markText.f k m).bind fun t => laws_markStringS.l0 k (x0.set i t) (m + 1) ((i + 1 : Nat) : Int)) ((markText m (by omega)).bind ih) fun k => ?_
    have w1 : wrap64 (m + 1) = m + 1 := wid (by omega) (by omega)
    have w2 : wrap64 ((i : Int) + 1) = ((i + 1 : Nat) : Int) := by rw [wid (by omega) (by omega)]; rfl
    simp only [laws_markStringS.l0, w1, w2, Int.toNat_natCast, if_pos (show (0 : Int) ≤ (i : Int) by omega), if_pos (show (i : Int) < x0.length by omega)]
theorem markStringS (x0 : List ByteArray) (m : Int) (hl : x0.length ≤ 100000000) (h0 : 0 ≤ m) (h1 : m ≤ 1000000000) : Ev (fun k => laws_markStringS.f k x0 m) (m + x0.length, mkS m x0) := by
  unfold laws_markStringS.f
  have := markStringS_go x0.length 0 x0 m (by omega) hl h0 (by omega)
  simpa using this
theorem heldStringS_go (z : List ByteArray) (hl : z.length ≤ 100000000) : ∀ (d i : Nat) (l : List ByteArray) (m : Int), l.length = d → i + d = z.length → z.drop i = mkS m l → 0 ≤ m → m + d ≤ 10000000000 → Ev (fun k => laws_heldStringS.l0 k z m (i : Int)) (m + d)
  | 0, i, l, m, hd, hi, hz, h0, h1 => by
    refine Ev.ofEq ((Ev.now m).to fun k => ?_) (by omega)
    simp only [laws_heldStringS.l0]; rw [if_neg (by omega)]
  | d + 1, i, [], m, hd, hi, hz, h0, h1 => by simp at hd
  | d + 1, i, x :: l, m, hd, hi, hz, h0, h1 => by
    have hlt : i < z.length := by omega
    rw [List.drop_eq_getElem_cons hlt, mkS, List.cons.injEq] at hz
    have ih := heldStringS_go z hl d (i + 1) l (m + 1) (by simpa using hd) (by omega) hz.2 (by omega) (by omega)
    refine Ev.ofEq (r := m + 1 + d) ?_ (by omega)
    refine Ev.to (f := fun k => (laws_markText.f k m).bind fun t => if z[i].toList = t.toList then laws_heldStringS.l0 k z (m + 1) ((i + 1 : Nat) : Int) else some (-1)) (r := m + 1 + d) ?_ fun k => ?_
    · refine (markText m (by omega)).bind ?_
      refine Ev.ifp ?_ ih
      rw [hz.1]
    have w1 : wrap64 (m + 1) = m + 1 := wid (by omega) (by omega)
    have w2 : wrap64 ((i : Int) + 1) = ((i + 1 : Nat) : Int) := by rw [wid (by omega) (by omega)]; rfl
    simp only [laws_heldStringS.l0, w1, w2]
    clear w1 w2
    rw [if_pos (by omega), if_pos (by omega), rdOf_at _ hlt]
theorem heldStringS (l : List ByteArray) (m : Int) (hl : l.length ≤ 100000000) (h0 : 0 ≤ m) (h1 : m ≤ 1000000000) : Ev (fun k => laws_heldStringS.f k (mkS m l) m) (m + l.length) := by
  unfold laws_heldStringS.f
  exact heldStringS_go (mkS m l) (by rw [mkS_len]; exact hl) l.length 0 l m rfl (by rw [mkS_len]; omega) (by simp) h0 (by omega)

theorem ri_Put {xs : List S117} {i : Nat} (h : i < xs.length) : rd_T117 xs (i : Int) = xs[i] := getD_at _ h

def mkPut : Int → List S117 → List S117
  | _, [] => []
  | m, _ :: l => ⟨m, mText (m + 1)⟩ :: mkPut (m + 2) l
theorem mkPut_len : ∀ (l : List S117) (m : Int), (mkPut m l).length = l.length
  | [], _ => rfl
  | _ :: l, m => by simp only [mkPut, List.length_cons, mkPut_len l]
theorem ri_set_Put {xs : List S117} {i : Nat} (v : S117) (h : i < xs.length) : rd_T117 (xs.set i v) (i : Int) = v := by
  rw [ri_Put (by rw [List.length_set]; exact h), List.getElem_set_self]
theorem markPutS_go : ∀ (d i : Nat) (x0 : List S117) (m : Int), i + d = x0.length → x0.length ≤ 100000000 → 0 ≤ m → m + 2 * d ≤ 10000000000 → Ev (fun k => laws_markPutS.l0 k x0 m (i : Int)) (m + 2 * d, x0.take i ++ mkPut m (x0.drop i))
  | 0, i, x0, m, hi, hl, h0, h1 => by
    rw [List.drop_of_length_le (by omega), List.take_of_length_le (by omega)]
    refine Ev.ofEq ((Ev.now (m, x0)).to fun k => ?_) (by simp [mkPut])
    simp only [laws_markPutS.l0]; rw [if_neg (by omega)]
  | d + 1, i, x0, m, hi, hl, h0, h1 => by
    have hlt : i < x0.length := by omega
    have ih := markPutS_go d (i + 1) (x0.set i ⟨m, mText (m + 1)⟩) (m + 2) (by rw [List.length_set]; omega) (by rw [List.length_set]; omega) (by omega) (by omega)
    rw [set_take _ _ hlt, take_set_drop _ _ hlt, List.append_assoc] at ih
    rw [List.drop_eq_getElem_cons hlt, mkPut]
    have e : ((m + 2) + 2 * (d : Int), x0.take i ++ ([⟨m, mText (m + 1)⟩] ++ mkPut (m + 2) (x0.drop (i + 1)))) = (m + 2 * ((d + 1 : Nat) : Int), x0.take i ++ ⟨m, mText (m + 1)⟩ :: mkPut (m + 2) (x0.drop (i + 1))) := by
      rw [List.singleton_append]; congr 1; omega
    rw [e] at ih
    refine Ev.to (f := fun k => (laws_markText.f k (m + 1)).bind fun t1 => laws_markPutS.l0 k (x0.set i ⟨m, t1⟩) (m + 2) ((i + 1 : Nat) : Int)) (r := (m + 2 * ((d + 1 : Nat) : Int), x0.take i ++ ⟨m, mText (m + 1)⟩ :: mkPut (m + 2) (x0.drop (i + 1)))) ?_ fun k => ?_
    · skip
      refine (markText _ (by omega)).bind ?_
      exact ih
    have w0 : wrap64 (m + 1) = m + 1 := wid (by omega) (by omega)
    have w1 : wrap64 (m + 1 + 1) = m + 2 := by rw [wid (by omega) (by omega)]; omega
    have w_ : wrap64 ((i : Int) + 1) = ((i + 1 : Nat) : Int) := by rw [wid (by omega) (by omega)]; rfl
    simp only [laws_markPutS.l0, w0, w1, w_, Int.toNat_natCast, Option.bind_some, ri_Put hlt, ri_set_Put _ hlt, List.set_set]
    clear w_ w0 w1
    rw [if_pos (by omega), if_pos (by omega)]
theorem markPutS (x0 : List S117) (m : Int) (hl : x0.length ≤ 100000000) (h0 : 0 ≤ m) (h1 : m ≤ 1000000000) : Ev (fun k => laws_markPutS.f k x0 m) (m + 2 * x0.length, mkPut m x0) := by
  unfold laws_markPutS.f
  have := markPutS_go x0.length 0 x0 m (by omega) hl h0 (by omega)
  simpa using this
theorem heldPutS_go (z : List S117) (hl : z.length ≤ 100000000) : ∀ (d i : Nat) (l : List S117) (m : Int), l.length = d → i + d = z.length → z.drop i = mkPut m l → 0 ≤ m → m + 2 * d ≤ 10000000000 → Ev (fun k => laws_heldPutS.l0 k z m (i : Int)) (m + 2 * d)
  | 0, i, l, m, hd, hi, hz, h0, h1 => by
    refine Ev.ofEq ((Ev.now m).to fun k => ?_) (by omega)
    simp only [laws_heldPutS.l0]; rw [if_neg (by omega)]
  | d + 1, i, [], m, hd, hi, hz, h0, h1 => by simp at hd
  | d + 1, i, x :: l, m, hd, hi, hz, h0, h1 => by
    have hlt : i < z.length := by omega
    rw [List.drop_eq_getElem_cons hlt, mkPut, List.cons.injEq] at hz
    have ih := heldPutS_go z hl d (i + 1) l (m + 2) (by simpa using hd) (by omega) hz.2 (by omega) (by omega)
    refine Ev.ofEq (r := m + 2 + 2 * d) ?_ (by omega)
    refine Ev.to (f := fun k => if z[i].f0 = m then (laws_markText.f k (m + 1)).bind fun t1 => if z[i].f1.toList = t1.toList then laws_heldPutS.l0 k z (m + 2) ((i + 1 : Nat) : Int) else some (-1) else some (-1)) (r := m + 2 + 2 * d) ?_ fun k => ?_
    · skip
      refine Ev.ifp (by rw [hz.1]) ?_
      refine (markText _ (by omega)).bind ?_
      refine Ev.ifp (by rw [hz.1]) ?_
      exact ih
    have w0 : wrap64 (m + 1) = m + 1 := wid (by omega) (by omega)
    have w1 : wrap64 (m + 1 + 1) = m + 2 := by rw [wid (by omega) (by omega)]; omega
    have w_ : wrap64 ((i : Int) + 1) = ((i + 1 : Nat) : Int) := by rw [wid (by omega) (by omega)]; rfl
    simp only [laws_heldPutS.l0, w0, w1, w_, ri_Put hlt]
    clear w_ w0 w1
    rw [if_pos (by omega), if_pos (by omega)]
theorem heldPutS (l : List S117) (m : Int) (hl : l.length ≤ 100000000) (h0 : 0 ≤ m) (h1 : m ≤ 1000000000) : Ev (fun k => laws_heldPutS.f k (mkPut m l) m) (m + 2 * l.length) := by
  unfold laws_heldPutS.f
  exact heldPutS_go (mkPut m l) (by rw [mkPut_len]; exact hl) l.length 0 l m rfl (by rw [mkPut_len]; omega) (by simp) h0 (by omega)

theorem markDevice (s : List ByteArray) (p : List S117) (m : Int) (hs : s.length ≤ 1000000) (hp : p.length ≤ 1000000) (h0 : 0 ≤ m) (h1 : m ≤ 10000000) : Ev (fun k => laws_markDevice.f k s p m) (m + s.length + 2 * p.length, mkS m s, mkPut (m + s.length) p) := by
  unfold laws_markDevice.f
  exact (markStringS s m (by omega) h0 (by omega)).bind ((markPutS p (m + s.length) (by omega) (by omega) (by omega)).bind (Ev.now _))
theorem heldDevice (s : List ByteArray) (p : List S117) (m : Int) (hs : s.length ≤ 1000000) (hp : p.length ≤ 1000000) (h0 : 0 ≤ m) (h1 : m ≤ 10000000) : Ev (fun k => laws_heldDevice.f k (mkS m s) (mkPut (m + s.length) p) m) (m + s.length + 2 * p.length) := by
  unfold laws_heldDevice.f
  refine (heldStringS s m (by omega) h0 (by omega)).bind (Ev.ifn (by omega) ((heldPutS p (m + s.length) (by omega) (by omega) (by omega)).bind (Ev.ifn (by omega) (Ev.now _))))

theorem eqPut_self (x : S117) : laws_eqPut.f x.f0 x.f1 x.f0 x.f1 = some true := by unfold laws_eqPut.f; simp
theorem eqPutS_go (x0 : List S117) (hl : x0.length ≤ 100000000) : ∀ (d i : Nat), i + d = x0.length → Ev (fun k => laws_eqPutS.l0 k x0 x0 (i : Int)) true
  | 0, i, hi => (Ev.now _).to fun k => by simp only [laws_eqPutS.l0]; rw [if_neg (by omega)]
  | d + 1, i, hi => by
    refine (eqPutS_go x0 hl d (i + 1) (by omega)).to fun k => ?_
    simp only [laws_eqPutS.l0]
    rw [if_pos (by omega), if_pos (by omega), if_pos (by omega), eqPut_self]
    simp only [Option.bind_some, if_true]
    rw [wid (by omega) (by omega)]
    rfl
theorem eqPutS (x0 : List S117) (hl : x0.length ≤ 100000000) : Ev (fun k => laws_eqPutS.f k x0 x0) true := by
  unfold laws_eqPutS.f
  exact Ev.ifp rfl (eqPutS_go x0 hl x0.length 0 (by omega))

theorem eqStringS_go (x0 : List ByteArray) (hl : x0.length ≤ 100000000) : ∀ (d i : Nat), i + d = x0.length → Ev (fun k => laws_eqStringS.l0 k x0 x0 (i : Int)) true
  | 0, i, hi => (Ev.now _).to fun k => by simp only [laws_eqStringS.l0]; rw [if_neg (by omega)]
  | d + 1, i, hi => by
    refine (eqStringS_go x0 hl d (i + 1) (by omega)).to fun k => ?_
    simp only [laws_eqStringS.l0, if_true]
    rw [if_pos (by omega), if_pos (by omega), if_pos (by omega), wid (by omega) (by omega)]
    rfl
theorem eqStringS (x0 : List ByteArray) (hl : x0.length ≤ 100000000) : Ev (fun k => laws_eqStringS.f k x0 x0) true := by
  unfold laws_eqStringS.f
  exact Ev.ifp rfl (eqStringS_go x0 hl x0.length 0 (by omega))

theorem eqDevice (s : List ByteArray) (p : List S117) (hs : s.length ≤ 100000000) (hp : p.length ≤ 100000000) : Ev (fun k => laws_eqDevice.f k s p s p) true := by
  unfold laws_eqDevice.f
  refine (eqStringS s hs).bind (Ev.ifp rfl ((eqPutS p hp).bind (Ev.ifp rfl (Ev.now _))))

theorem s_in (a b c : Int) : spec_l01In.f a b c = some (decide (b ≤ a ∧ a ≤ c)) := by
  unfold spec_l01In.f
  by_cases h : a ≥ b
  · rw [if_pos h]; simp [show b ≤ a from h]
  · rw [if_neg h]; simp [show ¬ b ≤ a from h]
theorem s_in_t {a b c : Int} (h : b ≤ a ∧ a ≤ c) : spec_l01In.f a b c = some true := by rw [s_in, decide_eq_true h]
theorem s_in_f {a b c : Int} (h : ¬ (b ≤ a ∧ a ≤ c)) : spec_l01In.f a b c = some false := by rw [s_in, decide_eq_false h]

theorem i_in (a b c : Int) : impl_in.f a b c = some (decide (b ≤ a ∧ a ≤ c)) := by
  unfold impl_in.f
  by_cases h : a ≥ b
  · rw [if_pos h]; simp [show b ≤ a from h]
  · rw [if_neg h]; simp [show ¬ b ≤ a from h]
theorem i_in_t {a b c : Int} (h : b ≤ a ∧ a ≤ c) : impl_in.f a b c = some true := by rw [i_in, decide_eq_true h]
theorem i_in_f {a b c : Int} (h : ¬ (b ≤ a ∧ a ≤ c)) : impl_in.f a b c = some false := by rw [i_in, decide_eq_false h]

def pDeviceNew (n : Int) : List ByteArray × List S117 × Bool := if 1 ≤ n ∧ n ≤ 400 then (List.replicate n.toNat (⟨#[]⟩ : ByteArray), [], true) else ([], [], false)
theorem sDeviceNew (n : Int) : spec_DeviceNew.f n = some (pDeviceNew n) := by
  unfold spec_DeviceNew.f pDeviceNew
  by_cases h : 1 ≤ n ∧ n ≤ 400
  · rw [s_in_t h, if_pos h]
    simp only [Option.bind_some, if_true]
    rw [if_pos (by omega), if_pos (by omega)]
  · rw [s_in_f h, if_neg h]
    simp only [Option.bind_some, Bool.false_eq_true, if_false]
theorem iDeviceNew (n : Int) : impl_DeviceNew.f n = some (pDeviceNew n) := by
  unfold impl_DeviceNew.f pDeviceNew
  by_cases h : 1 ≤ n ∧ n ≤ 400
  · rw [i_in_t h, if_pos h]
    simp only [Option.bind_some, if_true]
    rw [if_pos (by omega), if_pos (by omega)]
  · rw [i_in_f h, if_neg h]
    simp only [Option.bind_some, Bool.false_eq_true, if_false]
theorem FnExactDeviceNew : laws_FnExactDeviceNew.Pure := by
  intro n _
  refine Ev.rounds (g := fun k => laws_FnExactDeviceNew.f k n) ?_
  unfold laws_FnExactDeviceNew.f
  rw [sDeviceNew, iDeviceNew]
  simp only [Option.bind_some]
  obtain ⟨s, p, b, e, hs, hp⟩ : ∃ s p b, pDeviceNew n = (s, p, b) ∧ s.length ≤ 400 ∧ p.length ≤ 400 := by
    unfold pDeviceNew
    split
    · exact ⟨_, _, _, rfl, by rw [List.length_replicate]; omega, by simp⟩
    · exact ⟨_, _, _, rfl, by simp, by simp⟩
  rw [e]
  simp only [bne_rfl_bool]
  refine (eqDevice s p (by omega) (by omega)).bind (Ev.ifp rfl ?_)
  refine Ev.to (f := fun k => (laws_markDevice.f k s p 1).bind fun bt => (laws_heldDevice.f k bt.2.1 bt.2.2 1).bind fun t163 => if t163 < 0 then some false else if t163 = bt.1 then (impl_DeviceNew.f n).bind fun bt164 => (laws_eqDevice.f k bt164.1 bt164.2.1 s p).bind fun t172 => if t172 = true then laws_FnExactDeviceNew.j1 k bt.1 (bt164.2.2 != b) bt.2.1 bt.2.2 else laws_FnExactDeviceNew.j1 k bt.1 true bt.2.1 bt.2.2 else some false) (r := true) ?_ fun k => by simp only [laws_FnExactDeviceNew.j0]; rw [if_neg (by decide)]
  refine (markDevice s p 1 (by omega) (by omega) (by omega) (by omega)).bind ((heldDevice s p 1 (by omega) (by omega) (by omega) (by omega)).bind (Ev.ifn (by omega) (Ev.ifp rfl ?_)))
  rw [iDeviceNew, e]
  simp only [Option.bind_some, bne_rfl_bool]
  refine (eqDevice s p (by omega) (by omega)).bind (Ev.ifp rfl ?_)
  refine Ev.to (f := fun k => (laws_heldDevice.f k (mkS 1 s) (mkPut (1 + s.length) p) 1).bind fun t173 => if t173 < 0 then some false else if t173 = 1 + (s.length : Int) + 2 * p.length then some true else some false) (r := true) ?_ fun k => by simp only [laws_FnExactDeviceNew.j1]; rw [if_neg (by decide)]
  exact (heldDevice s p 1 (by omega) (by omega) (by omega) (by omega)).bind (Ev.ifn (by omega) (Ev.ifp rfl (Ev.now _)))

end Go.Proofs.Ytjhgcdjpabhifaa.Pure
