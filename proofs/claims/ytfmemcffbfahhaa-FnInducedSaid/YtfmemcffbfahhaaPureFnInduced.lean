/- The induced graph of a drawn right one is right, and has just the edges between its vertices, with their worths, whatever the bytes that are drawn from. -/
import Derived.Test.YtfmemcffbfahhaaQFnInducedx7
import Derived.Laws.BitsAllLaws
namespace Go.Proofs.Ytfmemcffbfahhaa.Pure
open Go.RowKit Go.Proofs.Ytfmemcffbfahhaa.QFnInduced Go.Proofs.YtfmemcffbfahhaaW.PrintWords Go.Proofs.YtfmemcffbfahhaaW.PrintLast
set_option linter.unusedVariables false
set_option linter.unusedSimpArgs false
set_option maxHeartbeats 4000000

theorem wid {n : Int} (h0 : -9223372036854775808 ≤ n) (h1 : n < 9223372036854775808) : wrap64 n = n := by unfold wrap64; omega
theorem _root_.Go.Proofs.YtfmemcffbfahhaaW.PrintWords.Ev.ofEq {α : Type} {g : Nat → Option α} {r q : α} (h : Ev g r) (e : r = q) : Ev g q := e ▸ h
theorem _root_.Go.Proofs.YtfmemcffbfahhaaW.PrintWords.Ev.same {α : Type} {o : Option α} {r : α} (h : o = some r) : Ev (fun _ => o) r := ⟨0, fun _ _ => h⟩
theorem _root_.Go.Proofs.YtfmemcffbfahhaaW.PrintWords.Ev.to {α : Type} {g f : Nat → Option α} {r : α} (k : Ev f r) (h : ∀ k, g (k + 1) = f k) : Ev g r := Ev.step h k
theorem _root_.Go.Proofs.YtfmemcffbfahhaaW.PrintWords.Ev.cg {α : Type} {g f : Nat → Option α} {r : α} (k : Ev f r) (h : ∀ k, g k = f k) : Ev g r := Ev.congr h k
theorem _root_.Go.Proofs.YtfmemcffbfahhaaW.PrintWords.Ev.ifp {α : Type} {c : Prop} [Decidable c] {g f : Nat → Option α} {r : α} (h : c) (e : Ev g r) : Ev (fun k => if c then g k else f k) r := by simp only [if_pos h]; exact e
theorem _root_.Go.Proofs.YtfmemcffbfahhaaW.PrintWords.Ev.ifn {α : Type} {c : Prop} [Decidable c] {g f : Nat → Option α} {r : α} (h : ¬ c) (e : Ev f r) : Ev (fun k => if c then g k else f k) r := by simp only [if_neg h]; exact e
/-- The bytes of a string, as numbers. -/
def bl (s : ByteArray) : List Int := s.data.toList.map fun b => (b.toNat : Int)
theorem bl_len (s : ByteArray) : (bl s).length = s.size := by unfold bl; rw [List.length_map]; rfl
def Byt (xs : List Int) : Prop := ∀ x ∈ xs, 0 ≤ x ∧ x < 256
theorem Byt.nil : Byt [] := fun _ h => by simp at h
theorem Byt.cons {x : Int} {xs : List Int} (h : 0 ≤ x ∧ x < 256) (h' : Byt xs) : Byt (x :: xs) := fun y hy => by
  rcases List.mem_cons.1 hy with rfl | hy
  · exact h
  · exact h' y hy
theorem Byt.app {xs ys : List Int} (h : Byt xs) (h' : Byt ys) : Byt (xs ++ ys) := fun y hy => by
  rcases List.mem_append.1 hy with hy | hy
  · exact h y hy
  · exact h' y hy
theorem Byt.left {xs ys : List Int} (h : Byt (xs ++ ys)) : Byt xs := fun y hy => h y (List.mem_append_left _ hy)
theorem Byt.right {xs ys : List Int} (h : Byt (xs ++ ys)) : Byt ys := fun y hy => h y (List.mem_append_right _ hy)
theorem Byt.tail {x : Int} {xs : List Int} (h : Byt (x :: xs)) : Byt xs := fun y hy => h y (List.mem_cons_of_mem _ hy)
theorem Byt.head {x : Int} {xs : List Int} (h : Byt (x :: xs)) : 0 ≤ x ∧ x < 256 := h x (List.mem_cons_self ..)
theorem Byt.drop {xs : List Int} (h : Byt xs) (n : Nat) : Byt (xs.drop n) := fun y hy => h y (List.mem_of_mem_drop hy)
theorem Byt.take {xs : List Int} (h : Byt xs) (n : Nat) : Byt (xs.take n) := fun y hy => h y (List.mem_of_mem_take hy)
theorem bl_byt (s : ByteArray) : Byt (bl s) := fun x hx => by
  obtain ⟨b, _, rfl⟩ := List.mem_map.1 hx
  have := b.toNat_lt
  omega
theorem u8_back (b : UInt8) : UInt8.ofNat ((b.toNat : Int)).toNat = b := by simp
theorem bl_str {xs : List Int} (h : Byt xs) : bl (strOfNums xs) = xs := by
  unfold bl
  rw [strOfNums_data, List.map_map]
  conv => rhs; rw [← List.map_id xs]
  apply List.map_congr_left
  intro x hx
  have := h x hx
  simp only [Function.comp, id]
  obtain ⟨n, rfl⟩ := Int.eq_ofNat_of_zero_le this.1
  simp
  omega
theorem str_bl (s : ByteArray) : strOfNums (bl s) = s := by
  unfold strOfNums bl
  rw [List.map_map]
  have : ((fun n : Int => UInt8.ofNat n.toNat) ∘ fun b : UInt8 => (b.toNat : Int)) = id := by
    funext b
    simp
  rw [this, List.map_id]
theorem bl_inj {a b : ByteArray} (h : bl a = bl b) : a = b := by rw [← str_bl a, ← str_bl b, h]
theorem bt_bl (s : ByteArray) (i : Int) : bt s i = (bl s).getD i.toNat 0 := by
  unfold bt
  split
  · rename_i h
    have hl : i.toNat < s.data.toList.length := h
    simp only [bl, List.getD_eq_getElem?_getD, List.getElem?_map, List.getElem?_eq_getElem hl, Option.map_some, Option.getD_some]
    rfl
  · rename_i h
    rw [List.getD_eq_getElem?_getD, List.getElem?_eq_none (by rw [bl_len]; omega)]
    rfl
theorem bl_app (a b : ByteArray) : bl (a ++ b) = bl a ++ bl b := by
  unfold bl
  rw [ByteArray.data_append, Array.toList_append, List.map_append]
theorem bl_ext (a : ByteArray) (i j : Nat) : bl (a.extract i j) = ((bl a).take j).drop i := by
  unfold bl
  rw [ByteArray.data_extract, Array.toList_extract, List.extract_eq_take_drop, List.map_take, List.map_drop, List.drop_take]
theorem bl_emp : bl (⟨#[]⟩ : ByteArray) = [] := rfl
theorem bl_cons {s : ByteArray} {i : Nat} (h : i < s.size) : (bl s).drop i = bt s (i : Int) :: (bl s).drop (i + 1) := by
  have hl : i < (bl s).length := by rw [bl_len]; exact h
  rw [List.drop_eq_getElem_cons hl, bt_bl, List.getD_eq_getElem?_getD, Int.toNat_natCast, List.getElem?_eq_getElem hl]
  rfl
theorem bl_end {s : ByteArray} {i : Nat} (h : s.size ≤ i) : (bl s).drop i = [] := List.drop_of_length_le (by rw [bl_len]; exact h)
theorem tl_inj {a b : ByteArray} : a.toList = b.toList ↔ a = b := by
  constructor
  · intro h
    rw [ByteArray.toList_eq, ByteArray.toList_eq] at h
    apply ByteArray.ext
    exact Array.toList_inj.1 h
  · rintro rfl; rfl
theorem tl_bl {a b : ByteArray} : a.toList = b.toList ↔ bl a = bl b := tl_inj.trans ⟨fun h => h ▸ rfl, bl_inj⟩
theorem tdiv_pos {a b : Int} (h : 0 ≤ a) : Int.tdiv a b = a / b := Int.tdiv_eq_ediv_of_nonneg h
theorem tmod_pos {a b : Int} (h : 0 ≤ a) : Int.tmod a b = a % b := Int.tmod_eq_emod_of_nonneg h
theorem bne_rfl_bool (b : Bool) : (b != b) = false := by cases b <;> rfl
theorem wf_u32 {n : Int} (h : (Lit.int .u32 n).wf = true) : 0 ≤ n ∧ n < 4294967296 := by
  have h1 : IntKind.u32.min = 0 := by decide +kernel
  have h2 : IntKind.u32.max = 4294967295 := by decide +kernel
  simp only [Lit.wf, h1, h2, Bool.and_eq_true, decide_eq_true_eq] at h
  omega
theorem wf_i64 {n : Int} (h : (Lit.int .i64 n).wf = true) : -9223372036854775808 ≤ n ∧ n < 9223372036854775808 := by
  have h1 : IntKind.i64.min = -9223372036854775808 := by decide +kernel
  have h2 : IntKind.i64.max = 9223372036854775807 := by decide +kernel
  simp only [Lit.wf, h1, h2, Bool.and_eq_true, decide_eq_true_eq] at h
  omega
theorem Byt.one {x : Int} (h : 0 ≤ x ∧ x < 256) : Byt [x] := Byt.nil.cons h
theorem bl_size (s : ByteArray) : s.size = (bl s).length := (bl_len s).symm
theorem str_len (xs : List Int) : (strOfNums xs).size = xs.length := strOfNums_size xs

/-! Draws: whatever the bytes, a number in its bounds -/
theorem and255 (y : Int) : 0 ≤ Go.bits .and .i64 y 255 ∧ Go.bits .and .i64 y 255 < 256 := by
  have h : (BitVec.ofInt 64 y &&& BitVec.ofInt 64 255).toNat ≤ 255 := by
    rw [BitVec.toNat_and]; exact Nat.le_trans Nat.and_le_right (by decide)
  have e : Go.bits .and .i64 y 255 = IntKind.i64.wrap ((BitVec.ofInt 64 y &&& BitVec.ofInt 64 255).toNat : Nat) := rfl
  rw [e, IntKind.wrap_i64]
  omega
theorem dByte (b : List Int) (i h : Int) (hb : b.length ≤ 140737488351232) (hi : 0 ≤ i) : ∃ x i' h', spec_l01Byte.f b i h = some (x, i', h') ∧ 0 ≤ x ∧ x < 256 ∧ 0 ≤ i' := by
  unfold spec_l01Byte.f
  by_cases h1 : i < (b.length : Int)
  · have w : wrap64 (i + 1) = i + 1 := wid (by omega) (by omega)
    rw [w]; clear w
    rw [if_pos h1, if_pos hi]
    exact ⟨_, _, _, rfl, (and255 _).1, (and255 _).2, by omega⟩
  · rw [if_neg h1]
    exact ⟨_, _, _, rfl, (and255 _).1, (and255 _).2, hi⟩
theorem dBelow (b : List Int) (i h n : Int) (hb : b.length ≤ 140737488351232) (hi : 0 ≤ i) (hn : 0 < n) : ∃ x i' h', spec_l01Below.f b i h n = some (x, i', h') ∧ 0 ≤ x ∧ x < n ∧ 0 ≤ i' := by
  unfold spec_l01Below.f
  rw [if_neg (by omega)]
  obtain ⟨x1, i1, h1, e1, p1, q1, r1⟩ := dByte b i h hb hi
  by_cases hs : n ≤ 256
  · rw [if_pos hs, e1]
    simp only [Option.bind_some]
    rw [if_neg (by omega), tmod_pos p1]
    exact ⟨_, _, _, rfl, Int.emod_nonneg _ (by omega), Int.emod_lt_of_pos _ hn, r1⟩
  · obtain ⟨x2, i2, h2, e2, p2, q2, r2⟩ := dByte b i1 h1 hb r1
    obtain ⟨x3, i3, h3, e3, p3, q3, r3⟩ := dByte b i2 h2 hb r2
    obtain ⟨x4, i4, h4, e4, p4, q4, r4⟩ := dByte b i3 h3 hb r3
    have w1 : wrap64 (x1 * 16777216) = x1 * 16777216 := wid (by omega) (by omega)
    have w2 : wrap64 (x2 * 65536) = x2 * 65536 := wid (by omega) (by omega)
    have w3 : wrap64 (x3 * 256) = x3 * 256 := wid (by omega) (by omega)
    have w4 : wrap64 (x1 * 16777216 + x2 * 65536) = x1 * 16777216 + x2 * 65536 := wid (by omega) (by omega)
    have w5 : wrap64 (x1 * 16777216 + x2 * 65536 + x3 * 256) = x1 * 16777216 + x2 * 65536 + x3 * 256 := wid (by omega) (by omega)
    have w6 : wrap64 (x1 * 16777216 + x2 * 65536 + x3 * 256 + x4) = x1 * 16777216 + x2 * 65536 + x3 * 256 + x4 := wid (by omega) (by omega)
    rw [if_neg hs, e1]
    simp only [Option.bind_some]
    rw [e2]
    simp only [Option.bind_some]
    rw [e3]
    simp only [Option.bind_some]
    rw [e4]
    simp only [Option.bind_some, w1, w2, w3, w4, w5, w6]
    clear w1 w2 w3 w4 w5 w6
    rw [if_neg (by omega), tmod_pos (by omega)]
    exact ⟨_, _, _, rfl, Int.emod_nonneg _ (by omega), Int.emod_lt_of_pos _ hn, r4⟩
theorem dNew_go (b : List Int) (hb : b.length ≤ 140737488351232) : ∀ (d i : Nat) (x : Int), i + d = b.length → ∃ h, Ev (fun k => spec_l01New.l0 k b x (i : Int)) (b, 0, h)
  | 0, i, x, hi => ⟨x, (Ev.now _).to fun k => by simp only [spec_l01New.l0]; rw [if_neg (by omega)]⟩
  | d + 1, i, x, hi => by
    by_cases h4 : (i : Int) < 4000
    · have w : wrap64 ((i : Int) + 1) = ((i + 1 : Nat) : Int) := by rw [wid (by omega) (by omega)]; rfl
      obtain ⟨h, e⟩ := dNew_go b hb d (i + 1) (Go.bits .and .i64 (wrap64 ((wrap64 ((wrap64 (x * 131)) + (wrap64 (rd b (i : Int))))) + 7)) 1073741823) (by omega)
      refine ⟨h, e.to fun k => ?_⟩
      simp only [spec_l01New.l0, w]
      clear w
      rw [if_pos (by omega), if_pos h4, if_pos (by omega)]
    · exact ⟨x, (Ev.now _).to fun k => by simp only [spec_l01New.l0]; rw [if_pos (by omega), if_neg h4]⟩
theorem dNew (b : List Int) (hb : b.length ≤ 140737488351232) : ∃ h, Ev (fun k => spec_l01New.f k b) (b, 0, h) := by
  unfold spec_l01New.f
  exact dNew_go b hb b.length 0 _ (by omega)

theorem set_take {α : Type} (xs : List α) {i : Nat} (v : α) (h : i < xs.length) : (xs.set i v).take (i + 1) = xs.take i ++ [v] := by
  rw [List.take_succ_eq_append_getElem (by rw [List.length_set]; exact h), List.getElem_set_self, List.take_set_of_le (Nat.le_refl _)]
theorem take_set_drop {α : Type} (xs : List α) {i : Nat} (v : α) (h : i < xs.length) : (xs.set i v).drop (i + 1) = xs.drop (i + 1) := by
  rw [List.drop_set_of_lt (by omega)]
theorem getD_at {α : Type} {xs : List α} {i : Nat} (z : α) (h : i < xs.length) : xs.getD ((i : Int)).toNat z = xs[i] := by
  rw [Int.toNat_natCast, List.getD_eq_getElem?_getD, List.getElem?_eq_getElem h]; rfl
theorem rdOf_at {α : Type} {xs : List α} {i : Nat} (z : α) (h : i < xs.length) : rdOf z xs (i : Int) = xs[i] := getD_at z h
theorem rd_at {xs : List Int} {i : Nat} (h : i < xs.length) : rd xs (i : Int) = xs[i] := getD_at 0 h
theorem toNat_len (n : Nat) : ((n : Int) : Int).toNat = n := Int.toNat_natCast n

theorem ri_Edge {xs : List S36} {i : Nat} (h : i < xs.length) : rd_T36 xs (i : Int) = xs[i] := getD_at _ h

/-! Right graphs -/
def edgeOk (n : Int) (e : S36) : Bool := decide (0 ≤ e.f0 ∧ e.f0 < e.f1 ∧ e.f1 < n ∧ (0 ≤ e.f2 ∧ e.f2 ≤ 50) ∧ (0 ≤ e.f3 ∧ e.f3 ≤ 50) ∧ (0 ≤ e.f4 ∧ e.f4 ≤ 50))
def edgeLt (p e : S36) : Bool := decide (p.f0 < e.f0 ∨ p.f0 = e.f0 ∧ p.f1 < e.f1)
def edgesOk (n : Int) : Option S36 → List S36 → Bool
  | _, [] => true
  | none, e :: l => edgeOk n e && edgesOk n (some e) l
  | some p, e :: l => edgeOk n e && (edgeLt p e && edgesOk n (some e) l)
def gok (n : Int) (l : List S36) : Bool := decide (0 ≤ n ∧ n ≤ 9) && edgesOk n none l
def prevE (l : List S36) : Nat → Option S36
  | 0 => none
  | i + 1 => l[i]?
theorem prevE_succ {l : List S36} {i : Nat} (h : i < l.length) : prevE l (i + 1) = some l[i] := List.getElem?_eq_getElem h

def isE (a b : Int) (e : S36) : Prop := e.f0 = a ∧ e.f1 = b ∨ e.f0 = b ∧ e.f1 = a
instance (a b : Int) (e : S36) : Decidable (isE a b e) := inferInstanceAs (Decidable (_ ∨ _))
def atE (a b : Int) : Nat → List S36 → Int
  | _, [] => -1
  | i, e :: l => if isE a b e then (i : Int) else atE a b (i + 1) l

theorem edgesOk_all (n : Int) : ∀ (l : List S36) (p : Option S36), edgesOk n p l = true → ∀ e ∈ l, edgeOk n e = true
  | [], _, _, e, h => by simp at h
  | x :: l, p, h, e, he => by
    have hx : edgeOk n x = true ∧ edgesOk n (some x) l = true := by
      cases p <;> simp only [edgesOk, Bool.and_eq_true] at h
      · exact h
      · exact ⟨h.1, h.2.2⟩
    rcases List.mem_cons.1 he with rfl | he
    · exact hx.1
    · exact edgesOk_all n l _ hx.2 e he
theorem gok_n {n : Int} {l : List S36} (h : gok n l = true) : 0 ≤ n ∧ n ≤ 9 := by
  unfold gok at h
  rw [Bool.and_eq_true, decide_eq_true_eq] at h
  exact h.1
theorem gok_all {n : Int} {l : List S36} (h : gok n l = true) : ∀ e ∈ l, 0 ≤ e.f0 ∧ e.f0 < e.f1 ∧ e.f1 < n ∧ (0 ≤ e.f2 ∧ e.f2 ≤ 50) ∧ (0 ≤ e.f3 ∧ e.f3 ≤ 50) ∧ (0 ≤ e.f4 ∧ e.f4 ≤ 50) := by
  unfold gok at h
  rw [Bool.and_eq_true] at h
  intro e he
  have := edgesOk_all n l none h.2 e he
  unfold edgeOk at this
  rwa [decide_eq_true_eq] at this
theorem atE_some (a b : Int) : ∀ (l : List S36) (i : Nat), 0 ≤ atE a b i l → ∃ (h : ((atE a b i l).toNat - i) < l.length), (i : Int) ≤ atE a b i l ∧ isE a b l[(atE a b i l).toNat - i]
  | [], i, h => by simp [atE] at h
  | e :: l, i, h => by
    unfold atE at h ⊢
    by_cases hc : isE a b e
    · simp only [if_pos hc]
      have e0 : ((i : Int)).toNat - i = 0 := by omega
      refine ⟨by rw [e0]; simp, by omega, ?_⟩
      simp only [e0, List.getElem_cons_zero]
      exact hc
    · simp only [if_neg hc] at h ⊢
      obtain ⟨h1, h2, h3⟩ := atE_some a b l (i + 1) h
      have e1 : (atE a b (i + 1) l).toNat - i = ((atE a b (i + 1) l).toNat - (i + 1)) + 1 := by omega
      refine ⟨by rw [e1]; simp; exact h1, by omega, ?_⟩
      simp only [e1, List.getElem_cons_succ]
      exact h3
theorem atE_mem {a b : Int} {l : List S36} (h : 0 ≤ atE a b 0 l) : ∃ e ∈ l, isE a b e := by
  obtain ⟨h1, _, h3⟩ := atE_some a b l 0 h
  exact ⟨_, List.getElem_mem h1, h3⟩

/-! Induced graphs: both ways give the same edges -/
theorem sorted_ext {α : Type} {lt : α → α → Prop} (irr : ∀ a, ¬ lt a a) (asy : ∀ a b, lt a b → ¬ lt b a) : ∀ (l m : List α), l.Pairwise lt → m.Pairwise lt → (∀ x, x ∈ l ↔ x ∈ m) → l = m
  | [], [], _, _, _ => rfl
  | [], b :: m, _, _, h => absurd ((h b).2 (List.mem_cons_self ..)) (by simp)
  | a :: l, [], _, _, h => absurd ((h a).1 (List.mem_cons_self ..)) (by simp)
  | a :: l, b :: m, hl, hm, h => by
    rw [List.pairwise_cons] at hl hm
    have e : a = b := by
      rcases List.mem_cons.1 ((h a).1 (List.mem_cons_self ..)) with e | ha
      · exact e
      · rcases List.mem_cons.1 ((h b).2 (List.mem_cons_self ..)) with e | hb
        · exact e.symm
        · exact absurd (hl.1 b hb) (asy _ _ (hm.1 a ha))
    subst e
    congr 1
    refine sorted_ext irr asy l m hl.2 hm.2 (fun x => ⟨fun hx => ?_, fun hx => ?_⟩)
    · rcases List.mem_cons.1 ((h x).1 (List.mem_cons_of_mem _ hx)) with e | hx'
      · subst e; exact absurd (hl.1 _ hx) (irr _)
      · exact hx'
    · rcases List.mem_cons.1 ((h x).2 (List.mem_cons_of_mem _ hx)) with e | hx'
      · subst e; exact absurd (hm.1 _ hx) (irr _)
      · exact hx'
theorem ex_cons {α : Type} {p : α → Prop} {x : α} {l : List α} : (∃ e ∈ x :: l, p e) ↔ p x ∨ ∃ e ∈ l, p e :=
  ⟨fun ⟨e, he, hp⟩ => (List.mem_cons.1 he).elim (fun h => .inl (h ▸ hp)) (fun h => .inr ⟨e, h, hp⟩), fun h => h.elim (fun h => ⟨x, List.mem_cons_self .., h⟩) (fun ⟨e, he, hp⟩ => ⟨e, List.mem_cons_of_mem _ he, hp⟩)⟩
def ltE (a b : S36) : Prop := a.f0 < b.f0 ∨ (a.f0 = b.f0 ∧ a.f1 < b.f1)
theorem ltE_irr (a : S36) : ¬ ltE a a := by unfold ltE; omega
theorem ltE_asy (a b : S36) : ltE a b → ¬ ltE b a := by unfold ltE; omega
theorem ltE_tr {a b c : S36} : ltE a b → ltE b c → ltE a c := by unfold ltE; omega
theorem pw_uniq {l : List S36} (h : l.Pairwise ltE) {a b : S36} (ha : a ∈ l) (hb : b ∈ l) (h0 : a.f0 = b.f0) (h1 : a.f1 = b.f1) : a = b := by
  obtain ⟨i, hi, rfl⟩ := List.getElem_of_mem ha
  obtain ⟨j, hj, rfl⟩ := List.getElem_of_mem hb
  rw [List.pairwise_iff_getElem] at h
  rcases Nat.lt_trichotomy i j with hij | rfl | hij
  · have := h i j hi hj hij; unfold ltE at this; omega
  · rfl
  · have := h j i hj hi hij; unfold ltE at this; omega
def plF (x : Int) : List Int → Nat → Int
  | [], _ => -1
  | y :: l, i => if y = x then (i : Int) else plF x l (i + 1)
theorem plF_spec (x : Int) : ∀ (l : List Int) (i : Nat), 0 ≤ plF x l i → ∃ (j : Nat) (h : j < l.length), plF x l i = ((i + j : Nat) : Int) ∧ l[j] = x
  | [], i, h => by simp [plF] at h
  | y :: l, i, h => by
    unfold plF at h ⊢
    by_cases hc : y = x
    · exact ⟨0, by simp, by rw [if_pos hc]; rfl, hc⟩
    · rw [if_neg hc] at h ⊢
      obtain ⟨j, hj, e, e'⟩ := plF_spec x l (i + 1) h
      exact ⟨j + 1, by simp; exact hj, by rw [e]; congr 1; omega, by simpa using e'⟩
theorem plF_at : ∀ (l : List Int), l.Pairwise (· < ·) → ∀ (j : Nat) (h : j < l.length) (i : Nat), plF l[j] l i = ((i + j : Nat) : Int)
  | [], _, j, h, i => by simp at h
  | y :: l, hp, 0, h, i => by simp [plF]
  | y :: l, hp, j + 1, h, i => by
    rw [List.pairwise_cons] at hp
    have hj : j < l.length := by simpa using h
    have := hp.1 l[j] (List.getElem_mem hj)
    simp only [List.getElem_cons_succ, plF]
    rw [if_neg (by omega), plF_at l hp.2 j hj (i + 1)]
    congr 1; omega
theorem plF_lt {v : List Int} (hv : v.Pairwise (· < ·)) {a b : Int} (ha : 0 ≤ plF a v 0) (hb : 0 ≤ plF b v 0) (h : a < b) : plF a v 0 < plF b v 0 := by
  obtain ⟨i, hi, e, rfl⟩ := plF_spec a v 0 ha
  obtain ⟨j, hj, e', rfl⟩ := plF_spec b v 0 hb
  rw [e, e']
  rw [List.pairwise_iff_getElem] at hv
  rcases Nat.lt_trichotomy i j with hij | rfl | hij
  · omega
  · omega
  · have := hv j i hj hi hij; omega
def specI (v : List Int) : List S36 → List S36
  | [] => []
  | e :: l => if 0 ≤ plF e.f0 v 0 then (if 0 ≤ plF e.f1 v 0 then ⟨plF e.f0 v 0, plF e.f1 v 0, e.f2, e.f3, e.f4⟩ :: specI v l else specI v l) else specI v l
theorem mem_specI (v : List Int) (z : S36) : ∀ l : List S36, z ∈ specI v l ↔ ∃ e ∈ l, 0 ≤ plF e.f0 v 0 ∧ 0 ≤ plF e.f1 v 0 ∧ z = ⟨plF e.f0 v 0, plF e.f1 v 0, e.f2, e.f3, e.f4⟩
  | [] => by simp [specI]
  | e :: l => by
    have ih := mem_specI v z l
    unfold specI
    by_cases h0 : 0 ≤ plF e.f0 v 0
    · by_cases h1 : 0 ≤ plF e.f1 v 0
      · rw [if_pos h0, if_pos h1, List.mem_cons, ih, ex_cons]
        exact ⟨fun h => h.elim (fun h => .inl ⟨h0, h1, h⟩) .inr, fun h => h.elim (fun h => .inl h.2.2) .inr⟩
      · rw [if_pos h0, if_neg h1, ih, ex_cons]
        exact ⟨.inr, fun h => h.elim (fun h => absurd h.2.1 h1) id⟩
    · rw [if_neg h0, ih, ex_cons]
      exact ⟨.inr, fun h => h.elim (fun h => absurd h.1 h0) id⟩
theorem specI_pw {v : List Int} (hv : v.Pairwise (· < ·)) : ∀ l : List S36, l.Pairwise ltE → (specI v l).Pairwise ltE
  | [], _ => by simp [specI]
  | e :: l, h => by
    rw [List.pairwise_cons] at h
    have ih := specI_pw hv l h.2
    unfold specI
    by_cases h0 : 0 ≤ plF e.f0 v 0
    · by_cases h1 : 0 ≤ plF e.f1 v 0
      · rw [if_pos h0, if_pos h1, List.pairwise_cons]
        refine ⟨fun z hz => ?_, ih⟩
        obtain ⟨d, hd, g0, g1, rfl⟩ := (mem_specI v z l).1 hz
        rcases h.1 d hd with hlt | ⟨heq, hlt⟩
        · exact .inl (plF_lt hv h0 g0 hlt)
        · exact .inr ⟨by simp only [heq], plF_lt hv h1 g1 hlt⟩
      · rw [if_pos h0, if_neg h1]; exact ih
    · rw [if_neg h0]; exact ih
def mkI_ (E : List S36) (i j x y : Int) : S36 := ⟨i, j, (rd_T36 E (atE x y 0 E)).f2, (rd_T36 E (atE x y 0 E)).f3, (rd_T36 E (atE x y 0 E)).f4⟩
def rowI (E : List S36) (i x : Int) : List Int → Nat → List S36
  | [], _ => []
  | y :: l, j => if 0 ≤ atE x y 0 E then mkI_ E i (j : Int) x y :: rowI E i x l (j + 1) else rowI E i x l (j + 1)
def implI (E : List S36) : List Int → Nat → List S36
  | [], _ => []
  | x :: l, i => rowI E (i : Int) x l (i + 1) ++ implI E l (i + 1)
theorem mem_rowI (E : List S36) (i x : Int) (z : S36) : ∀ (l : List Int) (j : Nat), z ∈ rowI E i x l j ↔ ∃ (b : Nat) (h : b < l.length), 0 ≤ atE x l[b] 0 E ∧ z = mkI_ E i ((j + b : Nat) : Int) x l[b]
  | [], j => by simp [rowI]
  | y :: l, j => by
    have ih := mem_rowI E i x z l (j + 1)
    unfold rowI
    have step : (∃ (b : Nat) (h : b < (y :: l).length), 0 ≤ atE x (y :: l)[b] 0 E ∧ z = mkI_ E i ((j + b : Nat) : Int) x (y :: l)[b]) ↔ ((0 ≤ atE x y 0 E ∧ z = mkI_ E i (j : Int) x y) ∨ ∃ (b : Nat) (h : b < l.length), 0 ≤ atE x l[b] 0 E ∧ z = mkI_ E i ((j + 1 + b : Nat) : Int) x l[b]) := by
      constructor
      · rintro ⟨b, h, h0, h1⟩
        rcases b with _ | b
        · exact .inl ⟨h0, h1⟩
        · exact .inr ⟨b, by simpa using h, h0, by rw [h1, show j + (b + 1) = j + 1 + b by omega]; rfl⟩
      · rintro (⟨h0, h1⟩ | ⟨b, h, h0, h1⟩)
        · exact ⟨0, by simp, h0, h1⟩
        · exact ⟨b + 1, by simpa using h, h0, by rw [h1, show j + (b + 1) = j + 1 + b by omega]; rfl⟩
    rw [step]
    by_cases h0 : 0 ≤ atE x y 0 E
    · rw [if_pos h0, List.mem_cons, ih]
      exact ⟨fun h => h.elim (fun h => .inl ⟨h0, h⟩) .inr, fun h => h.elim (fun h => .inl h.2) .inr⟩
    · rw [if_neg h0, ih]
      exact ⟨.inr, fun h => h.elim (fun h => absurd h.1 h0) id⟩
theorem rowI_pw (E : List S36) (i x : Int) : ∀ (l : List Int) (j : Nat), (rowI E i x l j).Pairwise ltE
  | [], j => by simp [rowI]
  | y :: l, j => by
    have ih := rowI_pw E i x l (j + 1)
    unfold rowI
    by_cases h0 : 0 ≤ atE x y 0 E
    · rw [if_pos h0, List.pairwise_cons]
      refine ⟨fun z hz => ?_, ih⟩
      obtain ⟨b, hb, _, rfl⟩ := (mem_rowI E i x z l (j + 1)).1 hz
      exact .inr ⟨rfl, by show (j : Int) < ((j + 1 + b : Nat) : Int); omega⟩
    · rw [if_neg h0]; exact ih
theorem mem_implI (E : List S36) (z : S36) : ∀ (l : List Int) (i : Nat), z ∈ implI E l i ↔ ∃ (a b : Nat) (ha : a < l.length) (hb : b < l.length), a < b ∧ 0 ≤ atE l[a] l[b] 0 E ∧ z = mkI_ E ((i + a : Nat) : Int) ((i + b : Nat) : Int) l[a] l[b]
  | [], i => by simp [implI]
  | x :: l, i => by
    have ih := mem_implI E z l (i + 1)
    unfold implI
    rw [List.mem_append, ih, mem_rowI]
    constructor
    · rintro (⟨b, hb, h0, h1⟩ | ⟨a, b, ha, hb, hab, h0, h1⟩)
      · exact ⟨0, b + 1, by simp, by simpa using hb, by omega, h0, by rw [h1, show i + (b + 1) = i + 1 + b by omega]; rfl⟩
      · exact ⟨a + 1, b + 1, by simpa using ha, by simpa using hb, by omega, h0, by rw [h1, show i + (b + 1) = i + 1 + b by omega, show i + (a + 1) = i + 1 + a by omega]; rfl⟩
    · rintro ⟨a, b, ha, hb, hab, h0, h1⟩
      rcases b with _ | b
      · omega
      · rcases a with _ | a
        · exact .inl ⟨b, by simpa using hb, h0, by rw [h1, show i + (b + 1) = i + 1 + b by omega]; rfl⟩
        · exact .inr ⟨a, b, by simpa using ha, by simpa using hb, by omega, h0, by rw [h1, show i + (b + 1) = i + 1 + b by omega, show i + (a + 1) = i + 1 + a by omega]; rfl⟩
theorem implI_pw (E : List S36) : ∀ (l : List Int) (i : Nat), (implI E l i).Pairwise ltE
  | [], i => by simp [implI]
  | x :: l, i => by
    unfold implI
    rw [List.pairwise_append]
    refine ⟨rowI_pw E _ x l _, implI_pw E l (i + 1), fun y hy z hz => ?_⟩
    obtain ⟨b, hb, _, rfl⟩ := (mem_rowI E _ x y l (i + 1)).1 hy
    obtain ⟨c, d, hc, hd, _, _, rfl⟩ := (mem_implI E z l (i + 1)).1 hz
    exact .inl (by show (i : Int) < ((i + 1 + c : Nat) : Int); omega)
theorem atE_ex {a b : Int} : ∀ (l : List S36) (i : Nat), (∃ e ∈ l, isE a b e) → 0 ≤ atE a b i l
  | [], i, h => by obtain ⟨e, he, _⟩ := h; simp at he
  | e :: l, i, h => by
    unfold atE
    by_cases hc : isE a b e
    · simp only [if_pos hc]; omega
    · simp only [if_neg hc]
      refine atE_ex l (i + 1) ?_
      obtain ⟨d, hd, hi⟩ := h
      rcases List.mem_cons.1 hd with rfl | hd
      · exact absurd hi hc
      · exact ⟨d, hd, hi⟩
theorem atE_get {a b : Int} {l : List S36} (h : 0 ≤ atE a b 0 l) : rd_T36 l (atE a b 0 l) ∈ l ∧ isE a b (rd_T36 l (atE a b 0 l)) := by
  obtain ⟨h1, h2, h3⟩ := atE_some a b l 0 h
  have h1' : (atE a b 0 l).toNat < l.length := by simpa using h1
  have e : rd_T36 l (atE a b 0 l) = l[(atE a b 0 l).toNat] := by
    have := ri_Edge h1'
    rwa [Int.toNat_of_nonneg h] at this
  rw [e]
  exact ⟨List.getElem_mem h1', by simpa using h3⟩
theorem ind_eq {E : List S36} {v : List Int} (hE : E.Pairwise ltE) (hlt : ∀ e ∈ E, e.f0 < e.f1) (hv : v.Pairwise (· < ·)) : specI v E = implI E v 0 := by
  refine sorted_ext ltE_irr ltE_asy _ _ (specI_pw hv E hE) (implI_pw E v 0) (fun z => ?_)
  rw [mem_specI, mem_implI]
  have hv' := List.pairwise_iff_getElem.1 hv
  constructor
  · rintro ⟨e, he, h0, h1, rfl⟩
    obtain ⟨a, ha, ea, ea'⟩ := plF_spec e.f0 v 0 h0
    obtain ⟨b, hb, eb, eb'⟩ := plF_spec e.f1 v 0 h1
    have hl := hlt e he
    have hab : a < b := by
      have := plF_lt hv h0 h1 hl
      omega
    have hx : isE v[a] v[b] e := .inl ⟨ea'.symm, eb'.symm⟩
    have hat := atE_ex (a := v[a]) (b := v[b]) E 0 ⟨e, he, hx⟩
    refine ⟨a, b, ha, hb, hab, hat, ?_⟩
    obtain ⟨hm, hi⟩ := atE_get hat
    have : rd_T36 E (atE v[a] v[b] 0 E) = e := by
      have hl' := hlt _ hm
      refine pw_uniq hE hm he ?_ ?_ <;> rcases hi with ⟨i0, i1⟩ | ⟨i0, i1⟩ <;> omega
    unfold mkI_
    rw [this, ea, eb]
  · rintro ⟨a, b, ha, hb, hab, hat, rfl⟩
    obtain ⟨hm, hi⟩ := atE_get hat
    have hl := hlt _ hm
    have hv2 := hv' a b ha hb hab
    have e0 : (rd_T36 E (atE v[a] v[b] 0 E)).f0 = v[a] := by rcases hi with ⟨i0, i1⟩ | ⟨i0, i1⟩ <;> omega
    have e1 : (rd_T36 E (atE v[a] v[b] 0 E)).f1 = v[b] := by rcases hi with ⟨i0, i1⟩ | ⟨i0, i1⟩ <;> omega
    have p0 := plF_at v hv a ha 0
    have p1 := plF_at v hv b hb 0
    refine ⟨_, hm, ?_, ?_, ?_⟩
    · rw [e0, p0]; omega
    · rw [e1, p1]; omega
    · unfold mkI_
      rw [e0, e1, p0, p1]

def prevLtI : Option Int → Int → Bool
  | none, _ => true
  | some p, x => decide (p < x)
def vFrom (n : Int) : Option Int → List Int → Bool
  | _, [] => true
  | p, x :: l => decide (0 ≤ x ∧ x ≤ n - 1) && (prevLtI p x && vFrom n (some x) l)
def prevI (l : List Int) : Nat → Option Int
  | 0 => none
  | i + 1 => l[i]?
theorem prevI_succ {l : List Int} {i : Nat} (h : i < l.length) : prevI l (i + 1) = some l[i] := List.getElem?_eq_getElem h
theorem vFrom_pw (n : Int) : ∀ (l : List Int) (p : Option Int), vFrom n p l = true → (∀ q, p = some q → ∀ x ∈ l, q < x) ∧ l.Pairwise (· < ·)
  | [], p, _ => ⟨fun _ _ x hx => by simp at hx, by simp⟩
  | y :: l, p, h => by
    simp only [vFrom, Bool.and_eq_true] at h
    obtain ⟨_, h1, h2⟩ := h
    obtain ⟨i0, i1⟩ := vFrom_pw n l (some y) h2
    have hy := i0 y rfl
    refine ⟨fun q hq x hx => ?_, List.pairwise_cons.2 ⟨hy, i1⟩⟩
    subst hq
    simp only [prevLtI, decide_eq_true_eq] at h1
    rcases List.mem_cons.1 hx with rfl | hx
    · exact h1
    · exact Int.lt_trans h1 (hy x hx)
theorem edgesOk_pw (n : Int) : ∀ (l : List S36) (p : Option S36), edgesOk n p l = true → (∀ q, p = some q → ∀ x ∈ l, ltE q x) ∧ l.Pairwise ltE
  | [], p, _ => ⟨fun _ _ x hx => by simp at hx, by simp⟩
  | y :: l, p, h => by
    have h2 : edgesOk n (some y) l = true := by
      cases p <;> simp only [edgesOk, Bool.and_eq_true] at h
      · exact h.2
      · exact h.2.2
    obtain ⟨i0, i1⟩ := edgesOk_pw n l (some y) h2
    have hy := i0 y rfl
    refine ⟨fun q hq x hx => ?_, List.pairwise_cons.2 ⟨hy, i1⟩⟩
    subst hq
    simp only [edgesOk, edgeLt, Bool.and_eq_true, decide_eq_true_eq] at h
    have h1 : ltE q y := h.2.1
    rcases List.mem_cons.1 hx with rfl | hx
    · exact h1
    · exact ltE_tr h1 (hy x hx)
def indOf (n : Int) (E : List S36) (v : List Int) : Int × List S36 × Bool :=
  if (gok n E && vFrom n none v) = true then ((v.length : Int), specI v E, true) else (0, [], false)
theorem indOf_impl {n : Int} {E : List S36} {v : List Int} (h : (gok n E && vFrom n none v) = true) : specI v E = implI E v 0 := by
  rw [Bool.and_eq_true] at h
  have hg := h.1
  unfold gok at hg
  rw [Bool.and_eq_true] at hg
  exact ind_eq (edgesOk_pw n E none hg.2).2 (fun e he => (gok_all h.1 e he).2.1) (vFrom_pw n v none h.2).2
theorem specI_len (v : List Int) : ∀ l : List S36, (specI v l).length ≤ l.length
  | [] => by simp [specI]
  | e :: l => by
    have ih := specI_len v l
    unfold specI
    by_cases h0 : 0 ≤ plF e.f0 v 0
    · by_cases h1 : 0 ≤ plF e.f1 v 0
      · rw [if_pos h0, if_pos h1]; simp only [List.length_cons]; omega
      · rw [if_pos h0, if_neg h1]; simp only [List.length_cons]; omega
    · rw [if_neg h0]; simp only [List.length_cons]; omega
theorem indOf_len (n : Int) (E : List S36) (v : List Int) (hE : E.length ≤ 1048576) : (indOf n E v).2.1.length ≤ 1048576 := by
  unfold indOf
  by_cases h : (gok n E && vFrom n none v) = true
  · rw [if_pos h]; have := specI_len v E; show (specI v E).length ≤ _; omega
  · rw [if_neg h]; simp
theorem rowI_len (E : List S36) (i x : Int) : ∀ (l : List Int) (j : Nat), (rowI E i x l j).length ≤ l.length
  | [], j => by simp [rowI]
  | y :: l, j => by
    have := rowI_len E i x l (j + 1)
    unfold rowI
    by_cases h0 : 0 ≤ atE x y 0 E
    · rw [if_pos h0]; simp only [List.length_cons]; omega
    · rw [if_neg h0]; simp only [List.length_cons]; omega

theorem edgesOk_of (n : Int) : ∀ (l : List S36) (p : Option S36), l.Pairwise ltE → (∀ e ∈ l, edgeOk n e = true) → (∀ q, p = some q → ∀ x ∈ l, ltE q x) → edgesOk n p l = true
  | [], p, _, _, _ => by cases p <;> rfl
  | y :: l, p, hp, ho, hq => by
    rw [List.pairwise_cons] at hp
    have ih := edgesOk_of n l (some y) hp.2 (fun e he => ho e (List.mem_cons_of_mem _ he)) (fun q hq' x hx => by injection hq' with hq'; subst hq'; exact hp.1 x hx)
    have hy := ho y (List.mem_cons_self ..)
    cases p with
    | none => simp only [edgesOk, hy, ih, Bool.and_self]
    | some q =>
      have : edgeLt q y = true := by unfold edgeLt; rw [decide_eq_true_eq]; exact hq q rfl y (List.mem_cons_self ..)
      simp only [edgesOk, hy, ih, this, Bool.and_self]
/-- The edges so far: in order, each right, each ahead of the pair (a, b). -/
def GI (n a b : Int) (E : List S36) : Prop := E.Pairwise ltE ∧ (∀ e ∈ E, edgeOk n e = true) ∧ (∀ e ∈ E, e.f0 < a ∨ (e.f0 = a ∧ e.f1 < b))
theorem GI.next {n a b b' : Int} {E : List S36} (h : GI n a b E) (hb : b ≤ b') : GI n a b' E := ⟨h.1, h.2.1, fun e he => by have := h.2.2 e he; omega⟩
theorem GI.row {n a b b' : Int} {E : List S36} (h : GI n a b E) : GI n (a + 1) b' E := ⟨h.1, h.2.1, fun e he => by have := h.2.2 e he; omega⟩
theorem GI.snoc {n a b : Int} {E : List S36} (h : GI n a b E) {x y z : Int} (ha : 0 ≤ a) (hab : a < b) (hb : b < n) (hx : 0 ≤ x ∧ x ≤ 50) (hy : 0 ≤ y ∧ y ≤ 50) (hz : 0 ≤ z ∧ z ≤ 50) : GI n a (b + 1) (E ++ [⟨a, b, x, y, z⟩]) := by
  refine ⟨?_, fun e he => ?_, fun e he => ?_⟩
  · rw [List.pairwise_append]
    refine ⟨h.1, by simp, fun u hu v hv => ?_⟩
    rw [List.mem_singleton.1 hv]
    exact h.2.2 u hu
  · rcases List.mem_append.1 he with he | he
    · exact h.2.1 e he
    · rw [List.mem_singleton.1 he]
      unfold edgeOk
      rw [decide_eq_true_eq]
      exact ⟨ha, hab, hb, hx, hy, hz⟩
  · rcases List.mem_append.1 he with he | he
    · have := h.2.2 e he; omega
    · rw [List.mem_singleton.1 he]; exact .inr ⟨rfl, by show b < b + 1; omega⟩
theorem dGr_j2 (b : List Int) (hb : b.length ≤ 140737488351232) (n dn most a c : Int) (hm : most = 2 ∨ most = 4 ∨ most = 51) (ha : 0 ≤ a) (hac : a < c) (hcn : c < n) (hn : n ≤ 9) (fl : Bool) (E : List S36) (i h : Int) (hi : 0 ≤ i) (hE : GI n a c E) (hl : E.length ≤ 1000000) (R : Int → Int → List S36 → Prop)
    (hc : ∀ E' i' h', GI n a (c + 1) E' → E'.length ≤ E.length + 1 → 0 ≤ i' → ∃ r, Ev (fun k => spec_l08Graph.l1 k dn most a (c + 1) b i' h' n E') r ∧ R r.1 r.2.2.1 r.2.1) : ∃ r, Ev (fun k => spec_l08Graph.j2 k dn most a c fl b i h n E) r ∧ R r.1 r.2.2.1 r.2.1 := by
  have w : wrap64 (c + 1) = c + 1 := wid (by omega) (by omega)
  cases fl with
  | false =>
    obtain ⟨r, ev, hr⟩ := hc E i h (hE.next (by omega)) (by omega) hi
    exact ⟨r, ev.to fun k => by simp only [spec_l08Graph.j2, w, Bool.false_eq_true, if_false], hr⟩
  | true =>
    obtain ⟨x1, i1, h1, e1, p1, q1, r1⟩ := dBelow b i h most hb hi (by omega)
    obtain ⟨x2, i2, h2, e2, p2, q2, r2⟩ := dBelow b i1 h1 most hb r1 (by omega)
    obtain ⟨x3, i3, h3, e3, p3, q3, r3⟩ := dBelow b i2 h2 most hb r2 (by omega)
    by_cases c4 : most = 4
    · obtain ⟨r, ev, hr⟩ := hc (E ++ [⟨a, c, x1, 0, 0⟩]) i3 h3 (hE.snoc ha hac hcn (by omega) (by omega) (by omega)) (by rw [List.length_append]; simp) r3
      refine ⟨r, ev.to fun k => ?_, hr⟩
      simp only [spec_l08Graph.j2, w, e1, e2, e3, if_true, Option.bind_some]
      clear w
      rw [if_pos c4, if_pos (by omega)]
    · obtain ⟨r, ev, hr⟩ := hc (E ++ [⟨a, c, x1, x2, x3⟩]) i3 h3 (hE.snoc ha hac hcn (by omega) (by omega) (by omega)) (by rw [List.length_append]; simp) r3
      refine ⟨r, ev.to fun k => ?_, hr⟩
      simp only [spec_l08Graph.j2, w, e1, e2, e3, if_true, Option.bind_some]
      clear w
      rw [if_neg c4, if_pos (by omega)]
theorem dGr_l1 (b : List Int) (hb : b.length ≤ 140737488351232) (n dn most a : Int) (hm : most = 2 ∨ most = 4 ∨ most = 51) (hdn : 1 ≤ dn ∧ dn ≤ 3) (ha : 0 ≤ a) (han : a < n) (hn : n ≤ 9) (R : Int → Int → List S36 → Prop) (lim : Nat) (hlim : lim ≤ 1000)
    (hc : ∀ E' i' h', GI n (a + 1) 0 E' → E'.length ≤ lim → 0 ≤ i' → ∃ r, Ev (fun k => spec_l08Graph.l0 k dn most (a + 1) b i' h' n E') r ∧ R r.1 r.2.2.1 r.2.1) : ∀ (d : Nat) (c : Int) (E : List S36) (i h : Int), a < c → c + d = n → 0 ≤ i → GI n a c E → E.length + d ≤ lim → ∃ r, Ev (fun k => spec_l08Graph.l1 k dn most a c b i h n E) r ∧ R r.1 r.2.2.1 r.2.1
  | 0, c, E, i, h, hac, hcn, hi, hE, hl => by
    have w : wrap64 (a + 1) = a + 1 := wid (by omega) (by omega)
    obtain ⟨r, ev, hr⟩ := hc E i h hE.row (by omega) hi
    refine ⟨r, ev.to fun k => ?_, hr⟩
    simp only [spec_l08Graph.l1, w]
    clear w
    rw [if_neg (by omega)]
  | d + 1, c, E, i, h, hac, hcn, hi, hE, hl => by
    have w : wrap64 (dn + 1) = dn + 1 := wid (by omega) (by omega)
    obtain ⟨x1, i1, h1, e1, p1, q1, r1⟩ := dBelow b i h (dn + 1) hb hi (by omega)
    have ih := fun E' i' h' (g : GI n a (c + 1) E') (hl' : E'.length ≤ E.length + 1) (hi' : 0 ≤ i') => dGr_l1 b hb n dn most a hm hdn ha han hn R lim hlim hc d (c + 1) E' i' h' (by omega) (by omega) hi' g (by omega)
    by_cases cx : x1 = 0
    · obtain ⟨r, ev, hr⟩ := dGr_j2 b hb n dn most a c hm ha hac (by omega) hn (dn == 3) E i1 h1 r1 hE (by omega) R ih
      refine ⟨r, ev.to fun k => ?_, hr⟩
      simp only [spec_l08Graph.l1, spec_l01Once.f, w, e1, Option.bind_some]
      clear w
      rw [if_pos (by omega), if_pos (by simpa using cx)]
    · obtain ⟨r, ev, hr⟩ := dGr_j2 b hb n dn most a c hm ha hac (by omega) hn true E i1 h1 r1 hE (by omega) R ih
      refine ⟨r, ev.to fun k => ?_, hr⟩
      simp only [spec_l08Graph.l1, spec_l01Once.f, w, e1, Option.bind_some]
      clear w
      rw [if_pos (by omega), if_neg (by simpa using cx)]
theorem dGr_l0 (b : List Int) (hb : b.length ≤ 140737488351232) (n dn most : Int) (hm : most = 2 ∨ most = 4 ∨ most = 51) (hdn : 1 ≤ dn ∧ dn ≤ 3) (hn : 0 ≤ n ∧ n ≤ 9) : ∀ (d : Nat) (a : Int) (E : List S36) (i h : Int), 0 ≤ a → a + d = n → 0 ≤ i → GI n a 0 E → E.length + 9 * d ≤ 100 → ∃ r, Ev (fun k => spec_l08Graph.l0 k dn most a b i h n E) r ∧ (r.1 = n ∧ 0 ≤ r.2.2.1 ∧ GI n n 0 r.2.1 ∧ r.2.1.length ≤ 100)
  | 0, a, E, i, h, ha, hd, hi, hE, hl => by
    refine ⟨(n, E, i, h), (Ev.now _).to fun k => ?_, rfl, hi, ?_, by simp only; omega⟩
    · simp only [spec_l08Graph.l0]
      rw [if_neg (by omega)]
    · have : a = n := by omega
      rw [this] at hE
      exact hE
  | d + 1, a, E, i, h, ha, hd, hi, hE, hl => by
    have w : wrap64 (a + 1) = a + 1 := wid (by omega) (by omega)
    have ih := fun E' i' h' (g : GI n (a + 1) 0 E') (hl' : E'.length ≤ E.length + 9) (hi' : 0 ≤ i') => dGr_l0 b hb n dn most hm hdn hn d (a + 1) E' i' h' (by omega) (by omega) hi' g (by omega)
    obtain ⟨r, ev, hr⟩ := dGr_l1 b hb n dn most a hm hdn ha (by omega) hn.2 (fun x y z => x = n ∧ 0 ≤ y ∧ GI n n 0 z ∧ z.length ≤ 100) (E.length + 9) (by omega) ih (n - (a + 1)).toNat (a + 1) E i h (by omega) (by omega) hi (hE.next (by omega)) (by omega)
    refine ⟨r, ev.to fun k => ?_, hr⟩
    simp only [spec_l08Graph.l0, w]
    clear w
    rw [if_pos (by omega)]
theorem dPickI (b : List Int) (hb : b.length ≤ 140737488351232) (i h : Int) (hi : 0 ≤ i) (l : List Int) (hl : 0 < l.length) : ∃ s i' h', spec_l01PickInt.f b i h l = some (s, i', h') ∧ s ∈ l ∧ 0 ≤ i' := by
  unfold spec_l01PickInt.f
  obtain ⟨x1, i1, h1, e1, p1, q1, r1⟩ := dBelow b i h (l.length : Int) hb hi (by omega)
  rw [e1]
  simp only [Option.bind_some]
  rw [if_pos p1, if_pos q1]
  refine ⟨_, _, _, rfl, ?_, r1⟩
  have hx : x1.toNat < l.length := by omega
  have := rd_at hx
  rw [Int.toNat_of_nonneg p1] at this
  rw [this]
  exact List.getElem_mem hx
def dG3 (b : List Int) (k : Nat) (n dn : Int) (bt : Int × Int × Int) : Option (Int × List S36 × Int × Int) := spec_l08Graph.l0 k dn bt.1 0 b bt.2.1 bt.2.2 n []
def dG2 (b : List Int) (k : Nat) (n : Int) (bt : Int × Int × Int) : Option (Int × List S36 × Int × Int) := (spec_l01PickInt.f b bt.2.1 bt.2.2 [2, 4, 51]).bind (dG3 b k n (wrap64 (1 + bt.1)))
def dG1 (b : List Int) (k : Nat) (bt : Int × Int × Int) : Option (Int × List S36 × Int × Int) := (spec_l01Below.f b bt.2.1 bt.2.2 3).bind (dG2 b k bt.1)
theorem dGraph0 (b : List Int) (hb : b.length ≤ 140737488351232) (i h : Int) (hi : 0 ≤ i) : ∃ n E i' h', Ev (fun k => spec_l08Graph.f k b i h) (n, E, i', h') ∧ gok n E = true ∧ E.length ≤ 100 ∧ 0 ≤ i' := by
  obtain ⟨n, i1, h1, e1, p1, q1, r1⟩ := dBelow b i h 10 hb hi (by omega)
  obtain ⟨x, i2, h2, e2, p2, q2, r2⟩ := dBelow b i1 h1 3 hb r1 (by omega)
  obtain ⟨m, i3, h3, e3, hm, r3⟩ := dPickI b hb i2 h2 r2 [2, 4, 51] (by decide)
  have hm' : m = 2 ∨ m = 4 ∨ m = 51 := by simpa using hm
  have w : wrap64 (1 + x) = 1 + x := wid (by omega) (by omega)
  obtain ⟨r, ev, h0, hi', hG, hl⟩ := dGr_l0 b hb n (1 + x) m hm' (by omega) (by omega) n.toNat 0 [] i3 h3 (by omega) (by omega) r3 ⟨by simp, fun _ h => by simp at h, fun _ h => by simp at h⟩ (by simp; omega)
  obtain ⟨n', E, i4, h4⟩ := r
  simp only at h0 hi' hG hl
  subst h0
  refine ⟨n', E, i4, h4, ?_, ?_, hl, hi'⟩
  · have s3 : ∀ k, (spec_l01PickInt.f b i2 h2 [2, 4, 51]).bind (dG3 b k n' (wrap64 (1 + x))) = dG3 b k n' (wrap64 (1 + x)) (m, i3, h3) := fun k => (congrArg (fun o => Option.bind o (dG3 b k n' (wrap64 (1 + x)))) e3).trans (Option.bind_some _ _)
    have s2 : ∀ k, (spec_l01Below.f b i1 h1 3).bind (dG2 b k n') = dG2 b k n' (x, i2, h2) := fun k => (congrArg (fun o => Option.bind o (dG2 b k n')) e2).trans (Option.bind_some _ _)
    have s1 : ∀ k, (spec_l01Below.f b i h 10).bind (dG1 b k) = dG1 b k (n', i1, h1) := fun k => (congrArg (fun o => Option.bind o (dG1 b k)) e1).trans (Option.bind_some _ _)
    rw [← w] at ev
    unfold spec_l08Graph.f
    exact Ev.cg (f := fun k => dG1 b k (n', i1, h1)) (Ev.cg (f := fun k => dG2 b k n' (x, i2, h2)) (Ev.cg (f := fun k => dG3 b k n' (wrap64 (1 + x)) (m, i3, h3)) ev s3) s2) s1
  · unfold gok
    rw [edgesOk_of n' E none hG.1 hG.2.1 (fun q hq => by cases hq), Bool.and_true, decide_eq_true_eq]
    omega
theorem dGraph (b : List Int) (hb : b.length ≤ 140737488351232) : ∃ n E, Ev (fun k => spec_DrawRightGraph.f k b) (n, E) ∧ gok n E = true ∧ E.length ≤ 100 := by
  obtain ⟨h, ev⟩ := dNew b hb
  obtain ⟨n, E, i', h', ev2, hg, hl, _⟩ := dGraph0 b hb 0 h (by omega)
  refine ⟨n, E, ?_, hg, hl⟩
  unfold spec_DrawRightGraph.f
  exact ev.bind (ev2.bind (Ev.now _))

theorem dPlaces_go (b : List Int) (hb : b.length ≤ 140737488351232) : ∀ (d : Nat) (acc : List Int) (j i h : Int), 0 ≤ j → j + d = 12 → (acc.length : Int) = j → 0 ≤ i → (∀ x ∈ acc, 0 ≤ x ∧ x < 10000) → ∃ l, Ev (fun k => spec_DrawPlaces.l0 k acc j b i h) l ∧ l.length = 12 ∧ ∀ x ∈ l, 0 ≤ x ∧ x < 10000
  | 0, acc, j, i, h, hj, hd, hl, hi, hA => ⟨acc, (Ev.now _).to fun k => by simp only [spec_DrawPlaces.l0]; rw [if_neg (by omega)], by omega, hA⟩
  | d + 1, acc, j, i, h, hj, hd, hl, hi, hA => by
    obtain ⟨x, i1, h1, e, p, q, r⟩ := dBelow b i h 10000 hb hi (by omega)
    obtain ⟨l, ev, hl1, hl2⟩ := dPlaces_go b hb d (acc ++ [x]) (j + 1) i1 h1 (by omega) (by omega) (by rw [List.length_append]; simp; omega) r (fun y hy => by
      rcases List.mem_append.1 hy with hy | hy
      · exact hA y hy
      · rw [List.mem_singleton.1 hy]; exact ⟨p, q⟩)
    have w : wrap64 (j + 1) = j + 1 := wid (by omega) (by omega)
    refine ⟨l, ev.to fun k => ?_, hl1, hl2⟩
    simp only [spec_DrawPlaces.l0, w, e, Option.bind_some]
    clear w
    rw [if_pos (by omega), if_pos (by omega)]
def dP (b : List Int) (k : Nat) (bt : Int × Int × Int) : Option (List Int) := spec_DrawPlaces.l0 k ([] : List Int) 0 b bt.2.1 bt.2.2
theorem dPlaces (b : List Int) (hb : b.length ≤ 140737488351232) : ∃ l, Ev (fun k => spec_DrawPlaces.f k b) l ∧ l.length = 12 ∧ ∀ x ∈ l, 0 ≤ x ∧ x < 10000 := by
  obtain ⟨h, ev⟩ := dNew b hb
  obtain ⟨x, i1, h1, e, p, q, r⟩ := dByte b 0 h hb (by omega)
  obtain ⟨l, ev2, hl⟩ := dPlaces_go b hb 12 [] 0 i1 h1 (by omega) (by omega) rfl r (fun _ h => by simp at h)
  refine ⟨l, ?_, hl⟩
  unfold spec_DrawPlaces.f
  refine ev.bind (f := fun k bt => (spec_l01Byte.f bt.1 bt.2.1 bt.2.2).bind fun bt2 => spec_DrawPlaces.l0 k ([] : List Int) 0 bt.1 bt2.2.1 bt2.2.2) ?_
  have step : ∀ k, (spec_l01Byte.f b 0 h).bind (dP b k) = dP b k (x, i1, h1) := fun k => (congrArg (fun o => Option.bind o (dP b k)) e).trans (Option.bind_some _ _)
  exact Ev.cg (f := fun k => dP b k (x, i1, h1)) ev2 step

theorem i_in (a b c : Int) : impl_in.f a b c = some (decide (b ≤ a ∧ a ≤ c)) := by
  unfold impl_in.f
  by_cases h : a ≥ b
  · rw [if_pos h]; simp [show b ≤ a from h]
  · rw [if_neg h]; simp [show ¬ b ≤ a from h]
theorem i_in_t {a b c : Int} (h : b ≤ a ∧ a ≤ c) : impl_in.f a b c = some true := by rw [i_in, decide_eq_true h]
theorem i_in_f {a b c : Int} (h : ¬ (b ≤ a ∧ a ≤ c)) : impl_in.f a b c = some false := by rw [i_in, decide_eq_false h]

theorem iGO_go (n : Int) (hn : 0 ≤ n ∧ n ≤ 9) (l : List S36) (hl : l.length ≤ 1048576) : ∀ (d i : Nat), i + d = l.length → Ev (fun k => impl_GraphOk.l0 k l (l.length : Int) (i : Int) n l) (edgesOk n (prevE l i) (l.drop i))
  | 0, i, hi => by
    rw [List.drop_of_length_le (by omega)]
    refine Ev.ofEq ((Ev.now true).to fun k => ?_) (by cases prevE l i <;> rfl)
    simp only [impl_GraphOk.l0]
    rw [if_neg (by omega)]
  | d + 1, i, hi => by
    have hlt : i < l.length := by omega
    have ih := iGO_go n hn l hl d (i + 1) (by omega)
    rw [List.drop_eq_getElem_cons hlt]
    have step : ∀ k, impl_GraphOk.l0 (k + 1) l (l.length : Int) (i : Int) n l = impl_GraphOk.j1 k (i : Int) l (l.length : Int) (i : Int) (!edgeOk n l[i]) n l l[i].f0 l[i].f1 l[i].f2 l[i].f3 l[i].f4 := by
      intro k
      have w : wrap64 (n - 1) = n - 1 := wid (by omega) (by omega)
      simp only [impl_GraphOk.l0, i_in, Option.bind_some, w]
      clear w
      rw [if_pos (by omega), if_pos (by omega), if_pos (by omega), ri_Edge hlt]
      generalize l[i] = e
      unfold edgeOk
      repeat' split
      all_goals first
        | (congr 1; symm; rw [Bool.not_eq_true', decide_eq_false_iff_not]; (try simp only [decide_eq_true_eq] at *); omega)
        | (congr 2; rw [decide_eq_decide]; (try simp only [decide_eq_true_eq] at *); omega)
    refine Ev.to ?_ step
    have w2 : Aside0 (wrap64 ((i : Int) + 1) = ((i + 1 : Nat) : Int)) := ⟨by rw [wid (by omega) (by omega)]; rfl⟩
    cases hb : edgeOk n l[i] with
    | false =>
      have e : edgesOk n (prevE l i) (l[i] :: l.drop (i + 1)) = false := by cases prevE l i <;> simp [edgesOk, hb]
      rw [e]
      exact (Ev.now _).to fun k => by simp only [impl_GraphOk.j1]; rw [if_pos (by decide)]
    | true =>
      rcases i with _ | i
      · have e : edgesOk n (prevE l 0) (l[0] :: l.drop (0 + 1)) = edgesOk n (prevE l (0 + 1)) (l.drop (0 + 1)) := by rw [prevE_succ hlt]; simp [edgesOk, hb, prevE]
        rw [e]
        refine ih.to fun k => ?_
        simp only [impl_GraphOk.j1]
        rw [if_neg (by decide), if_neg (by decide), w2.out]
      · have hlt' : i < l.length := by omega
        have e : edgesOk n (prevE l (i + 1)) (l[i + 1] :: l.drop (i + 1 + 1)) = (edgeLt l[i] l[i + 1] && edgesOk n (prevE l (i + 1 + 1)) (l.drop (i + 1 + 1))) := by rw [prevE_succ hlt', prevE_succ hlt]; simp [edgesOk, hb]
        rw [e]
        have w1 : Aside0 (wrap64 (((i + 1 : Nat) : Int) - 1) = (i : Int)) := ⟨by rw [wid (by omega) (by omega)]; omega⟩
        cases hlt2 : edgeLt l[i] l[i + 1] with
        | false =>
          rw [Bool.false_and]
          refine (Ev.now _).to fun k => ?_
          simp only [impl_GraphOk.j1]
          rw [if_neg (by decide), if_pos (by omega), w1.out, if_pos (by omega), if_pos (by omega), ri_Edge hlt']
          unfold edgeLt at hlt2
          rw [decide_eq_false_iff_not] at hlt2
          by_cases h1 : l[i].f0 > l[i + 1].f0
          · rw [if_pos h1]
          · rw [if_neg h1, if_pos (by omega), if_pos (by omega)]
        | true =>
          rw [Bool.true_and]
          refine ih.to fun k => ?_
          simp only [impl_GraphOk.j1]
          rw [if_neg (by decide), if_pos (by omega), w1.out, if_pos (by omega), if_pos (by omega), ri_Edge hlt', w2.out]
          unfold edgeLt at hlt2
          rw [decide_eq_true_eq] at hlt2
          rw [if_neg (by omega)]
          by_cases h1 : l[i].f0 = l[i + 1].f0
          · rw [if_pos h1, if_neg (by omega)]
          · rw [if_neg h1]
theorem iGraphOk (n : Int) (l : List S36) (hl : l.length ≤ 1048576) : Ev (fun k => impl_GraphOk.f k n l) (gok n l) := by
  unfold impl_GraphOk.f gok
  by_cases h : 0 ≤ n ∧ n ≤ 9
  · rw [i_in_t h, decide_eq_true h, Bool.true_and]
    simp only [Option.bind_some, if_true]
    exact iGO_go n h l hl l.length 0 (by omega)
  · rw [i_in_f h, decide_eq_false h, Bool.false_and]
    simp only [Option.bind_some, Bool.false_eq_true, if_false]
    exact Ev.now _

theorem iAt_go (a b : Int) (l : List S36) (hl : l.length ≤ 1048576) : ∀ (d i : Nat), i + d = l.length → Ev (fun k => impl_edgeAt.l0 k a b l (l.length : Int) (i : Int)) (atE a b i (l.drop i))
  | 0, i, hi => by
    rw [List.drop_of_length_le (by omega)]
    exact (Ev.now _).to fun k => by simp only [impl_edgeAt.l0]; rw [if_neg (by omega)]; rfl
  | d + 1, i, hi => by
    have hlt : i < l.length := by omega
    have ih := iAt_go a b l hl d (i + 1) (by omega)
    rw [List.drop_eq_getElem_cons hlt]
    have w2 : Aside0 (wrap64 ((i : Int) + 1) = ((i + 1 : Nat) : Int)) := ⟨by rw [wid (by omega) (by omega)]; rfl⟩
    unfold atE
    by_cases hc : isE a b l[i]
    · rw [if_pos hc]
      refine (Ev.now _).to fun k => ?_
      simp only [impl_edgeAt.l0]
      rw [if_pos (by omega), if_pos (by omega), if_pos (by omega), ri_Edge hlt]
      unfold isE at hc
      repeat' split
      all_goals first | rfl | omega
    · rw [if_neg hc]
      refine ih.to fun k => ?_
      simp only [impl_edgeAt.l0]
      rw [if_pos (by omega), if_pos (by omega), if_pos (by omega), ri_Edge hlt, w2.out]
      unfold isE at hc
      repeat' split
      all_goals first | rfl | omega
theorem iAt (n a b : Int) (l : List S36) (hl : l.length ≤ 1048576) : Ev (fun k => impl_edgeAt.f k n l a b) (atE a b 0 l) := by
  unfold impl_edgeAt.f
  exact iAt_go a b l hl l.length 0 (by omega)

theorem iI_l2 (n m : Int) (E : List S36) (hE : E.length ≤ 1048576) (v : List Int) (hv : v.length ≤ 1048576) (i : Int) (x : Int) (r : Int × List S36 × Bool) : ∀ (d j : Nat) (acc : List S36), j + d = v.length → acc.length + d < 3518437208883 → Ev (fun k => impl_Induced.l1 k v v (v.length : Int) (wrap64 (i + 1)) n E m (acc ++ rowI E i x (v.drop j) j)) r → Ev (fun k => impl_Induced.l2 k v i x (j : Int) v (v.length : Int) i n E m acc) r
  | 0, j, acc, hi, ha, h => by
    rw [List.drop_of_length_le (by omega), rowI, List.append_nil] at h
    refine h.to fun k => ?_
    simp only [impl_Induced.l2]; rw [if_neg (by omega)]
  | d + 1, j, acc, hi, ha, h => by
    have hlt : j < v.length := by omega
    have w2 : wrap64 ((j : Int) + 1) = ((j + 1 : Nat) : Int) := by rw [wid (by omega) (by omega)]; rfl
    rw [List.drop_eq_getElem_cons hlt, rowI] at h
    have hr := rd_at hlt
    generalize v[j] = y at *
    refine Ev.to (f := fun k => (impl_edgeAt.f k n E x y).bind fun t => if t ≥ 0 then (if 0 ≤ t then (if t < (E.length : Int) then (if acc.length < 3518437208883 then impl_Induced.l2 k v i x ((j + 1 : Nat) : Int) v (v.length : Int) i n E m (acc ++ [⟨i, (j : Int), (rd_T36 E t).f2, (rd_T36 E t).f3, (rd_T36 E t).f4⟩]) else none) else none) else none) else impl_Induced.l2 k v i x ((j + 1 : Nat) : Int) v (v.length : Int) i n E m acc) ((iAt n x y E hE).bind ?_) fun k => ?_
    · by_cases h0 : 0 ≤ atE x y 0 E
      · rw [if_pos h0] at h
        obtain ⟨q, _, _⟩ := atE_some x y E 0 h0
        refine Ev.ifp h0 (Ev.ifp h0 (Ev.ifp (by omega) (Ev.ifp (by omega) (iI_l2 n m E hE v hv i x r d (j + 1) _ (by omega) (by simp; omega) ?_))))
        rw [List.append_assoc, List.singleton_append]
        exact h
      · rw [if_neg h0] at h
        exact Ev.ifn h0 (iI_l2 n m E hE v hv i x r d (j + 1) acc (by omega) (by omega) h)
    · simp only [impl_Induced.l2, w2]
      clear w2 h
      rw [if_pos (by omega), if_pos (by omega), hr]
theorem iI_l1 (n m : Int) (E : List S36) (hE : E.length ≤ 1048576) (v : List Int) (hv : v.length ≤ 1048576) : ∀ (d i : Nat) (acc : List S36), i + d = v.length → acc.length + d * 1048576 ≤ 1099511627776 → Ev (fun k => impl_Induced.l1 k v v (v.length : Int) (i : Int) n E m acc) (m, acc ++ implI E (v.drop i) i, true)
  | 0, i, acc, hi, ha => by
    rw [List.drop_of_length_le (by omega), implI, List.append_nil]
    refine (Ev.now _).to fun k => ?_
    simp only [impl_Induced.l1]; rw [if_neg (by omega)]
  | d + 1, i, acc, hi, ha => by
    have hlt : i < v.length := by omega
    have w2 : wrap64 ((i : Int) + 1) = ((i + 1 : Nat) : Int) := by rw [wid (by omega) (by omega)]; rfl
    have hrl := rowI_len E (i : Int) v[i] (v.drop (i + 1)) (i + 1)
    rw [List.length_drop] at hrl
    have ih := iI_l1 n m E hE v hv d (i + 1) (acc ++ rowI E (i : Int) v[i] (v.drop (i + 1)) (i + 1)) (by omega) (by rw [List.length_append]; omega)
    rw [List.append_assoc] at ih
    rw [List.drop_eq_getElem_cons hlt, implI]
    have h2 := iI_l2 n m E hE v hv (i : Int) v[i] _ d (i + 1) acc (by omega) (by omega) (by rw [w2]; exact ih)
    refine h2.to fun k => ?_
    simp only [impl_Induced.l1, w2]
    clear w2 ih h2
    rw [if_pos (by omega), if_pos (by omega), if_pos (by omega), rd_at hlt]
theorem iI_go (n : Int) (hn : 0 ≤ n ∧ n ≤ 9) (E : List S36) (hE : E.length ≤ 1048576) (v : List Int) (hv : v.length ≤ 1048576) : ∀ (d i : Nat), i + d = v.length → Ev (fun k => impl_Induced.l0 k v v (v.length : Int) (i : Int) n E) (if vFrom n (prevI v i) (v.drop i) = true then ((v.length : Int), implI E v 0, true) else (0, [], false))
  | 0, i, hi => by
    rw [List.drop_of_length_le (by omega), if_pos (by cases prevI v i <;> rfl)]
    refine (iI_l1 n (v.length : Int) E hE v hv v.length 0 [] (by omega) (by simp; omega)).to fun k => ?_
    simp only [impl_Induced.l0]; rw [if_neg (by omega)]; rfl
  | d + 1, i, hi => by
    have hlt : i < v.length := by omega
    have ih := iI_go n hn E hE v hv d (i + 1) (by omega)
    rw [prevI_succ hlt] at ih
    have w1 : wrap64 (n - 1) = n - 1 := wid (by omega) (by omega)
    have w2 : wrap64 ((i : Int) + 1) = ((i + 1 : Nat) : Int) := by rw [wid (by omega) (by omega)]; rfl
    rw [List.drop_eq_getElem_cons hlt, vFrom]
    by_cases h1 : 0 ≤ v[i] ∧ v[i] ≤ n - 1
    · rw [decide_eq_true h1, Bool.true_and]
      rcases i with _ | i
      · rw [show prevLtI (prevI v 0) v[0] = true from rfl, Bool.true_and]
        refine ih.to fun k => ?_
        simp only [impl_Induced.l0, w1, w2]
        clear w1 w2 ih
        rw [if_pos (by omega), if_pos (by omega), if_pos (by omega), rd_at hlt, i_in_t h1]
        simp only [Option.bind_some, if_true]
        rw [if_neg (show ¬ ((0 : Nat) : Int) > 0 by omega)]
      · have hlt' : i < v.length := by omega
        have w3 : wrap64 (((i + 1 : Nat) : Int) - 1) = (i : Int) := by rw [wid (by omega) (by omega)]; omega
        rw [prevI_succ hlt', prevLtI]
        by_cases h2 : v[i] < v[i + 1]
        · rw [decide_eq_true h2, Bool.true_and]
          refine ih.to fun k => ?_
          simp only [impl_Induced.l0, w1, w2, w3]
          clear w1 w2 w3 ih
          rw [if_pos (by omega), if_pos (by omega), if_pos (by omega), rd_at hlt, i_in_t h1]
          simp only [Option.bind_some, if_true]
          rw [if_pos (show ((i + 1 : Nat) : Int) > 0 by omega), if_pos (show (0 : Int) ≤ (i : Int) by omega), if_pos (show (i : Int) < (v.length : Int) by omega), rd_at hlt', if_neg (show ¬ v[i] ≥ v[i + 1] by omega)]
        · rw [decide_eq_false h2, Bool.false_and, if_neg (by decide)]
          refine (Ev.now _).to fun k => ?_
          simp only [impl_Induced.l0, w1, w2, w3]
          clear w1 w2 w3 ih
          rw [if_pos (by omega), if_pos (by omega), if_pos (by omega), rd_at hlt, i_in_t h1]
          simp only [Option.bind_some, if_true]
          rw [if_pos (show ((i + 1 : Nat) : Int) > 0 by omega), if_pos (show (0 : Int) ≤ (i : Int) by omega), if_pos (show (i : Int) < (v.length : Int) by omega), rd_at hlt', if_pos (show v[i] ≥ v[i + 1] by omega)]
    · rw [decide_eq_false h1, Bool.false_and, if_neg (by decide)]
      refine (Ev.now _).to fun k => ?_
      simp only [impl_Induced.l0, w1, w2]
      clear w1 w2 ih
      rw [if_pos (by omega), if_pos (by omega), if_pos (by omega), rd_at hlt, i_in_f h1]
      rfl
theorem iInduced (n : Int) (E : List S36) (v : List Int) (hE : E.length ≤ 1048576) (hv : v.length ≤ 1048576) : Ev (fun k => impl_Induced.f k n E v) (indOf n E v) := by
  unfold impl_Induced.f
  refine (iGraphOk n E hE).bind ?_
  by_cases h : gok n E = true
  · refine Ev.ifp h ?_
    have hh := iI_go n (gok_n h) E hE v hv v.length 0 (by omega)
    rw [List.drop_zero] at hh
    refine Ev.ofEq hh ?_
    unfold indOf
    by_cases hv' : vFrom n none v = true
    · have hb : (gok n E && vFrom n none v) = true := by rw [h, hv']; rfl
      rw [if_pos hb, if_pos (show vFrom n (prevI v 0) v = true from hv'), indOf_impl hb]
    · rw [if_neg (show ¬ vFrom n (prevI v 0) v = true from hv'), if_neg (by rw [h, Bool.true_and]; exact hv')]
  · have hb : indOf n E v = (0, [], false) := by unfold indOf; rw [Bool.eq_false_iff.2 h, Bool.false_and, if_neg (by decide)]
    rw [hb]
    exact Ev.ifn h (Ev.now _)

theorem vFrom_of (n : Int) : ∀ (l : List Int) (p : Option Int), l.Pairwise (· < ·) → (∀ x ∈ l, 0 ≤ x ∧ x ≤ n - 1) → (∀ q, p = some q → ∀ x ∈ l, q < x) → vFrom n p l = true
  | [], p, _, _, _ => by cases p <;> rfl
  | y :: l, p, hp, ho, hq => by
    rw [List.pairwise_cons] at hp
    have ih := vFrom_of n l (some y) hp.2 (fun e he => ho e (List.mem_cons_of_mem _ he)) (fun q hq' x hx => by injection hq' with hq'; subst hq'; exact hp.1 x hx)
    have hy := ho y (List.mem_cons_self ..)
    have h3 : prevLtI p y = true := by
      cases p with
      | none => rfl
      | some q => simp only [prevLtI, decide_eq_true_eq]; exact hq q rfl y (List.mem_cons_self ..)
    simp only [vFrom, ih, h3, Bool.and_true, decide_eq_true_eq]
    exact hy
theorem iEdge2 (n a b : Int) (l : List S36) (hl : l.length ≤ 1048576) (h : gok n l = true) : Ev (fun k => impl_EdgeAt.f k n l a b) (atE a b 0 l) := by
  unfold impl_EdgeAt.f
  exact (iGraphOk n l hl).bind (Ev.ifp h ((iAt n a b l hl).bind (Ev.now _)))
theorem gok_pw {n : Int} {E : List S36} (h : gok n E = true) : E.Pairwise ltE := by
  unfold gok at h
  rw [Bool.and_eq_true] at h
  exact (edgesOk_pw n E none h.2).2
theorem atE_swap (a b : Int) : ∀ (l : List S36) (i : Nat), atE a b i l = atE b a i l
  | [], i => rfl
  | e :: l, i => by
    unfold atE
    rw [atE_swap a b l (i + 1)]
    by_cases h : isE a b e
    · rw [if_pos h, if_pos (show isE b a e from h.symm)]
    · rw [if_neg h, if_neg (fun h' : isE b a e => h h'.symm)]
/-- Where the induced graph has its edge between two of its vertices, and which it is. -/
theorem ind_at {n : Int} {E : List S36} {v : List Int} (hg : gok n E = true) (hv : v.Pairwise (· < ·)) {a b : Nat} (hab : a < b) (hb : b < v.length) :
    (0 ≤ atE (a : Int) (b : Int) 0 (implI E v 0) ↔ 0 ≤ atE v[a] v[b] 0 E) ∧ (0 ≤ atE v[a] v[b] 0 E → rd_T36 (implI E v 0) (atE (a : Int) (b : Int) 0 (implI E v 0)) = mkI_ E (a : Int) (b : Int) v[a] v[b]) := by
  have key : ∀ z ∈ implI E v 0, isE (a : Int) (b : Int) z → 0 ≤ atE v[a] v[b] 0 E ∧ z = mkI_ E (a : Int) (b : Int) v[a] v[b] := by
    intro z hz hi
    obtain ⟨c, d, hc, hd, hcd, hat, rfl⟩ := (mem_implI E z v 0).1 hz
    have e0 : (mkI_ E ((0 + c : Nat) : Int) ((0 + d : Nat) : Int) v[c] v[d]).f0 = (c : Int) := by show ((0 + c : Nat) : Int) = _; rw [Nat.zero_add]
    have e1 : (mkI_ E ((0 + c : Nat) : Int) ((0 + d : Nat) : Int) v[c] v[d]).f1 = (d : Int) := by show ((0 + d : Nat) : Int) = _; rw [Nat.zero_add]
    unfold isE at hi
    rw [e0, e1] at hi
    have hca : c = a := by omega
    have hdb : d = b := by omega
    subst hca
    subst hdb
    rw [Nat.zero_add, Nat.zero_add]
    exact ⟨hat, rfl⟩
  have back : 0 ≤ atE v[a] v[b] 0 E → 0 ≤ atE (a : Int) (b : Int) 0 (implI E v 0) := fun hat => by
    refine atE_ex _ 0 ⟨mkI_ E ((0 + a : Nat) : Int) ((0 + b : Nat) : Int) v[a] v[b], (mem_implI E _ v 0).2 ⟨a, b, by omega, hb, hab, hat, rfl⟩, .inl ⟨?_, ?_⟩⟩
    · show ((0 + a : Nat) : Int) = _; rw [Nat.zero_add]
    · show ((0 + b : Nat) : Int) = _; rw [Nat.zero_add]
  refine ⟨⟨fun h => ?_, back⟩, fun hat => ?_⟩
  · obtain ⟨hm, hi⟩ := atE_get h
    exact (key _ hm hi).1
  · obtain ⟨hm, hi⟩ := atE_get (back hat)
    exact (key _ hm hi).2
theorem atE_lt2 {a b : Int} {l : List S36} (h : 0 ≤ atE a b 0 l) : atE a b 0 l < (l.length : Int) := by
  obtain ⟨h1, _, _⟩ := atE_some a b l 0 h
  omega
theorem scal (a b c d e : Int) : impl_Scalar.f a b c d e = spec_Scalar.f a b c d e := rfl
theorem lI_l2 (n : Int) (E : List S36) (hg : gok n E = true) (hE : E.length ≤ 100) (v : List Int) (hv : v.Pairwise (· < ·)) (hvl : v.length ≤ 9) (hH : gok (v.length : Int) (implI E v 0) = true) (hHl : (implI E v 0).length ≤ 1000) (a : Nat) (ha : a < v.length) (r : Bool) : ∀ (d b : Nat) (x : Int), a < b → b + d = v.length → 0 ≤ x → x + d ≤ 100000 → Ev (fun k => laws_FnInduced.l1 k v (x + (rowI E (a : Int) v[a] (v.drop b) b).length) (wrap64 ((a : Int) + 1)) n E (v.length : Int) (implI E v 0)) r → Ev (fun k => laws_FnInduced.l2 k v x (a : Int) (b : Int) n E (v.length : Int) (implI E v 0)) r
  | 0, b, x, hab, hb, h0, h1, h => by
    rw [List.drop_of_length_le (by omega), rowI, List.length_nil] at h
    refine Ev.to h fun k => ?_
    simp only [laws_FnInduced.l2]
    rw [if_neg (by omega), show x + ((0 : Nat) : Int) = x by omega]
  | d + 1, b, x, hab, hb, h0, h1, h => by
    have hlt : b < v.length := by omega
    obtain ⟨k1, k2⟩ := ind_at hg hv hab hlt
    rw [List.drop_eq_getElem_cons hlt, rowI] at h
    have w : Aside0 (wrap64 ((b : Int) + 1) = ((b + 1 : Nat) : Int)) := ⟨by rw [wid (by omega) (by omega)]; rfl⟩
    have wx : Aside0 (wrap64 (x + 1) = x + 1) := ⟨wid (by omega) (by omega)⟩
    have e1 := iEdge2 n v[a] v[b] E (by omega) hg
    have e2 := iEdge2 (v.length : Int) (b : Int) (a : Int) (implI E v 0) (by omega) hH
    rw [atE_swap] at e2
    by_cases c : 0 ≤ atE v[a] v[b] 0 E
    · rw [if_pos c, List.length_cons] at h
      have ih := lI_l2 n E hg hE v hv hvl hH hHl a ha r d (b + 1) (x + 1) (by omega) (by omega) (by omega) (by omega)
      have cy := k1.2 c
      have q1 := atE_lt2 c
      have q2 := atE_lt2 cy
      have ez := k2 c
      refine Ev.to (f := fun k => (impl_EdgeAt.f k n E v[a] v[b]).bind fun t247 => (impl_EdgeAt.f k (v.length : Int) (implI E v 0) (b : Int) (a : Int)).bind fun t248 => (if ((decide (t247 < 0)) != (decide (t248 < 0))) = true then (some false) else (if t247 ≥ 0 then (if 0 ≤ t247 then (if t247 < (E.length : Int) then ((impl_Scalar.f ((rd_T36 E t247).f0) ((rd_T36 E t247).f1) ((rd_T36 E t247).f2) ((rd_T36 E t247).f3) ((rd_T36 E t247).f4)).bind fun t250 => (if 0 ≤ t248 then (if t248 < ((implI E v 0).length : Int) then ((impl_Scalar.f ((rd_T36 (implI E v 0) t248).f0) ((rd_T36 (implI E v 0) t248).f1) ((rd_T36 (implI E v 0) t248).f2) ((rd_T36 (implI E v 0) t248).f3) ((rd_T36 (implI E v 0) t248).f4)).bind fun t252 => (if t250 = t252 then ((spec_Scalar.f ((rd_T36 E t247).f0) ((rd_T36 E t247).f1) ((rd_T36 E t247).f2) ((rd_T36 E t247).f3) ((rd_T36 E t247).f4)).bind fun t254 => ((impl_Scalar.f ((rd_T36 (implI E v 0) t248).f0) ((rd_T36 (implI E v 0) t248).f1) ((rd_T36 (implI E v 0) t248).f2) ((rd_T36 (implI E v 0) t248).f3) ((rd_T36 (implI E v 0) t248).f4)).bind fun t256 => (if t254 = t256 then (laws_FnInduced.l2 k v (x + 1) (a : Int) ((b + 1 : Nat) : Int) n E (v.length : Int) (implI E v 0)) else (some false)))) else (some false))) else (none)) else (none))) else (none)) else (none)) else (laws_FnInduced.l2 k v x (a : Int) ((b + 1 : Nat) : Int) n E (v.length : Int) (implI E v 0))))) (e1.bind (e2.bind ?_)) fun k => ?_
      · rw [decide_eq_false (by omega : ¬ atE v[a] v[b] 0 E < 0), decide_eq_false (by omega : ¬ atE (a : Int) (b : Int) 0 (implI E v 0) < 0)]
        refine Ev.ifn (by decide) (Ev.ifp c (Ev.ifp c (Ev.ifp q1 ?_)))
        rw [ez]
        unfold mkI_ impl_Scalar.f spec_Scalar.f
        simp only [Option.bind_some]
        refine Ev.ifp cy (Ev.ifp q2 (Ev.ifp trivial (Ev.ifp trivial (ih ?_))))
        rw [show x + 1 + ((rowI E (a : Int) v[a] (v.drop (b + 1)) (b + 1)).length : Int) = x + (((rowI E (a : Int) v[a] (v.drop (b + 1)) (b + 1)).length + 1 : Nat) : Int) by omega]
        exact h
      · simp only [laws_FnInduced.l2, w.out, wx.out]
        rw [if_pos (by omega), if_pos (by omega), if_pos (by omega), if_pos (by omega), rd_at ha, rd_at hlt]
    · rw [if_neg c] at h
      have ih := lI_l2 n E hg hE v hv hvl hH hHl a ha r d (b + 1) x (by omega) (by omega) h0 (by omega) h
      have cy : ¬ 0 ≤ atE (a : Int) (b : Int) 0 (implI E v 0) := fun hh => c (k1.1 hh)
      refine Ev.to (f := fun k => (impl_EdgeAt.f k n E v[a] v[b]).bind fun t247 => (impl_EdgeAt.f k (v.length : Int) (implI E v 0) (b : Int) (a : Int)).bind fun t248 => (if ((decide (t247 < 0)) != (decide (t248 < 0))) = true then (some false) else (if t247 ≥ 0 then (if 0 ≤ t247 then (if t247 < (E.length : Int) then ((impl_Scalar.f ((rd_T36 E t247).f0) ((rd_T36 E t247).f1) ((rd_T36 E t247).f2) ((rd_T36 E t247).f3) ((rd_T36 E t247).f4)).bind fun t250 => (if 0 ≤ t248 then (if t248 < ((implI E v 0).length : Int) then ((impl_Scalar.f ((rd_T36 (implI E v 0) t248).f0) ((rd_T36 (implI E v 0) t248).f1) ((rd_T36 (implI E v 0) t248).f2) ((rd_T36 (implI E v 0) t248).f3) ((rd_T36 (implI E v 0) t248).f4)).bind fun t252 => (if t250 = t252 then ((spec_Scalar.f ((rd_T36 E t247).f0) ((rd_T36 E t247).f1) ((rd_T36 E t247).f2) ((rd_T36 E t247).f3) ((rd_T36 E t247).f4)).bind fun t254 => ((impl_Scalar.f ((rd_T36 (implI E v 0) t248).f0) ((rd_T36 (implI E v 0) t248).f1) ((rd_T36 (implI E v 0) t248).f2) ((rd_T36 (implI E v 0) t248).f3) ((rd_T36 (implI E v 0) t248).f4)).bind fun t256 => (if t254 = t256 then (laws_FnInduced.l2 k v (x + 1) (a : Int) ((b + 1 : Nat) : Int) n E (v.length : Int) (implI E v 0)) else (some false)))) else (some false))) else (none)) else (none))) else (none)) else (none)) else (laws_FnInduced.l2 k v x (a : Int) ((b + 1 : Nat) : Int) n E (v.length : Int) (implI E v 0))))) (e1.bind (e2.bind ?_)) fun k => ?_
      · rw [decide_eq_true (by omega : atE v[a] v[b] 0 E < 0), decide_eq_true (by omega : atE (a : Int) (b : Int) 0 (implI E v 0) < 0)]
        exact Ev.ifn (by decide) (Ev.ifn c ih)
      · simp only [laws_FnInduced.l2, w.out, wx.out]
        rw [if_pos (by omega), if_pos (by omega), if_pos (by omega), if_pos (by omega), rd_at ha, rd_at hlt]
theorem lI_l1 (n : Int) (E : List S36) (hg : gok n E = true) (hE : E.length ≤ 100) (v : List Int) (hv : v.Pairwise (· < ·)) (hvl : v.length ≤ 9) (hH : gok (v.length : Int) (implI E v 0) = true) (hHl : (implI E v 0).length ≤ 1000) : ∀ (d a : Nat) (x : Int), a + d = v.length → 0 ≤ x → x + d * 10 ≤ 10000 → x + (implI E (v.drop a) a).length = (implI E v 0).length → Ev (fun k => laws_FnInduced.l1 k v x (a : Int) n E (v.length : Int) (implI E v 0)) true
  | 0, a, x, ha, h0, h1, h => by
    rw [List.drop_of_length_le (by omega), implI, List.length_nil] at h
    refine (Ev.now _).to fun k => ?_
    simp only [laws_FnInduced.l1]
    rw [if_neg (by omega)]
    have : x = ((implI E v 0).length : Int) := by omega
    simp [this]
  | d + 1, a, x, ha, h0, h1, h => by
    have hlt : a < v.length := by omega
    have hr := rowI_len E (a : Int) v[a] (v.drop (a + 1)) (a + 1)
    rw [List.length_drop] at hr
    rw [List.drop_eq_getElem_cons hlt, implI, List.length_append] at h
    have w : wrap64 ((a : Int) + 1) = ((a + 1 : Nat) : Int) := by rw [wid (by omega) (by omega)]; rfl
    have ih := lI_l1 n E hg hE v hv hvl hH hHl d (a + 1) (x + (rowI E (a : Int) v[a] (v.drop (a + 1)) (a + 1)).length) (by omega) (by omega) (by omega) (by omega)
    rw [← w] at ih
    have h2 := lI_l2 n E hg hE v hv hvl hH hHl a hlt true d (a + 1) x (by omega) (by omega) h0 (by clear w ih; omega) ih
    refine h2.to fun k => ?_
    simp only [laws_FnInduced.l1]
    clear ih h2
    rw [if_pos (by omega), w]
theorem lI_l0 (n : Int) (E : List S36) (hg : gok n E = true) (hE : E.length ≤ 100) (P : List Int) (hP : P.length = 12) : ∀ (d : Nat) (j : Int) (v : List Int), 0 ≤ j → j + d = n → (v.length : Int) ≤ j → v.Pairwise (· < ·) → (∀ x ∈ v, 0 ≤ x ∧ x < j) → Ev (fun k => laws_FnInduced.l0 k P v j n E) true
  | 0, j, v, hj, hd, hl, hv, ho => by
    have hn := gok_n hg
    have hvF : vFrom n none v = true := vFrom_of n v none hv (fun x hx => by have := ho x hx; omega) (fun q hq => by cases hq)
    have hb : (gok n E && vFrom n none v) = true := by rw [hg, hvF]; rfl
    have hI := iInduced n E v (by omega) (by omega)
    rw [show indOf n E v = ((v.length : Int), implI E v 0, true) from by unfold indOf; rw [if_pos hb, indOf_impl hb]] at hI
    have hsl := specI_len v E
    rw [indOf_impl hb] at hsl
    have hH : gok (v.length : Int) (implI E v 0) = true := by
      unfold gok
      rw [edgesOk_of (v.length : Int) (implI E v 0) none (implI_pw E v 0) (fun e he => ?_) (fun q hq => by cases hq), Bool.and_true, decide_eq_true_eq]
      · omega
      · obtain ⟨c, d, hc, hd, hcd, hat, rfl⟩ := (mem_implI E e v 0).1 he
        obtain ⟨hm, _⟩ := atE_get hat
        have hw := gok_all hg _ hm
        unfold edgeOk mkI_
        rw [decide_eq_true_eq]
        exact ⟨by simp only; omega, by simp only; omega, by simp only; omega, hw.2.2.2.1, hw.2.2.2.2.1, hw.2.2.2.2.2⟩
    have hO := iGraphOk (v.length : Int) (implI E v 0) (by omega)
    rw [hH] at hO
    have hL := lI_l1 n E hg hE v hv (by omega) hH (by omega) v.length 0 0 (by omega) (by omega) (by omega) (by rw [List.drop_zero]; omega)
    refine Ev.to (f := fun k => (impl_Induced.f k n E v).bind fun bt238 => (if bt238.2.2 = true then ((impl_GraphOk.f k bt238.1 bt238.2.1).bind fun t244 => (if t244 = true then (laws_FnInduced.j1 k v (bt238.1 != (v.length : Int)) n E bt238.1 bt238.2.1) else (laws_FnInduced.j1 k v true n E bt238.1 bt238.2.1))) else (laws_FnInduced.j1 k v true n E bt238.1 bt238.2.1))) (hI.bind (Ev.ifp rfl (hO.bind (Ev.ifp rfl ?_)))) fun k => by simp only [laws_FnInduced.l0]; rw [if_neg (by omega)]
    refine Ev.to hL fun k => ?_
    simp only [laws_FnInduced.j1]
    rw [if_neg (by simp)]
    rfl
  | d + 1, j, v, hj, hd, hl, hv, ho => by
    have hn := gok_n hg
    have ht : Int.tmod j 12 = j % 12 := tmod_pos hj
    have m0 : 0 ≤ j % 12 := Int.emod_nonneg _ (by omega)
    have m1 : j % 12 < 12 := Int.emod_lt_of_pos _ (by omega)
    have iN := lI_l0 n E hg hE P hP d (j + 1) v (by omega) (by omega) (by omega) hv (fun x hx => by have := ho x hx; omega)
    have iY := lI_l0 n E hg hE P hP d (j + 1) (v ++ [j]) (by omega) (by omega) (by rw [List.length_append]; simp; omega) (by
      rw [List.pairwise_append]
      exact ⟨hv, by simp, fun x hx y hy => by rw [List.mem_singleton.1 hy]; exact (ho x hx).2⟩) (fun x hx => by
      rcases List.mem_append.1 hx with hx | hx
      · have := ho x hx; omega
      · rw [List.mem_singleton.1 hx]; omega)
    have w : wrap64 (j + 1) = j + 1 := wid (by omega) (by omega)
    by_cases c : Int.tmod (rd P (j % 12)) 2 = 0
    · refine iY.to fun k => ?_
      simp only [laws_FnInduced.l0, ht, w]
      clear w
      rw [if_pos (by omega), if_pos m0, if_pos (by omega), if_pos c, if_pos (by omega)]
    · refine iN.to fun k => ?_
      simp only [laws_FnInduced.l0, ht, w]
      clear w
      rw [if_pos (by omega), if_pos m0, if_pos (by omega), if_neg c]
theorem FnInduced : laws_FnInduced.Pure := by
  intro b _ hb _
  refine Ev.rounds (g := fun k => laws_FnInduced.f k b) ?_
  unfold laws_FnInduced.f laws_big.f
  simp only [Option.bind_some]
  by_cases hbig : (b.length : Int) > 1048576
  · exact Ev.ifp (by simpa using hbig) (Ev.now _)
  refine Ev.ifn (by simpa using hbig) ?_
  obtain ⟨n, E, evG, hg, hE⟩ := dGraph b (by omega)
  obtain ⟨P, evP, hP, _⟩ := dPlaces b (by omega)
  have hn := gok_n hg
  exact evG.bind (evP.bind (lI_l0 n E hg hE P hP n.toNat 0 [] (by omega) (by omega) (by simp) (by simp) (fun _ h => by simp at h)))

end Go.Proofs.Ytfmemcffbfahhaa.Pure
