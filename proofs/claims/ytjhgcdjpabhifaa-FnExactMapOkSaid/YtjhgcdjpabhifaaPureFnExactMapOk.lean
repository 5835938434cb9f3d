/- The program's MapOk and the reference's MapOk return the same flag, for every list of pairs, and leave it as it was. -/
import Derived.Test.YtjhgcdjpabhifaaQFnExactMapOkx4
import Derived.Laws.BitsAllLaws
namespace Go.Proofs.Ytjhgcdjpabhifaa.Pure
open Go.RowKit Go.Proofs.Ytjhgcdjpabhifaa.QFnExactMapOk Go.Proofs.YtjhgcdjpabhifaaW.PrintWords Go.Proofs.YtjhgcdjpabhifaaW.PrintLast
set_option linter.unusedVariables false
set_option linter.unusedSimpArgs false
set_option maxHeartbeats 4000000

def laws_FnExactMapOk.Pure : Prop := ∀ (l0 : List (S99)), (l0.length ≤ 9223372036854775807 ∧ ∀ x1 ∈ l0, (x1.f0.size ≤ 9223372036854775807) ∧ (x1.f1.size ≤ 9223372036854775807)) → ∃ k, laws_FnExactMapOk.f k l0 = some true

theorem wid {n : Int} (h0 : -9223372036854775808 ≤ n) (h1 : n < 9223372036854775808) : wrap64 n = n := by unfold wrap64; omega
theorem _root_.Go.Proofs.YtjhgcdjpabhifaaW.PrintWords.Ev.ofEq {α : Type} {g : Nat → Option α} {r q : α} (h : Ev g r) (e : r = q) : Ev g q := e ▸ h
theorem _root_.Go.Proofs.YtjhgcdjpabhifaaW.PrintWords.Ev.same {α : Type} {o : Option α} {r : α} (h : o = some r) : Ev (fun _ => o) r := ⟨0, fun _ _ => h⟩
theorem _root_.Go.Proofs.YtjhgcdjpabhifaaW.PrintWords.Ev.to {α : Type} {g f : Nat → Option α} {r : α} (k : Ev f r) (h : ∀ k, g (k + 1) = f k) : Ev g r := Ev.step h k
theorem _root_.Go.Proofs.YtjhgcdjpabhifaaW.PrintWords.Ev.cg {α : Type} {g f : Nat → Option α} {r : α} (k : Ev f r) (h : ∀ k, g k = f k) : Ev g r := Ev.congr h k
theorem _root_.Go.Proofs.YtjhgcdjpabhifaaW.PrintWords.Ev.ifp {α : Type} {c : Prop} [Decidable c] {g f : Nat → Option α} {r : α} (h : c) (e : Ev g r) : Ev (fun k => if c then g k else f k) r := by simp only [if_pos h]; exact e
theorem _root_.Go.Proofs.YtjhgcdjpabhifaaW.PrintWords.Ev.ifn {α : Type} {c : Prop} [Decidable c] {g f : Nat → Option α} {r : α} (h : ¬ c) (e : Ev f r) : Ev (fun k => if c then g k else f k) r := by simp only [if_neg h]; exact e
/-- The bytes of a string, as numbers. -/
def bl (s : ByteArray) : List Int := s.data.toList.map fun b => (b.toNat : Int)
theorem bl_len (s : ByteArray) : (bl s).length = s.size := by unfold bl; rw [List.length_map]; rfl
def Byt (xs : List Int) : Prop := ∀ x ∈ xs, 0 ≤ x ∧ x < 256
theorem Byt.nil : Byt [] := fun _ h => by simp at h
theorem Byt.cons {x : Int} {xs : List Int} (h : 0 ≤ x ∧ x < 256) (h' : Byt xs) : Byt (x :: xs) := fun y hy => by
  rcases List.mem_cons.1 hy with rfl | hy
  · exact h
  · exact h' y hy
theorem Byt.app {xs ys : List Int} (h : Byt xs) (h' : Byt ys) : Byt (xs ++ ys) := fun y hy => by
  rcases List.mem_append.1 hy with hy | hy
  · exact h y hy
  · exact h' y hy
theorem Byt.left {xs ys : List Int} (h : Byt (xs ++ ys)) : Byt xs := fun y hy => h y (List.mem_append_left _ hy)
theorem Byt.right {xs ys : List Int} (h : Byt (xs ++ ys)) : Byt ys := fun y hy => h y (List.mem_append_right _ hy)
theorem Byt.tail {x : Int} {xs : List Int} (h : Byt (x :: xs)) : Byt xs := fun y hy => h y (List.mem_cons_of_mem _ hy)
theorem Byt.head {x : Int} {xs : List Int} (h : Byt (x :: xs)) : 0 ≤ x ∧ x < 256 := h x (List.mem_cons_self ..)
theorem Byt.drop {xs : List Int} (h : Byt xs) (n : Nat) : Byt (xs.drop n) := fun y hy => h y (List.mem_of_mem_drop hy)
theorem Byt.take {xs : List Int} (h : Byt xs) (n : Nat) : Byt (xs.take n) := fun y hy => h y (List.mem_of_mem_take hy)
theorem bl_byt (s : ByteArray) : Byt (bl s) := fun x hx => by
  obtain ⟨b, _, rfl⟩ := List.mem_map.1 hx
  have := b.toNat_lt
  omega
theorem u8_back (b : UInt8) : UInt8.ofNat ((b.toNat : Int)).toNat = b := by simp
theorem bl_str {xs : List Int} (h : Byt xs) : bl (strOfNums xs) = xs := by
  unfold bl
  rw [strOfNums_data, List.map_map]
  conv => rhs; rw [← List.map_id xs]
  apply List.map_congr_left
  intro x hx
  have := h x hx
  simp only [Function.comp, id]
  obtain ⟨n, rfl⟩ := Int.eq_ofNat_of_zero_le this.1
  simp
  omega
theorem str_bl (s : ByteArray) : strOfNums (bl s) = s := by
  unfold strOfNums bl
  rw [List.map_map]
  have : ((fun n : Int => UInt8.ofNat n.toNat) ∘ fun b : UInt8 => (b.toNat : Int)) = id := by
    funext b
    simp
  rw [this, List.map_id]
theorem bl_inj {a b : ByteArray} (h : bl a = bl b) : a = b := by rw [← str_bl a, ← str_bl b, h]
theorem bt_bl (s : ByteArray) (i : Int) : bt s i = (bl s).getD i.toNat 0 := by
  unfold bt
  split
  · rename_i h
    have hl : i.toNat < s.data.toList.length := h
    simp only [bl, List.getD_eq_getElem?_getD, List.getElem?_map, List.getElem?_eq_getElem hl, Option.map_some, Option.getD_some]
    rfl
  · rename_i h
    rw [List.getD_eq_getElem?_getD, List.getElem?_eq_none (by rw [bl_len]; omega)]
    rfl
theorem bl_app (a b : ByteArray) : bl (a ++ b) = bl a ++ bl b := by
  unfold bl
  rw [ByteArray.data_append, Array.toList_append, List.map_append]
theorem bl_ext (a : ByteArray) (i j : Nat) : bl (a.extract i j) = ((bl a).take j).drop i := by
  unfold bl
  rw [ByteArray.data_extract, Array.toList_extract, List.extract_eq_take_drop, List.map_take, List.map_drop, List.drop_take]
theorem bl_emp : bl (⟨#[]⟩ : ByteArray) = [] := rfl
theorem bl_cons {s : ByteArray} {i : Nat} (h : i < s.size) : (bl s).drop i = bt s (i : Int) :: (bl s).drop (i + 1) := by
  have hl : i < (bl s).length := by rw [bl_len]; exact h
  rw [List.drop_eq_getElem_cons hl, bt_bl, List.getD_eq_getElem?_getD, Int.toNat_natCast, List.getElem?_eq_getElem hl]
  rfl
theorem bl_end {s : ByteArray} {i : Nat} (h : s.size ≤ i) : (bl s).drop i = [] := List.drop_of_length_le (by rw [bl_len]; exact h)
theorem tl_inj {a b : ByteArray} : a.toList = b.toList ↔ a = b := by
  constructor
  · intro h
    rw [ByteArray.toList_eq, ByteArray.toList_eq] at h
    apply ByteArray.ext
    exact Array.toList_inj.1 h
  · rintro rfl; rfl
theorem tl_bl {a b : ByteArray} : a.toList = b.toList ↔ bl a = bl b := tl_inj.trans ⟨fun h => h ▸ rfl, bl_inj⟩
theorem tdiv_pos {a b : Int} (h : 0 ≤ a) : Int.tdiv a b = a / b := Int.tdiv_eq_ediv_of_nonneg h
theorem tmod_pos {a b : Int} (h : 0 ≤ a) : Int.tmod a b = a % b := Int.tmod_eq_emod_of_nonneg h
theorem bne_rfl_bool (b : Bool) : (b != b) = false := by cases b <;> rfl
theorem wf_u32 {n : Int} (h : (Lit.int .u32 n).wf = true) : 0 ≤ n ∧ n < 4294967296 := by
  have h1 : IntKind.u32.min = 0 := by decide +kernel
  have h2 : IntKind.u32.max = 4294967295 := by decide +kernel
  simp only [Lit.wf, h1, h2, Bool.and_eq_true, decide_eq_true_eq] at h
  omega
theorem wf_i64 {n : Int} (h : (Lit.int .i64 n).wf = true) : -9223372036854775808 ≤ n ∧ n < 9223372036854775808 := by
  have h1 : IntKind.i64.min = -9223372036854775808 := by decide +kernel
  have h2 : IntKind.i64.max = 9223372036854775807 := by decide +kernel
  simp only [Lit.wf, h1, h2, Bool.and_eq_true, decide_eq_true_eq] at h
  omega
theorem Byt.one {x : Int} (h : 0 ≤ x ∧ x < 256) : Byt [x] := Byt.nil.cons h
theorem bl_size (s : ByteArray) : s.size = (bl s).length := (bl_len s).symm
theorem str_len (xs : List Int) : (strOfNums xs).size = xs.length := strOfNums_size xs

theorem set_take {α : Type} (xs : List α) {i : Nat} (v : α) (h : i < xs.length) : (xs.set i v).take (i + 1) = xs.take i ++ [v] := by
  rw [List.take_succ_eq_append_getElem (by rw [List.length_set]; exact h), List.getElem_set_self, List.take_set_of_le (Nat.le_refl _)]
theorem getD_at {α : Type} {xs : List α} {i : Nat} (z : α) (h : i < xs.length) : xs.getD ((i : Int)).toNat z = xs[i] := by
  rw [Int.toNat_natCast, List.getD_eq_getElem?_getD, List.getElem?_eq_getElem h]; rfl
theorem rdOf_at {α : Type} {xs : List α} {i : Nat} (z : α) (h : i < xs.length) : rdOf z xs (i : Int) = xs[i] := getD_at z h
theorem rd_at {xs : List Int} {i : Nat} (h : i < xs.length) : rd xs (i : Int) = xs[i] := getD_at 0 h
theorem toNat_len (n : Nat) : ((n : Int) : Int).toNat = n := Int.toNat_natCast n

theorem rl_Pair {xs : List S99} {i : Nat} (h : i < xs.length) : rd_T99 xs (i : Int) = xs[i] := getD_at _ h

def cvPair (x : S99) : S100 := ⟨x.f0, x.f1⟩
theorem toPairS_go (x0 : List S99) (hl : x0.length ≤ 1048576) : ∀ (d i : Nat) (x3 : List S100), i + d = x0.length → x3.length = x0.length → Ev (fun k => laws_toPairS.l0 k x0 x3 (i : Int)) (x3.take i ++ (x0.drop i).map cvPair)
  | 0, i, x3, hi, h3 => by
    rw [List.drop_of_length_le (by omega), List.take_of_length_le (by omega), List.map_nil, List.append_nil]
    refine (Ev.now _).to fun k => ?_
    simp only [laws_toPairS.l0]
    rw [if_neg (by omega)]
  | d + 1, i, x3, hi, h3 => by
    have hlt : i < x0.length := by omega
    have ih := toPairS_go x0 hl d (i + 1) (x3.set i (cvPair x0[i])) (by omega) (by rw [List.length_set]; omega)
    rw [set_take _ _ (by omega), List.append_assoc] at ih
    rw [List.drop_eq_getElem_cons hlt, List.map_cons]
    refine ih.to fun k => ?_
    simp only [laws_toPairS.l0]
    rw [if_pos (by omega), if_pos (by omega), rl_Pair hlt]
    simp only [laws_toPair.f, Option.bind_some]
    rw [if_pos (by omega), wid (by omega) (by omega)]
    rfl
theorem toPairS (x0 : List S99) (hl : x0.length ≤ 1048576) : Ev (fun k => laws_toPairS.f k x0) (x0.map cvPair) := by
  unfold laws_toPairS.f
  refine Ev.ifp (by omega) (Ev.ifp (by rw [Int.toNat_natCast]; omega) ?_)
  have := toPairS_go x0 hl x0.length 0 (List.replicate ((x0.length : Int) : Int).toNat z100) (by omega) (by rw [List.length_replicate, Int.toNat_natCast])
  simpa using this

theorem ri_Pair {xs : List S100} {i : Nat} (h : i < xs.length) : rd_T100 xs (i : Int) = xs[i] := getD_at _ h

theorem eqPair_self (x : S100) : laws_eqPair.f x.f0 x.f1 x.f0 x.f1 = some true := by unfold laws_eqPair.f; simp
theorem eqPairS_go (x0 : List S100) (hl : x0.length ≤ 100000000) : ∀ (d i : Nat), i + d = x0.length → Ev (fun k => laws_eqPairS.l0 k x0 x0 (i : Int)) true
  | 0, i, hi => (Ev.now _).to fun k => by simp only [laws_eqPairS.l0]; rw [if_neg (by omega)]
  | d + 1, i, hi => by
    refine (eqPairS_go x0 hl d (i + 1) (by omega)).to fun k => ?_
    simp only [laws_eqPairS.l0]
    rw [if_pos (by omega), if_pos (by omega), if_pos (by omega), eqPair_self]
    simp only [Option.bind_some, if_true]
    rw [wid (by omega) (by omega)]
    rfl
theorem eqPairS (x0 : List S100) (hl : x0.length ≤ 100000000) : Ev (fun k => laws_eqPairS.f k x0 x0) true := by
  unfold laws_eqPairS.f
  exact Ev.ifp rfl (eqPairS_go x0 hl x0.length 0 (by omega))

def okPair (x : S99) : Prop := x.f0.size ≤ 9223372036854775807 ∧ x.f1.size ≤ 9223372036854775807
def smallPair (x : S99) : Prop := x.f0.size ≤ 1048576 ∧ x.f1.size ≤ 1048576
theorem szPair_ (x : S99) (hx : okPair x) (m : Int) (h0 : 0 ≤ m) (h1 : m ≤ 1048576) : ∃ r, laws_szPair.f x.f0 x.f1 m = some r ∧ (r < 0 ∨ (r ≤ m ∧ smallPair x)) := by
  unfold laws_szPair.f
  unfold okPair at hx
  unfold smallPair
  have w1 : wrap64 (m - (x.f0.size : Int)) = m - x.f0.size := wid (by omega) (by omega)
  rw [w1]; clear w1
  by_cases h2 : m - (x.f0.size : Int) < 0
  · rw [if_pos h2]; exact ⟨_, rfl, .inl (by omega)⟩
  · rw [if_neg h2]
    have w2 : wrap64 (m - (x.f0.size : Int) - x.f1.size) = m - x.f0.size - x.f1.size := wid (by omega) (by omega)
    rw [w2]; clear w2
    split
    · exact ⟨_, rfl, .inl (by omega)⟩
    · exact ⟨_, rfl, .inr ⟨by omega, by omega, by omega⟩⟩
theorem szPairS_go (x0 : List S99) (hl : x0.length ≤ 1048576) (hx : ∀ x ∈ x0, okPair x) : ∀ (d i : Nat) (m : Int), i + d = x0.length → 0 ≤ m → m ≤ 1048576 → ∃ r, Ev (fun k => laws_szPairS.l0 k x0 m (i : Int)) r ∧ (r < 0 ∨ (r ≤ m ∧ ∀ x ∈ x0.drop i, smallPair x))
  | 0, i, m, hi, h0, h1 => ⟨m, (Ev.now _).to fun k => by simp only [laws_szPairS.l0]; rw [if_neg (by omega)], .inr ⟨by omega, fun x h => by rw [List.drop_of_length_le (by omega)] at h; simp at h⟩⟩
  | d + 1, i, m, hi, h0, h1 => by
    have hlt : i < x0.length := by omega
    obtain ⟨r, hr, hc⟩ := szPair_ x0[i] (hx _ (List.getElem_mem hlt)) m h0 h1
    by_cases hn : r < 0
    · refine ⟨-1, (Ev.now _).to fun k => ?_, .inl (by omega)⟩
      simp only [laws_szPairS.l0]
      rw [if_pos (by omega), if_pos (by omega), rl_Pair hlt, hr]
      simp only [Option.bind_some]
      rw [if_pos hn]
    · have hc' := hc.resolve_left hn
      obtain ⟨r', hr', hc2⟩ := szPairS_go x0 hl hx d (i + 1) r (by omega) (by omega) (by omega)
      refine ⟨r', hr'.to fun k => ?_, ?_⟩
      · simp only [laws_szPairS.l0]
        rw [if_pos (by omega), if_pos (by omega), rl_Pair hlt, hr]
        simp only [Option.bind_some]
        rw [if_neg hn, wid (by omega) (by omega)]
        rfl
      · rcases hc2 with hc2 | ⟨h2, h3⟩
        · exact .inl hc2
        · refine .inr ⟨by omega, fun x hx' => ?_⟩
          rw [List.drop_eq_getElem_cons hlt] at hx'
          rcases List.mem_cons.1 hx' with rfl | hx'
          · exact hc'.2
          · exact h3 x hx'
theorem szPairS (x0 : List S99) (hl : x0.length ≤ 9223372036854775807) (hx : ∀ x ∈ x0, okPair x) (m : Int) (h0 : 0 ≤ m) (h1 : m ≤ 1048576) : ∃ r, Ev (fun k => laws_szPairS.f k x0 m) r ∧ (r < 0 ∨ (r ≤ m ∧ x0.length ≤ 1048576 ∧ ∀ x ∈ x0, smallPair x)) := by
  unfold laws_szPairS.f
  have w : wrap64 (m - (x0.length : Int)) = m - x0.length := wid (by omega) (by omega)
  rw [w]; clear w
  by_cases hn : m - (x0.length : Int) < 0
  · exact ⟨-1, Ev.ifp hn (Ev.now _), .inl (by omega)⟩
  · obtain ⟨r, hr, hc⟩ := szPairS_go x0 (by omega) hx x0.length 0 (m - x0.length) (by omega) (by omega) (by omega)
    refine ⟨r, Ev.ifn hn hr, ?_⟩
    rcases hc with hc | ⟨h2, h3⟩
    · exact .inl hc
    · exact .inr ⟨by omega, by omega, fun x hx' => h3 x (by simpa using hx')⟩

/-! Right maps -/
def pairOk (x : S100) : Bool := decide (1 ≤ x.f0.size ∧ x.f0.size ≤ 8 ∧ x.f1.size ≤ 40)
def keyLt (a b : ByteArray) : Bool := Op.bytesLess a.toList b.toList
def pairsOk : Option S100 → List S100 → Bool
  | _, [] => true
  | none, x :: l => pairOk x && pairsOk (some x) l
  | some p, x :: l => pairOk x && (keyLt p.f0 x.f0 && pairsOk (some x) l)
def mapOk (l : List S100) : Bool := decide (l.length ≤ 120) && pairsOk none l
def prevP (l : List S100) : Nat → Option S100
  | 0 => none
  | i + 1 => l[i]?
theorem prevP_succ {l : List S100} {i : Nat} (h : i < l.length) : prevP l (i + 1) = some l[i] := List.getElem?_eq_getElem h

theorem s_in (a b c : Int) : spec_l01In.f a b c = some (decide (b ≤ a ∧ a ≤ c)) := by
  unfold spec_l01In.f
  by_cases h : a ≥ b
  · rw [if_pos h]; simp [show b ≤ a from h]
  · rw [if_neg h]; simp [show ¬ b ≤ a from h]
theorem s_in_t {a b c : Int} (h : b ≤ a ∧ a ≤ c) : spec_l01In.f a b c = some true := by rw [s_in, decide_eq_true h]
theorem s_in_f {a b c : Int} (h : ¬ (b ≤ a ∧ a ≤ c)) : spec_l01In.f a b c = some false := by rw [s_in, decide_eq_false h]

theorem sMO_go (l : List S100) (hl : l.length ≤ 1048576) : ∀ (d i : Nat), i + d = l.length → Ev (fun k => spec_MapOk.l0 k l (i : Int)) (pairsOk (prevP l i) (l.drop i))
  | 0, i, hi => by
    rw [List.drop_of_length_le (by omega)]
    refine Ev.ofEq ((Ev.now true).to fun k => ?_) (by cases prevP l i <;> rfl)
    simp only [spec_MapOk.l0]
    rw [if_neg (by omega)]
  | d + 1, i, hi => by
    have hlt : i < l.length := by omega
    have ih := sMO_go l hl d (i + 1) (by omega)
    rw [List.drop_eq_getElem_cons hlt]
    have w2 : Aside0 (wrap64 ((i : Int) + 1) = ((i + 1 : Nat) : Int)) := ⟨by rw [wid (by omega) (by omega)]; rfl⟩
    cases hb : pairOk l[i] with
    | false =>
      have e : pairsOk (prevP l i) (l[i] :: l.drop (i + 1)) = false := by cases prevP l i <;> simp [pairsOk, hb]
      rw [e]
      unfold pairOk at hb
      rw [decide_eq_false_iff_not] at hb
      refine (Ev.now _).to fun k => ?_
      simp only [spec_MapOk.l0]
      rw [if_pos (by omega), if_pos (by omega), ri_Pair hlt, s_in]
      simp only [Option.bind_some]
      by_cases h1 : 1 ≤ (l[i].f0.size : Int) ∧ (l[i].f0.size : Int) ≤ 8
      · rw [if_pos (decide_eq_true h1), if_pos (by omega)]
      · rw [if_neg (by simpa using h1)]
    | true =>
      have hb' := hb
      unfold pairOk at hb'
      rw [decide_eq_true_eq] at hb'
      rcases i with _ | i
      · have e : pairsOk (prevP l 0) (l[0] :: l.drop (0 + 1)) = pairsOk (prevP l (0 + 1)) (l.drop (0 + 1)) := by rw [prevP_succ hlt]; simp [pairsOk, hb, prevP]
        rw [e]
        refine ih.to fun k => ?_
        simp only [spec_MapOk.l0]
        rw [if_pos (by omega), if_pos (by omega), ri_Pair hlt, s_in_t (by omega)]
        simp only [Option.bind_some, if_true]
        rw [if_neg (by omega), if_neg (by omega), w2.out]
      · have hlt' : i < l.length := by omega
        have e : pairsOk (prevP l (i + 1)) (l[i + 1] :: l.drop (i + 1 + 1)) = (keyLt l[i].f0 l[i + 1].f0 && pairsOk (prevP l (i + 1 + 1)) (l.drop (i + 1 + 1))) := by rw [prevP_succ hlt', prevP_succ hlt]; simp [pairsOk, hb]
        rw [e]
        have w1 : Aside0 (wrap64 (((i + 1 : Nat) : Int) - 1) = (i : Int)) := ⟨by rw [wid (by omega) (by omega)]; omega⟩
        cases hk : keyLt l[i].f0 l[i + 1].f0 with
        | false =>
          rw [Bool.false_and]
          refine (Ev.now _).to fun k => ?_
          simp only [spec_MapOk.l0]
          rw [if_pos (by omega), if_pos (by omega), ri_Pair hlt, s_in_t (by omega)]
          simp only [Option.bind_some, if_true]
          rw [if_neg (by omega), if_pos (by omega), w1.out, if_pos (by omega), if_pos (by omega), ri_Pair hlt', if_neg (by unfold keyLt at hk; rw [hk]; decide)]
        | true =>
          rw [Bool.true_and]
          refine ih.to fun k => ?_
          simp only [spec_MapOk.l0]
          rw [if_pos (by omega), if_pos (by omega), ri_Pair hlt, s_in_t (by omega)]
          simp only [Option.bind_some, if_true]
          rw [if_neg (by omega), if_pos (by omega), w1.out, if_pos (by omega), if_pos (by omega), ri_Pair hlt', if_pos (show Op.bytesLess l[i].f0.toList l[i + 1].f0.toList = true from hk), w2.out]
theorem sMapOk (l : List S100) (hl : l.length ≤ 1048576) : Ev (fun k => spec_MapOk.f k l) (mapOk l) := by
  unfold spec_MapOk.f mapOk
  by_cases h : l.length ≤ 120
  · rw [decide_eq_true h, Bool.true_and]
    exact Ev.ifn (by omega) (sMO_go l hl l.length 0 (by omega))
  · rw [decide_eq_false h, Bool.false_and]
    exact Ev.ifp (by omega) (Ev.now _)

theorem i_in (a b c : Int) : impl_in.f a b c = some (decide (b ≤ a ∧ a ≤ c)) := by
  unfold impl_in.f
  by_cases h : a ≥ b
  · rw [if_pos h]; simp [show b ≤ a from h]
  · rw [if_neg h]; simp [show ¬ b ≤ a from h]
theorem i_in_t {a b c : Int} (h : b ≤ a ∧ a ≤ c) : impl_in.f a b c = some true := by rw [i_in, decide_eq_true h]
theorem i_in_f {a b c : Int} (h : ¬ (b ≤ a ∧ a ≤ c)) : impl_in.f a b c = some false := by rw [i_in, decide_eq_false h]

theorem iMO_go (l : List S100) (hl : l.length ≤ 1048576) : ∀ (d i : Nat), i + d = l.length → Ev (fun k => impl_MapOk.l0 k l l (l.length : Int) (i : Int)) (decide (l.length ≤ 120) && pairsOk (prevP l i) (l.drop i))
  | 0, i, hi => by
    rw [List.drop_of_length_le (by omega)]
    refine Ev.ofEq ((Ev.now (decide ((l.length : Int) ≤ 120))).to fun k => ?_) (by cases prevP l i <;> simp only [pairsOk, Bool.and_true] <;> rw [decide_eq_decide] <;> omega)
    simp only [impl_MapOk.l0]
    rw [if_neg (by omega)]
  | d + 1, i, hi => by
    have hlt : i < l.length := by omega
    have ih := iMO_go l hl d (i + 1) (by omega)
    rw [List.drop_eq_getElem_cons hlt]
    have w2 : Aside0 (wrap64 ((i : Int) + 1) = ((i + 1 : Nat) : Int)) := ⟨by rw [wid (by omega) (by omega)]; rfl⟩
    cases hb : pairOk l[i] with
    | false =>
      have e : pairsOk (prevP l i) (l[i] :: l.drop (i + 1)) = false := by cases prevP l i <;> simp [pairsOk, hb]
      rw [e, Bool.and_false]
      unfold pairOk at hb
      rw [decide_eq_false_iff_not] at hb
      refine (Ev.now _).to fun k => ?_
      simp only [impl_MapOk.l0]
      rw [if_pos (by omega), if_pos (by omega), if_pos (by omega), ri_Pair hlt, i_in]
      simp only [Option.bind_some]
      by_cases h1 : 1 ≤ (l[i].f0.size : Int) ∧ (l[i].f0.size : Int) ≤ 8
      · rw [if_pos (decide_eq_true h1), if_pos (by omega)]
      · rw [if_neg (by simpa using h1)]
    | true =>
      have hb' := hb
      unfold pairOk at hb'
      rw [decide_eq_true_eq] at hb'
      rcases i with _ | i
      · have e : pairsOk (prevP l 0) (l[0] :: l.drop (0 + 1)) = pairsOk (prevP l (0 + 1)) (l.drop (0 + 1)) := by rw [prevP_succ hlt]; simp [pairsOk, hb, prevP]
        rw [e]
        refine ih.to fun k => ?_
        simp only [impl_MapOk.l0]
        rw [if_pos (by omega), if_pos (by omega), if_pos (by omega), ri_Pair hlt, i_in_t (by omega)]
        simp only [Option.bind_some, if_true]
        rw [if_neg (by omega), if_neg (by omega), w2.out]
      · have hlt' : i < l.length := by omega
        have e : pairsOk (prevP l (i + 1)) (l[i + 1] :: l.drop (i + 1 + 1)) = (keyLt l[i].f0 l[i + 1].f0 && pairsOk (prevP l (i + 1 + 1)) (l.drop (i + 1 + 1))) := by rw [prevP_succ hlt', prevP_succ hlt]; simp [pairsOk, hb]
        rw [e]
        have w1 : Aside0 (wrap64 (((i + 1 : Nat) : Int) - 1) = (i : Int)) := ⟨by rw [wid (by omega) (by omega)]; omega⟩
        cases hk : keyLt l[i].f0 l[i + 1].f0 with
        | false =>
          rw [Bool.false_and, Bool.and_false]
          refine (Ev.now _).to fun k => ?_
          simp only [impl_MapOk.l0]
          rw [if_pos (by omega), if_pos (by omega), if_pos (by omega), ri_Pair hlt, i_in_t (by omega)]
          simp only [Option.bind_some, if_true]
          rw [if_neg (by omega), if_pos (by omega), w1.out, if_pos (by omega), if_pos (by omega), ri_Pair hlt', if_neg (by unfold keyLt at hk; rw [hk]; decide)]
        | true =>
          rw [Bool.true_and]
          refine ih.to fun k => ?_
          simp only [impl_MapOk.l0]
          rw [if_pos (by omega), if_pos (by omega), if_pos (by omega), ri_Pair hlt, i_in_t (by omega)]
          simp only [Option.bind_some, if_true]
          rw [if_neg (by omega), if_pos (by omega), w1.out, if_pos (by omega), if_pos (by omega), ri_Pair hlt', if_pos (show Op.bytesLess l[i].f0.toList l[i + 1].f0.toList = true from hk), w2.out]
theorem iMapOk (l : List S100) (hl : l.length ≤ 1048576) : Ev (fun k => impl_MapOk.f k l) (mapOk l) := by
  unfold impl_MapOk.f mapOk
  exact iMO_go l hl l.length 0 (by omega)

theorem FnExactMapOk : laws_FnExactMapOk.Pure := by
  intro l hl
  refine Ev.rounds (g := fun k => laws_FnExactMapOk.f k l) ?_
  unfold laws_FnExactMapOk.f
  obtain ⟨r, hr, hc⟩ := szPairS l hl.1 hl.2 1048576 (by decide) (by decide)
  refine hr.bind ?_
  by_cases h : r < 0
  · exact Ev.ifp h (Ev.now _)
  · refine Ev.ifn h ?_
    have hll := (hc.resolve_left h).2.1
    have hm : (l.map cvPair).length ≤ 1048576 := by rw [List.length_map]; exact hll
    refine (toPairS l hll).bind ((sMapOk _ hm).bind ((toPairS l hll).bind ((iMapOk _ hm).bind ?_)))
    simp only [bne_rfl_bool, Bool.false_eq_true, if_false]
    exact (toPairS l hll).bind ((eqPairS _ (by omega)).bind (Ev.ifp rfl (Ev.now _)))

end Go.Proofs.Ytjhgcdjpabhifaa.Pure
